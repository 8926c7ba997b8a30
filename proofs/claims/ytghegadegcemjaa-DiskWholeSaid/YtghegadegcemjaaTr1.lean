/- Trees, printed by program. -/
import Derived.Test.YtghegadegcemjaaTr0
import Derived.KernelRfl
set_option linter.unusedVariables false
namespace Go.Proofs.Ytghegadegcemjaa
open Go.Flat
theorem l25_DiskWhole_eq (n:Nat) (n_:Int) (before:(List Tplimsolllaw25_Act)) (behind:(List Tplimsolllaw25_Act)) (keep:(List Bool)):l25_DiskWhole (n+1) n_ before behind keep =
 obind (l25_lives n ) fun r0 =>
 tif ((!r0)) (
 some false) (
 obind (disk_New n n_) fun r1 =>
 oelim (r1.1) (
 tif ((!(decide (r1.2=0)))) (
 some true) (
 some true)) fun r2 =>
 tif ((!(decide (r1.2=0)))) (
 some (decide (r1.2=0))) (
 tif ((decide ((60:Int)<n_))) (
 some (decide (r1.2=0))) (
 tif ((decide ((60:Int)<(((List.length before):Nat):Int)))) (
 some (decide (r1.2=0))) (
 tif ((decide ((60:Int)<(((List.length behind):Nat):Int)))) (
 some (decide (r1.2=0))) (
 obind (l25_DiskWhole_l7 n loopFuel (behind,(keep,(r2,(before,((((List.length before):Nat):Int),((0:Int),()))))))) fun r3 =>
 selim (fun y4 =>
 obind (disk_Disk_Sync n y4.2.2.1) fun r5 =>
 tif ((!(decide (r5.1=0)))) (
 some false) (
 obind (disk_Disk_Safe n r5.2) fun r6 =>
 obind (l25_DiskWhole_l16 n loopFuel (y4.1,(y4.2.1,(r6.2,(r6.1,((0:Int),(y4.1,((((List.length y4.1):Nat):Int),((0:Int),()))))))))) fun r7 =>
 selim (fun y8 =>
 obind (disk_Disk_Pending n y8.2.2.1) fun r9 =>
 tif ((!(decide ((((List.length r9.1):Nat):Int)=y8.2.2.2.2.1)))) (
 some false) (
 obind (disk_Disk_Up n r9.2 y8.2.1) fun r10 =>
 obind (disk_Disk_Safe n r10.2) fun r11 =>
 obind (l25_DiskWhole_l25 n loopFuel (y8.1,(y8.2.1,(r11.2,(y8.2.2.2.1,(r11.1,((((List.length r11.1):Nat):Int),((0:Int),())))))))) fun r12 =>
 selim (fun y13 =>
 obind (disk_Disk_Pending n y13.1) fun r14 =>
 tif ((decide ((((List.length r14.1):Nat):Int)=0))) (
 obind (disk_Disk_Down n r14.2) fun r15 =>
 some (!r15.1)) (
 some false)) (fun z16 =>
 some z16) r12)) (fun z17 =>
 some z17) r7)) (fun z18 =>
 some z18) r3))))):=by kernel_rfl
theorem l25_DiskWhole_l7_eq (n f:Nat) (behind:(List Tplimsolllaw25_Act)) (keep:(List Bool)) (d:Tplimsollref25_Disk) (s57:(List Tplimsolllaw25_Act)) (s58:Int) (s59:Int):l25_DiskWhole_l7 n (f+1) (behind,keep,d,s57,s58,s59,()) =
 tif ((decide (s59<s58))) (
 obind (at? s57 s59) fun r0 =>
 obind (l25_text n r0.2.2.1) fun r1 =>
 obind (disk_Disk_Write n d r0.2.1 r1) fun r2 =>
 l25_DiskWhole_l7 n f (behind,(keep,(r2.2,(s57,(s58,((IntKind.wrap .i64 (s59+1)),()))))))) (
 some (.inl (behind,(keep,(d,()))))):=by kernel_rfl
theorem l25_DiskWhole_l16_eq (n f:Nat) (behind:(List Tplimsolllaw25_Act)) (keep:(List Bool)) (d:Tplimsollref25_Disk) (was:(List (List UInt8))) (k:Int) (s76:(List Tplimsolllaw25_Act)) (s77:Int) (s78:Int):l25_DiskWhole_l16 n (f+1) (behind,keep,d,was,k,s76,s77,s78,()) =
 tif ((decide (s78<s77))) (
 obind (at? s76 s78) fun r0 =>
 obind (l25_text n r0.2.2.1) fun r1 =>
 obind (disk_Disk_Write n d r0.2.1 r1) fun r2 =>
 tif ((decide (r2.1=0))) (
 l25_DiskWhole_l16 n f (behind,(keep,(r2.2,(was,((IntKind.wrap .i64 (k+1)),(s76,(s77,((IntKind.wrap .i64 (s78+1)),()))))))))) (
 l25_DiskWhole_l16 n f (behind,(keep,(r2.2,(was,(k,(s76,(s77,((IntKind.wrap .i64 (s78+1)),())))))))))) (
 some (.inl (behind,(keep,(d,(was,(k,()))))))):=by kernel_rfl
theorem l25_DiskWhole_l25_eq (n f:Nat) (behind:(List Tplimsolllaw25_Act)) (keep:(List Bool)) (d:Tplimsollref25_Disk) (was:(List (List UInt8))) (s102:(List (List UInt8))) (s103:Int) (s104:Int):l25_DiskWhole_l25 n (f+1) (behind,keep,d,was,s102,s103,s104,()) =
 tif ((decide (s104<s103))) (
 obind (at? s102 s104) fun r0 =>
 obind ((s102)[(Int.toNat s104)]?) fun r1 =>
 obind (at? was s104) fun r2 =>
 obind ((was)[(Int.toNat s104)]?) fun r3 =>
 obind (l25_DiskWhole_l29 n loopFuel (behind,(keep,(d,(was,(s104,(r1,((r1==r3),(s102,(s103,(s104,(behind,((((List.length behind):Nat):Int),((0:Int),())))))))))))))) fun r4 =>
 selim (fun y5 =>
 obind (disk_Disk_Read n y5.2.2.1 y5.2.2.2.2.1) fun r6 =>
 tif ((!y5.2.2.2.2.2.2.1)) (
 some (.inr false)) (
 tif ((!(decide (r6.2.1=0)))) (
 some (.inr false)) (
 tif ((!(r6.1==y5.2.2.2.2.2.1))) (
 some (.inr false)) (
 tif ((decide ((((List.length y5.2.1):Nat):Int)=0))) (
 obind (at? y5.2.2.2.1 y5.2.2.2.2.1) fun r7 =>
 obind ((y5.2.2.2.1)[(Int.toNat y5.2.2.2.2.1)]?) fun r8 =>
 tif ((!(y5.2.2.2.2.2.1==r8))) (
 some (.inr false)) (
 l25_DiskWhole_l25 n f (y5.1,(y5.2.1,(r6.2.2,(y5.2.2.2.1,(y5.2.2.2.2.2.2.2.1,(y5.2.2.2.2.2.2.2.2.1,((IntKind.wrap .i64 (y5.2.2.2.2.2.2.2.2.2.1+1)),()))))))))) (
 l25_DiskWhole_l25 n f (y5.1,(y5.2.1,(r6.2.2,(y5.2.2.2.1,(y5.2.2.2.2.2.2.2.1,(y5.2.2.2.2.2.2.2.2.1,((IntKind.wrap .i64 (y5.2.2.2.2.2.2.2.2.2.1+1)),())))))))))))) (fun z9 =>
 some (.inr z9)) r4) (
 some (.inl (d,()))):=by kernel_rfl
theorem l25_DiskWhole_l29_eq (n f:Nat) (behind:(List Tplimsolllaw25_Act)) (keep:(List Bool)) (d:Tplimsollref25_Disk) (was:(List (List UInt8))) (i:Int) (s:List UInt8) (ok:Bool) (s102:(List (List UInt8))) (s103:Int) (s104:Int) (s115:(List Tplimsolllaw25_Act)) (s116:Int) (s117:Int):l25_DiskWhole_l29 n (f+1) (behind,keep,d,was,i,s,ok,s102,s103,s104,s115,s116,s117,()) =
 tif ((decide (s117<s116))) (
 obind (at? s115 s117) fun r0 =>
 tif (ok) (
 l25_DiskWhole_l29 n f (behind,(keep,(d,(was,(i,(s,(true,(s102,(s103,(s104,(s115,(s116,((IntKind.wrap .i64 (s117+1)),())))))))))))))) (
 tif ((decide (r0.2.1=i))) (
 obind (l25_text n r0.2.2.1) fun r1 =>
 l25_DiskWhole_l29 n f (behind,(keep,(d,(was,(i,(s,((s==r1),(s102,(s103,(s104,(s115,(s116,((IntKind.wrap .i64 (s117+1)),())))))))))))))) (
 l25_DiskWhole_l29 n f (behind,(keep,(d,(was,(i,(s,(false,(s102,(s103,(s104,(s115,(s116,((IntKind.wrap .i64 (s117+1)),())))))))))))))))) (
 some (.inl (behind,(keep,(d,(was,(i,(s,(ok,(s102,(s103,(s104,())))))))))))):=by kernel_rfl
theorem disk_New_eq (n:Nat) (n_:Int):disk_New (n+1) n_ =
 tif ((decide (n_<1))) (
 some (none,(1:Int))) (
 tif ((decide ((16777216:Int)<n_))) (
 some (none,(1:Int))) (
 obind (strings_Repeat n ((0:UInt8)::[]) (512:Int)) fun r0 =>
 obind (sl_Repeat_string n (r0::[]) n_) fun r1 =>
 some ((some (r1,([],((0:Int),false)))),(0:Int)))):=by kernel_rfl
theorem disk_Disk_Write_eq (n:Nat) (d:Tplimsollref25_Disk) (i:Int) (s:List UInt8):disk_Disk_Write (n+1) d i s =
 obind (disk_Disk_has n d i) fun r0 =>
 tif ((!r0.1)) (
 some ((1:Int),r0.2)) (
 tif ((!(decide ((((List.length s):Nat):Int)=512)))) (
 some ((1:Int),r0.2)) (
 obind (disk_Disk_step n r0.2) fun r1 =>
 tif ((decide (r1.1=0))) (
 tif ((decide ((((List.length r1.2.2.1)+1)*24)≤140737488355328))) (
 some (r1.1,(r1.2.1,((r1.2.2.1++((i,s)::[])),r1.2.2.2)))) (
 none)) (
 some r1))):=by kernel_rfl
theorem disk_Disk_Sync_eq (n:Nat) (d:Tplimsollref25_Disk):disk_Disk_Sync (n+1) d =
 obind (disk_Disk_step n d) fun r0 =>
 tif ((decide (r0.1=0))) (
 obind (disk_Disk_keep n r0.2 (fun y1=>disk_Disk_Sync_1 n y1.1)) fun r2 =>
 some (r0.1,r2.2)) (
 some r0):=by kernel_rfl
theorem disk_Disk_Safe_eq (n:Nat) (d:Tplimsollref25_Disk):disk_Disk_Safe (n+1) d =
 obind (sl_Clone_string n d.1) fun r0 =>
 some (r0,d):=by kernel_rfl
theorem disk_Disk_Pending_eq (n:Nat) (d:Tplimsollref25_Disk):disk_Disk_Pending (n+1) d =
 obind (sl_Clone_Change n d.2.1) fun r0 =>
 some (r0,d):=by kernel_rfl
theorem disk_Disk_Up_eq (n:Nat) (d:Tplimsollref25_Disk) (keep:(List Bool)):disk_Disk_Up (n+1) d keep =
 obind (disk_Disk_keep n (d.1,(d.2.1,((0:Int),false))) (fun y0=>disk_Disk_Up_1 n y0.1 keep)) fun r1 =>
 some r1:=by kernel_rfl
theorem disk_Disk_Down_eq (n:Nat) (d:Tplimsollref25_Disk):disk_Disk_Down (n+1) d =
 some (d.2.2.2,d):=by kernel_rfl
theorem disk_Disk_Arm_eq (n:Nat) (d:Tplimsollref25_Disk) (n_:Int):disk_Disk_Arm (n+1) d n_ =
 some (d.1,(d.2.1,((if n_<0 then (0:Int) else n_),d.2.2.2))):=by kernel_rfl
theorem disk_Disk_Len_eq (n:Nat) (d:Tplimsollref25_Disk):disk_Disk_Len (n+1) d =
 some ((((List.length d.1):Nat):Int),d):=by kernel_rfl
theorem sl_Repeat_string_eq (n:Nat) (x:(List (List UInt8))) (count:Int):sl_Repeat_string (n+1) x count =
 tif ((decide (count<0))) (
 none) (
 obind (math_bits_Mul n (IntKind.wrap .u64 (((List.length x):Nat):Int)) (IntKind.wrap .u64 count)) fun r0 =>
 tif ((decide ((0:Int)<r0.1))) (
 none) (
 tif ((decide ((9223372036854775807:Int)<r0.2))) (
 none) (
 tif (((decide ((0:Int)≤(IntKind.wrap .i64 r0.2)))&&((decide ((IntKind.wrap .i64 r0.2)≤(IntKind.wrap .i64 r0.2)))&&(decide (((IntKind.wrap .i64 r0.2)*16)≤140737488355328))))) (
 obind (sl_Repeat_string_l8 n loopFuel ((Go.Flat.putRow (List.replicate (Int.toNat (IntKind.wrap .i64 r0.2)) []) 0 (List.take (List.length (List.replicate (Int.toNat (IntKind.wrap .i64 r0.2)) ([]:List UInt8))) x)),((((List.length (List.take (List.length (List.replicate (Int.toNat (IntKind.wrap .i64 r0.2)) ([]:List UInt8))) x)):Nat):Int),()))) fun r1 =>
 selim (fun y2 =>
 some y2.1) (fun z3 =>
 some z3) r1) (
 none)))):=by kernel_rfl
theorem sl_Repeat_string_l8_eq (n f:Nat) (newslice:(List (List UInt8))) (n_:Int):sl_Repeat_string_l8 n (f+1) (newslice,n_,()) =
 tif ((decide (n_<(((List.length newslice):Nat):Int)))) (
 tif ((decide ((0:Int)≤n_))) (
 tif ((decide ((Int.toNat n_)≤(List.length newslice)))) (
 tif (((decide ((0:Int)≤n_))&&(decide (n_≤(((List.length newslice):Nat):Int))))) (
 tif ((decide (((Int.toNat n_)+((List.length newslice)-(Int.toNat n_)))≤(List.length newslice)))) (
 sl_Repeat_string_l8 n f ((Go.Flat.putRow newslice (Int.toNat n_) (List.take ((List.length newslice)-(Int.toNat n_)) (List.take ((Int.toNat n_)-0) (List.drop 0 newslice)))),((IntKind.wrap .i64 (n_+(((List.length (List.take ((List.length newslice)-(Int.toNat n_)) (List.take ((Int.toNat n_)-0) (List.drop 0 newslice)))):Nat):Int))),()))) (
 none)) (
 none)) (
 none)) (
 none)) (
 some (.inl (newslice,()))):=by kernel_rfl
theorem disk_Disk_has_eq (n:Nat) (d:Tplimsollref25_Disk) (i:Int):disk_Disk_has (n+1) d i =
 tif ((decide ((0:Int)≤i))) (
 some ((decide (i<(((List.length d.1):Nat):Int))),d)) (
 some (false,d)):=by kernel_rfl
theorem disk_Disk_step_eq (n:Nat) (d:Tplimsollref25_Disk):disk_Disk_step (n+1) d =
 tif (d.2.2.2) (
 some ((14:Int),d)) (
 tif ((decide (d.2.2.1=1))) (
 some ((14:Int),(d.1,(d.2.1,((0:Int),true))))) (
 tif ((decide ((1:Int)<d.2.2.1))) (
 some ((0:Int),(d.1,(d.2.1,((IntKind.wrap .i64 (d.2.2.1-1)),d.2.2.2))))) (
 some ((0:Int),d)))):=by kernel_rfl
theorem disk_Disk_keep_eq (n:Nat) (d:Tplimsollref25_Disk) (is:((Int×Unit)→Option Bool)):disk_Disk_keep (n+1) d is =
 obind (disk_Disk_keep_l3 n loopFuel (d,(is,((0:Int),((((List.length d.2.1):Nat):Int),((0:Int),())))))) fun r0 =>
 selim (fun y1 =>
 some (y1.2.1,(y1.1.1,([],y1.1.2.2)))) (fun z2 =>
 some z2) r0:=by kernel_rfl
theorem disk_Disk_keep_l3_eq (n f:Nat) (d:Tplimsollref25_Disk) (is:((Int×Unit)→Option Bool)) (n_:Int) (s12:Int) (s13:Int):disk_Disk_keep_l3 n (f+1) (d,is,n_,s12,s13,()) =
 tif ((decide (s13<s12))) (
 obind (at? d.2.1 s13) fun r0 =>
 obind ((d.2.1)[(Int.toNat s13)]?) fun r1 =>
 obind (is (s13,())) fun r2 =>
 tif (r2) (
 obind (at? d.1 r1.1) fun r3 =>
 obind ((d.1)[(Int.toNat r1.1)]?) fun r4 =>
 disk_Disk_keep_l3 n f (((List.set d.1 (Int.toNat r1.1) r1.2),d.2),(is,((IntKind.wrap .i64 (n_+1)),(s12,((IntKind.wrap .i64 (s13+1)),())))))) (
 disk_Disk_keep_l3 n f (d,(is,(n_,(s12,((IntKind.wrap .i64 (s13+1)),()))))))) (
 some (.inl (d,(n_,())))):=by kernel_rfl
theorem disk_Disk_Sync_1_eq (n:Nat) (p0:Int):disk_Disk_Sync_1 (n+1) p0 =
 some true:=by kernel_rfl
theorem sl_Clone_string_eq (n:Nat) (s:(List (List UInt8))):sl_Clone_string (n+1) s =
 tif ((decide ((List.length s)=0))) (
 both (
 some []) (
 tif ((decide (((0+(List.length s))*16)≤140737488355328))) (
 some ([]++s)) (
 none))) (
 tif ((decide (((0+(List.length s))*16)≤140737488355328))) (
 some ([]++s)) (
 none)):=by kernel_rfl
theorem sl_Clone_Change_eq (n:Nat) (s:(List (Int×List UInt8))):sl_Clone_Change (n+1) s =
 tif ((decide ((List.length s)=0))) (
 both (
 some []) (
 tif ((decide (((0+(List.length s))*24)≤140737488355328))) (
 some ([]++s)) (
 none))) (
 tif ((decide (((0+(List.length s))*24)≤140737488355328))) (
 some ([]++s)) (
 none)):=by kernel_rfl
theorem disk_Disk_Up_1_eq (n:Nat) (i:Int) (p1:(List Bool)):disk_Disk_Up_1 (n+1) i p1 =
 tif ((decide (i<(((List.length p1):Nat):Int)))) (
 obind (at? p1 i) fun r0 =>
 some r0) (
 some false):=by kernel_rfl
theorem math_bits_Mul_eq (n:Nat) (x:Int) (y:Int):math_bits_Mul (n+1) x y =
 obind (math_bits_Mul64 n x y) fun r0 =>
 some r0:=by kernel_rfl
theorem math_bits_Mul64_eq (n:Nat) (x:Int) (y:Int):math_bits_Mul64 (n+1) x y =
 some ((IntKind.wrap .u64 ((IntKind.wrap .u64 ((IntKind.wrap .u64 ((shrI .u64 x (32:Int))*(shrI .u64 y (32:Int))))+(shrI .u64 (IntKind.wrap .u64 ((IntKind.wrap .u64 ((shrI .u64 x (32:Int))*(andI .u64 y (4294967295:Int))))+(shrI .u64 (IntKind.wrap .u64 ((andI .u64 x (4294967295:Int))*(andI .u64 y (4294967295:Int)))) (32:Int)))) (32:Int))))+(shrI .u64 (IntKind.wrap .u64 ((andI .u64 (IntKind.wrap .u64 ((IntKind.wrap .u64 ((shrI .u64 x (32:Int))*(andI .u64 y (4294967295:Int))))+(shrI .u64 (IntKind.wrap .u64 ((andI .u64 x (4294967295:Int))*(andI .u64 y (4294967295:Int)))) (32:Int)))) (4294967295:Int))+(IntKind.wrap .u64 ((andI .u64 x (4294967295:Int))*(shrI .u64 y (32:Int)))))) (32:Int)))),(IntKind.wrap .u64 (x*y))):=by kernel_rfl
theorem disk_Disk_Read_eq (n:Nat) (x0:List (List UInt8)×(List (Int×List UInt8)×(Int×Bool))) (x1:Int):disk_Disk_Read (n+1) x0 x1=dkRead x0 x1:=by
    have h:disk_Disk_Read (n+1) x0 x1=Option.bind (dkRead x0 x1) (fun z=>some z):=by kernel_rfl
    rw[h];cases dkRead x0 x1<;>rfl
end Go.Proofs.Ytghegadegcemjaa
