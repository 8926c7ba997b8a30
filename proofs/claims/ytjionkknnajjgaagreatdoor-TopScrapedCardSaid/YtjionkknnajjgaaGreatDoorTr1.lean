/- Trees, printed by program. -/
import Derived.Test.YtjionkknnajjgaaGreatDoorTr0
import Derived.KernelRfl
set_option linter.unusedVariables false
namespace Go.Proofs.YtjionkknnajjgaaGreatDoor
open Go.Flat
theorem u0w (n:Nat) (s:b0b) (rows:(List TRow)) (at_:Int):r0f (n+1) s rows at_ =
 a0a (o0p n ) fun r0 =>
 tif ((!r0)) (
 some false) (
 a0a (u0g n s) fun r1 =>
 tif ((decide (r1=0))) (
 some true) (
 tif ((decide ((20:Int)<(((List.length rows):Nat):Int)))) (
 some true) (
 tif ((decide (at_<0))) (
 some true) (
 tif ((decide ((((List.length rows):Nat):Int)<at_))) (
 some true) (
 a0a (f0e n a0c (rows,(at_,(s,(rows,((((List.length rows):Nat):Int),(0,()))))))) fun r2 =>
 c0w (fun y3 =>
 tif (((decide ((0:Int)≤y3.2.1))&&(decide (y3.2.1≤(((List.length y3.1):Nat):Int))))) (
 a0a (y0j n (List.drop 0 (List.take (Int.toNat y3.2.1) y3.1))) fun r4 =>
 tif ((decide ((0:Int)≤y3.2.1))) (
 tif ((decide ((Int.toNat y3.2.1)≤(List.length y3.1)))) (
 a0a (y0j n (List.drop (Int.toNat y3.2.1) (List.take (List.length y3.1) y3.1))) fun r5 =>
 tif ((!(decide (r4.2=0)))) (
 tif ((decide (r4.2=0))) (
 tif ((decide (r5.2=0))) (
 some true) (
 some (r5.1==[]))) (
 tif ((r4.1==[])) (
 tif ((decide (r5.2=0))) (
 some true) (
 some (r5.1==[]))) (
 some false))) (
 tif ((!(decide (r5.2=0)))) (
 tif ((decide (r4.2=0))) (
 tif ((decide (r5.2=0))) (
 some true) (
 some (r5.1==[]))) (
 tif ((r4.1==[])) (
 tif ((decide (r5.2=0))) (
 some true) (
 some (r5.1==[]))) (
 some false))) (
 tif ((decide ((6+(List.length r4.1))≤9223372036854775807))) (
 tif ((decide (((List.length (((35:UInt8)::((32:UInt8)::((97:UInt8)::((108:UInt8)::((108:UInt8)::((10:UInt8)::[]))))))++r4.1))+13)≤9223372036854775807))) (
 tif ((decide (((List.length ((((35:UInt8)::((32:UInt8)::((97:UInt8)::((108:UInt8)::((108:UInt8)::((10:UInt8)::[]))))))++r4.1)++((10:UInt8)::((110:UInt8)::((111:UInt8)::((110:UInt8)::((101:UInt8)::((10:UInt8)::((35:UInt8)::((32:UInt8)::((109:UInt8)::((111:UInt8)::((114:UInt8)::((101:UInt8)::((10:UInt8)::[])))))))))))))))+(List.length r5.1))≤9223372036854775807))) (
 a0a (s0z n (((((35:UInt8)::((32:UInt8)::((97:UInt8)::((108:UInt8)::((108:UInt8)::((10:UInt8)::[]))))))++r4.1)++((10:UInt8)::((110:UInt8)::((111:UInt8)::((110:UInt8)::((101:UInt8)::((10:UInt8)::((35:UInt8)::((32:UInt8)::((109:UInt8)::((111:UInt8)::((114:UInt8)::((101:UInt8)::((10:UInt8)::[]))))))))))))))++r5.1)) fun r6 =>
 tif ((!(decide (r6.2=1)))) (
 some false) (
 a0a (p0a n r6.1 y3.1) fun r7 =>
 tif ((!r7)) (
 some false) (
 a0a (d0k n a0c (y3.2.2.1,(r6.1,(y3.2.2.1,(y3.1,((((List.length y3.1):Nat):Int),(0,()))))))) fun r8 =>
 c0w (fun y9 =>
 a0a (f1m n y9.1 y9.2.1) fun r10 =>
 some r10) (fun z11 =>
 some z11) r8))) (
 none)) (
 none)) (
 none)))) (
 none)) (
 none)) (
 none)) (fun z12 =>
 some z12) r2))))):=by kernel_rfl
theorem i0w (n f:Nat) (rows:(List TRow)) (at_:Int) (s_:b0b) (s42:(List TRow)) (s43:Int) (s44:Int):f0e n (f+1) (rows,at_,s_,s42,s43,s44,()) =
 tif ((decide (s44<s43))) (
 a0a (at? s42 s44) fun r0 =>
 a0a (k0l n r0.1) fun r1 =>
 tif ((decide (r1=0))) (
 some (.inr true)) (
 f0e n f (rows,(at_,(s_,(s42,(s43,((IntKind.wrap .i64 (s44+1)),())))))))) (
 some (.inl (rows,(at_,(s_,()))))):=by kernel_rfl
theorem i0f (n f:Nat) (s_:b0b) (got:(List TRow)) (t:b0b) (s105:(List TRow)) (s106:Int) (s107:Int):d0k n (f+1) (s_,got,t,s105,s106,s107,()) =
 tif ((decide (s107<s106))) (
 a0a (at? s105 s107) fun r0 =>
 a0a (s0o n s_ r0.1 r0.2) fun r1 =>
 a0a (at? got s107) fun r2 =>
 a0a (at? got s107) fun r3 =>
 a0a (s0o n t r2.1 r3.2) fun r4 =>
 tif ((!(decide (r1.2=r4.2)))) (
 some (.inr false)) (
 tif ((decide (r1.2=0))) (
 d0k n f (r1.1,(got,(r4.1,(s105,(s106,((IntKind.wrap .i64 (s107+1)),()))))))) (
 d0k n f (s_,(got,(t,(s105,(s106,((IntKind.wrap .i64 (s107+1)),()))))))))) (
 some (.inl (s_,(t,())))):=by kernel_rfl
theorem n1e (n:Nat) (rows:(List TRow)):y0j (n+1) rows =
 a0a (n0f n a0c ([],(rows,((((List.length rows):Nat):Int),(0,()))))) fun r0 =>
 c0w (fun y1 =>
 a0a (d0h n y1.1) fun r2 =>
 some (r2.1,0)) (fun z3 =>
 some z3) r0:=by kernel_rfl
theorem r0g (n f:Nat) (b:List UInt8) (s9:(List TRow)) (s10:Int) (s11:Int):n0f n (f+1) (b,s9,s10,s11,()) =
 tif ((decide (s11<s10))) (
 a0a (at? s9 s11) fun r0 =>
 a0a (l0q n r0) fun r1 =>
 tif ((!(decide (r1.2=0)))) (
 some (.inr ([],r1.2))) (
 a0a (b0p n b r1.1) fun r2 =>
 a0a (a0h n r2.2.2 (10:Int)) fun r3 =>
 n0f n f (r3.2,(s9,(s10,((IntKind.wrap .i64 (s11+1)),())))))) (
 some (.inl (b,()))):=by kernel_rfl
theorem t0a (n:Nat) (line:List UInt8):l0p (n+1) line =
 a0a (strings_LastIndexByte n line (125:Int)) fun r0 =>
 tif (((decide ((0:Int)≤(IntKind.wrap .i64 (r0+1))))&&(decide ((IntKind.wrap .i64 (r0+1))≤(((List.length line):Nat):Int))))) (
 a0a (n0z n (List.drop 0 (List.take (Int.toNat (IntKind.wrap .i64 (r0+1))) line))) fun r1 =>
 tif ((decide ((0:Int)≤(IntKind.wrap .i64 (r0+1))))) (
 tif ((decide ((Int.toNat (IntKind.wrap .i64 (r0+1)))≤(List.length line)))) (
 a0a (s0y n (List.drop (Int.toNat (IntKind.wrap .i64 (r0+1))) (List.take (List.length line) line))) fun r2 =>
 tif ((!(decide (r1.2=0)))) (
 some (([],(0,(0,(0,false)))),4)) (
 tif ((!r2.2)) (
 some (([],(0,(0,(0,false)))),4)) (
 a0a (l0q n (r1.1,r2.1)) fun r3 =>
 tif ((!(decide (r3.2=0)))) (
 some (([],(0,(0,(0,false)))),4)) (
 tif ((!(r3.1==line))) (
 some (([],(0,(0,(0,false)))),4)) (
 some ((r1.1,r2.1),0)))))) (
 none)) (
 none)) (
 none):=by kernel_rfl
theorem j1q (n:Nat) (s:List UInt8):s0z (n+1) s =
 a0a (u0x n s) fun r0 =>
 a0a (i0g n r0 ([],(0,()))) fun r1 =>
 some (r1.1,r1.2.1):=by kernel_rfl
theorem x0n (n:Nat) (x:((List TRow)×(Int×Unit))):i0g n [] x=some x:=by kernel_rfl
theorem u0y (n:Nat) (y:(List UInt8×Unit)) (r:List (List UInt8×Unit)) (out:(List TRow)) (others:Int):i0g n (y::r) (out,others,()) =
 a0a (a0a (l0p n y.1) fun r0 =>
 tif ((!(decide (r0.2=0)))) (
 some (out,((IntKind.wrap .i64 (others+1)),()))) (
 tif ((decide ((((List.length out)+1)*56)≤140737488355328))) (
 some ((out++(r0.1::[])),(others,()))) (
 none))) fun r1 =>
 i0g n r r1:=by kernel_rfl
theorem o1i (n:Nat) (a:TRow) (b:TRow):g1f (n+1) a b =
 a0a (g1g n a.1 b.1) fun r0 =>
 tif (r0) (
 some ((decide (a.2.1=b.2.1))&&((decide (a.2.2.1=b.2.2.1))&&((decide (a.2.2.2.1=b.2.2.2.1))&&(a.2.2.2.2==b.2.2.2.2))))) (
 some false):=by kernel_rfl
theorem a1e (n:Nat) (a:(List TRow)) (b:(List TRow)):p0a (n+1) a b =
 tif ((!(decide ((((List.length a):Nat):Int)=(((List.length b):Nat):Int))))) (
 some false) (
 a0a (g0s n a0c (a,(b,((((List.length a):Nat):Int),(0,()))))) fun r0 =>
 c0w (fun y1 =>
 some true) (fun z2 =>
 some z2) r0):=by kernel_rfl
theorem k0v (n f:Nat) (a:(List TRow)) (b:(List TRow)) (s12:Int) (s13:Int):g0s n (f+1) (a,b,s12,s13,()) =
 tif ((decide (s13<s12))) (
 a0a (at? a s13) fun r0 =>
 a0a (at? b s13) fun r1 =>
 a0a (g1f n r0 r1) fun r2 =>
 tif ((!r2)) (
 some (.inr false)) (
 g0s n f (a,(b,(s12,((IntKind.wrap .i64 (s13+1)),())))))) (
 some (.inl ())):=by kernel_rfl
theorem j1r (n:Nat) (r:TRow):l0q (n+1) r =
 a0a (v0z n r.1) fun r0 =>
 tif ((!(decide (r0.2=0)))) (
 some ([],r0.2)) (
 a0a (d0f n r.2) fun r1 =>
 tif ((!(decide (r1=0)))) (
 some ([],r1)) (
 tif ((decide ((List.length r0.1)≤140737488355328))) (
 tif ((decide ((((List.length (List.map (fun y15=>(((UInt8.toNat y15):Nat):Int)) r0.1))+1)*1)≤140737488355328))) (
 tif (r.2.2.2.2) (
 tif ((decide ((((List.length ((List.map (fun y8=>(((UInt8.toNat y8):Nat):Int)) r0.1)++((32:Int)::[])))+5)*1)≤140737488355328))) (
 tif ((decide ((((List.length (((List.map (fun y7=>(((UInt8.toNat y7):Nat):Int)) r0.1)++((32:Int)::[]))++((115:Int)::((116:Int)::((97:Int)::((108:Int)::((101:Int)::[])))))))+1)*1)≤140737488355328))) (
 a0a (d0b n ((((List.map (fun y2=>(((UInt8.toNat y2):Nat):Int)) r0.1)++((32:Int)::[]))++((115:Int)::((116:Int)::((97:Int)::((108:Int)::((101:Int)::[]))))))++((32:Int)::[])) r.2.1 (10:Int)) fun r3 =>
 tif ((decide ((0:Int)<r.2.2.2.1))) (
 tif ((decide ((((List.length r3)+1)*1)≤140737488355328))) (
 tif ((decide ((((List.length (r3++((32:Int)::[])))+1)*1)≤140737488355328))) (
 a0a (d0b n ((r3++((32:Int)::[]))++((99:Int)::[])) r.2.2.2.1 (10:Int)) fun r4 =>
 some ((List.map (fun y5=>(UInt8.ofNat (Int.toNat y5))) r4),(0:Int))) (
 none)) (
 none)) (
 some ((List.map (fun y6=>(UInt8.ofNat (Int.toNat y6))) r3),(0:Int)))) (
 none)) (
 none)) (
 a0a (g0n n ((List.map (fun y9=>(((UInt8.toNat y9):Nat):Int)) r0.1)++((32:Int)::[])) r.2.2.1 (10:Int)) fun r10 =>
 tif ((decide ((((List.length r10)+1)*1)≤140737488355328))) (
 a0a (d0b n (r10++((32:Int)::[])) r.2.1 (10:Int)) fun r11 =>
 tif ((decide ((0:Int)<r.2.2.2.1))) (
 tif ((decide ((((List.length r11)+1)*1)≤140737488355328))) (
 tif ((decide ((((List.length (r11++((32:Int)::[])))+1)*1)≤140737488355328))) (
 a0a (d0b n ((r11++((32:Int)::[]))++((99:Int)::[])) r.2.2.2.1 (10:Int)) fun r12 =>
 some ((List.map (fun y13=>(UInt8.ofNat (Int.toNat y13))) r12),(0:Int))) (
 none)) (
 none)) (
 some ((List.map (fun y14=>(UInt8.ofNat (Int.toNat y14))) r11),(0:Int)))) (
 none))) (
 none)) (
 none))):=by kernel_rfl
theorem l1k (n:Nat) (s:b0b):u0g (n+1) s =
 tif ((decide ((8:Int)<(((List.length s.2.2.2):Nat):Int)))) (
 some (0:Int)) (
 a0a (i0l n a0c (s.2.2.2,((((List.length s.2.2.2):Nat):Int),(0,())))) fun r0 =>
 c0w (fun y1 =>
 some (1:Int)) (fun z2 =>
 some z2) r0):=by kernel_rfl
theorem p0i (n f:Nat) (s10:(List b0j)) (s11:Int) (s12:Int):i0l n (f+1) (s10,s11,s12,()) =
 tif ((decide (s12<s11))) (
 a0a (at? s10 s12) fun r0 =>
 a0a (u0h n r0) fun r1 =>
 tif ((decide (r1=0))) (
 some (.inr (0:Int))) (
 i0l n f (s10,(s11,((IntKind.wrap .i64 (s12+1)),()))))) (
 some (.inl ())):=by kernel_rfl
theorem x0d (n:Nat) (l:(List (List UInt8×List UInt8))):k0l (n+1) l =
 a0a (e0y n a0c (l,((((List.length l):Nat):Int),(0,())))) fun r0 =>
 c0w (fun y1 =>
 some (1:Int)) (fun z2 =>
 some z2) r0:=by kernel_rfl
theorem g0y (n f:Nat) (s5:(List (List UInt8×List UInt8))) (s6:Int) (s7:Int):e0y n (f+1) (s5,s6,s7,()) =
 tif ((decide (s7<s6))) (
 a0a (at? s5 s7) fun r0 =>
 tif ((decide (s7=40))) (
 some (.inr (0:Int))) (
 tif ((decide ((1000:Int)<(((List.length r0.1):Nat):Int)))) (
 some (.inr (0:Int))) (
 tif ((decide ((1000:Int)<(((List.length r0.2):Nat):Int)))) (
 some (.inr (0:Int))) (
 e0y n f (s5,(s6,((IntKind.wrap .i64 (s7+1)),()))))))) (
 some (.inl ())):=by kernel_rfl
theorem j1d (n:Nat) (s:b0b) (l:(List (List UInt8×List UInt8))) (e:a0t):s0o (n+1) s l e =
 a0a (s0b n s l e) fun r0 =>
 tif ((!(decide (r0.2.2=0)))) (
 some (((0,((0,(0,0)),((0,(0,0)),(0,0)))),(0,(0,[]))),r0.2.2)) (
 a0a (z0d n s r0.1 r0.2.1 l) fun r1 =>
 tif ((!(decide (r1.2=0)))) (
 some (((0,((0,(0,0)),((0,(0,0)),(0,0)))),(0,(0,[]))),r1.2)) (
 a0a (v0i n s.1 r1.1 e) fun r2 =>
 tif ((!(decide (r2.2=0)))) (
 some (((0,((0,(0,0)),((0,(0,0)),(0,0)))),(0,(0,[]))),r2.2)) (
 a0a (k0f n s.2.2.2) fun r3 =>
 a0a (at? r3 r0.1) fun r4 =>
 a0a ((r3)[(Int.toNat r0.1)]?) fun r5 =>
 some ((s.1,(s.2.1,(s.2.2.1,(List.set r3 (Int.toNat r0.1) r2.1)))),0)))):=by kernel_rfl
theorem n1j (n:Nat) (a:b0b) (b:b0b):f1m (n+1) a b =
 tif (((decide (a.1.1=b.1.1))&&((decide (a.1.2.1.1=b.1.2.1.1))&&((decide (a.1.2.1.2.1=b.1.2.1.2.1))&&((decide (a.1.2.1.2.2=b.1.2.1.2.2))&&((decide (a.1.2.2.1.1=b.1.2.2.1.1))&&((decide (a.1.2.2.1.2.1=b.1.2.2.1.2.1))&&((decide (a.1.2.2.1.2.2=b.1.2.2.1.2.2))&&((decide (a.1.2.2.2.1=b.1.2.2.2.1))&&(decide (a.1.2.2.2.2=b.1.2.2.2.2))))))))))) (
 tif ((decide (a.2.1=b.2.1))) (
 tif ((decide (a.2.2.1=b.2.2.1))) (
 a0a (c0j n a.2.2.2 b.2.2.2 (fun y0=>e0x n y0.1 y0.2.1)) fun r1 =>
 some r1) (
 some false)) (
 some false)) (
 some false):=by kernel_rfl
theorem l0u (n:Nat) (s:List UInt8) (c:Int):strings_LastIndexByte (n+1) s c =
 a0a (bytealg_LastIndexByteString n s c) fun r0 =>
 some r0:=by kernel_rfl
theorem r0p (n:Nat) (s:List UInt8):n0z (n+1) s =
 a0a (strings_CutPrefix n s ((123:UInt8)::[])) fun r0 =>
 a0a (b0o n a0c (r0.1,(r0.2,([],())))) fun r1 =>
 c0w (fun y2 =>
 tif ((!y2.2.1)) (
 some ([],4)) (
 tif ((!(y2.1==((125:UInt8)::[])))) (
 some ([],4)) (
 a0a (g0h n y2.2.2.1) fun r3 =>
 tif ((!(decide (r3=0)))) (
 some ([],4)) (
 some (y2.2.2.1,0))))) (fun z4 =>
 some z4) r1:=by kernel_rfl
theorem f0n (n f:Nat) (rest:List UInt8) (ok:Bool) (out:(List (List UInt8×List UInt8))):b0o n (f+1) (rest,ok,out,()) =
 tif (ok) (
 tif ((!(rest==((125:UInt8)::[])))) (
 tif ((decide ((((List.length out):Nat):Int)≤16))) (
 tif ((decide ((0:Int)<(((List.length out):Nat):Int)))) (
 a0a (strings_CutPrefix n rest ((44:UInt8)::[])) fun r0 =>
 tif ((!r0.2)) (
 some (.inl (r0.1,(r0.2,(out,()))))) (
 a0a (strings_Cut n r0.1 ((61:UInt8)::((34:UInt8)::[]))) fun r1 =>
 a0a (f0m n r1.2.1) fun r2 =>
 tif ((decide ((((List.length out)+1)*32)≤140737488355328))) (
 tif (r1.2.2) (
 b0o n f (r2.2.1,(r2.2.2,((out++((r1.1,r2.1)::[])),())))) (
 b0o n f (r2.2.1,(false,((out++((r1.1,r2.1)::[])),()))))) (
 none))) (
 a0a (strings_Cut n rest ((61:UInt8)::((34:UInt8)::[]))) fun r3 =>
 a0a (f0m n r3.2.1) fun r4 =>
 tif ((decide ((((List.length out)+1)*32)≤140737488355328))) (
 tif (r3.2.2) (
 b0o n f (r4.2.1,(r4.2.2,((out++((r3.1,r4.1)::[])),())))) (
 b0o n f (r4.2.1,(false,((out++((r3.1,r4.1)::[])),()))))) (
 none))) (
 some (.inl (rest,(ok,(out,())))))) (
 some (.inl (rest,(ok,(out,())))))) (
 some (.inl (rest,(ok,(out,()))))):=by kernel_rfl
theorem w0s (n:Nat) (s:List UInt8):s0y (n+2) s =
 a0a (strings_Split (n+1) s ((32:UInt8)::[])) fun r0 =>
 tif ((decide ((((List.length r0):Nat):Int)<3))) (
 some ((0,(0,(0,false))),false)) (
 tif ((decide ((4:Int)<(((List.length r0):Nat):Int)))) (
 some ((0,(0,(0,false))),false)) (
 a0a (at? r0 (0:Int)) fun r1 =>
 tif ((!(r1==[]))) (
 some ((0,(0,(0,false))),false)) (
 a0a (at? r0 (1:Int)) fun r2 =>
 tif ((r2==((115:UInt8)::((116:UInt8)::((97:UInt8)::((108:UInt8)::((101:UInt8)::[]))))))) (
 a0a (at? r0 (2:Int)) fun r3 =>
 a0a (b0u n r3 (10:Int) (64:Int)) fun r4 =>
 tif ((decide ((((List.length r0):Nat):Int)=4))) (
 a0a (at? r0 (3:Int)) fun r5 =>
 a0a (strings_CutPrefix (n+1) r5 ((99:UInt8)::[])) fun r6 =>
 tif ((!r4.2)) (
 tif (r6.2) (
 a0a (b0u n r6.1 (10:Int) (64:Int)) fun r7 =>
 some ((r4.1,(0,(r7.1,true))),(!r7.2))) (
 some ((r4.1,(0,(0,true))),false))) (
 some ((r4.1,(0,(0,true))),false))) (
 some ((r4.1,(0,(0,true))),(!r4.2)))) (
 a0a (d0a n r2 (10:Int) (64:Int)) fun r8 =>
 tif ((!r8.2)) (
 a0a (at? r0 (2:Int)) fun r9 =>
 a0a (b0u n r9 (10:Int) (64:Int)) fun r10 =>
 tif ((decide ((((List.length r0):Nat):Int)=4))) (
 a0a (at? r0 (3:Int)) fun r11 =>
 a0a (strings_CutPrefix (n+1) r11 ((99:UInt8)::[])) fun r12 =>
 tif ((!r10.2)) (
 tif (r12.2) (
 a0a (b0u n r12.1 (10:Int) (64:Int)) fun r13 =>
 some ((r10.1,(r8.1,(r13.1,false))),(!r13.2))) (
 some ((r10.1,(r8.1,(0,false))),false))) (
 some ((r10.1,(r8.1,(0,false))),false))) (
 some ((r10.1,(r8.1,(0,false))),(!r10.2)))) (
 tif ((decide ((((List.length r0):Nat):Int)=4))) (
 a0a (at? r0 (3:Int)) fun r14 =>
 a0a (strings_CutPrefix (n+1) r14 ((99:UInt8)::[])) fun r15 =>
 some ((0,(r8.1,(0,false))),false)) (
 some ((0,(r8.1,(0,false))),false))))))):=by kernel_rfl
theorem o1j (n:Nat) (a:(List (List UInt8×List UInt8))) (b:(List (List UInt8×List UInt8))):g1g (n+1) a b =
 tif ((!(decide ((((List.length a):Nat):Int)=(((List.length b):Nat):Int))))) (
 some false) (
 a0a (k0j n a0c (a,(b,((((List.length a):Nat):Int),(0,()))))) fun r0 =>
 c0w (fun y1 =>
 some true) (fun z2 =>
 some z2) r0):=by kernel_rfl
theorem i0b (n f:Nat) (a:(List (List UInt8×List UInt8))) (b:(List (List UInt8×List UInt8))) (s12:Int) (s13:Int):k0j n (f+1) (a,b,s12,s13,()) =
 tif ((decide (s13<s12))) (
 a0a (at? a s13) fun r0 =>
 a0a (at? b s13) fun r1 =>
 tif ((!((r0.1==r1.1)&&(r0.2==r1.2)))) (
 some (.inr false)) (
 k0j n f (a,(b,(s12,((IntKind.wrap .i64 (s13+1)),())))))) (
 some (.inl ())):=by kernel_rfl
theorem h1e (n:Nat) (l:(List (List UInt8×List UInt8))):v0z (n+1) l =
 a0a (g0h n l) fun r0 =>
 tif ((!(decide (r0=0)))) (
 some ([],r0)) (
 a0a (g0w n a0c ([],(123,(l,((((List.length l):Nat):Int),(0,())))))) fun r1 =>
 c0w (fun y2 =>
 a0a (a0h n y2.1 (125:Int)) fun r3 =>
 a0a (d0h n r3.2) fun r4 =>
 some (r4.1,0)) (fun z5 =>
 some z5) r1):=by kernel_rfl
theorem o0m (n f:Nat) (b:List UInt8) (ahead:Int) (s14:(List (List UInt8×List UInt8))) (s15:Int) (s16:Int):g0w n (f+1) (b,ahead,s14,s15,s16,()) =
 tif ((decide (s16<s15))) (
 a0a (at? s14 s16) fun r0 =>
 a0a (a0h n b ahead) fun r1 =>
 a0a (b0p n r1.2 r0.1) fun r2 =>
 a0a (a0h n r2.2.2 (61:Int)) fun r3 =>
 a0a (s0f n r3.2 r0.2) fun r4 =>
 g0w n f (r4,(44,(s14,(s15,((IntKind.wrap .i64 (s16+1)),())))))) (
 some (.inl (b,()))):=by kernel_rfl
theorem c1u (n:Nat) (e:a0t):d0f (n+1) e =
 tif ((decide (e.1<0))) (
 some (2:Int)) (
 tif ((decide ((35184372088832:Int)≤e.1))) (
 some (2:Int)) (
 tif ((decide (e.2.2.1<0))) (
 some (2:Int)) (
 tif ((decide (e.1<e.2.2.1))) (
 some (2:Int)) (
 tif (e.2.2.2) (
 tif ((!((decide (e.1=e.1))&&((decide (e.2.1=0))&&((decide (e.2.2.1=0))&&(e.2.2.2==true)))))) (
 some (2:Int)) (
 some (0:Int))) (
 some (0:Int)))))):=by kernel_rfl
theorem o0t (n:Nat) (dst:(List Int)) (i:Int) (base:Int):g0n (n+1) dst i base =
 a0a (b0v n dst i base) fun r0 =>
 some r0:=by kernel_rfl
theorem q0y (n:Nat) (dst:(List Int)) (i:Int) (base:Int):d0b (n+1) dst i base =
 a0a (k0q n dst i base) fun r0 =>
 some r0:=by kernel_rfl
theorem u0f (n:Nat) (a:(List (List UInt8×List UInt8))) (b:(List (List UInt8×List UInt8))):m0i (n+1) a b =
 a0a (l0g n a b) fun r0 =>
 some r0:=by kernel_rfl
theorem l1l (n:Nat) (s:b0j):u0h (n+1) s =
 a0a (k0l n s.1) fun r0 =>
 tif ((decide (r0=0))) (
 some (0:Int)) (
 tif ((decide ((60:Int)<(((List.length s.2.2.1.2.2):Nat):Int)))) (
 some (0:Int)) (
 a0a (a1s n s.2.2.2.1) fun r1 =>
 some r1)):=by kernel_rfl
theorem c1g (n:Nat) (s:b0b) (l:(List (List UInt8×List UInt8))) (e:a0t):s0b (n+1) s l e =
 a0a (t0g n s) fun r0 =>
 tif ((!(decide (r0=0)))) (
 some (0,(false,r0))) (
 a0a (g0h n l) fun r1 =>
 tif ((!(decide (r1=0)))) (
 some (0,(false,r1))) (
 a0a (d0f n e) fun r2 =>
 tif ((!(decide (r2=0)))) (
 some (0,(false,r2))) (
 a0a (v0j n s) fun r3 =>
 a0a (f1q n s l) fun r4 =>
 tif ((decide (e.1<r3.1))) (
 some (0,(false,9))) (
 tif ((decide (r3.2≤e.1))) (
 some (0,(false,9))) (
 tif ((decide (r4.2=0))) (
 a0a (at? s.2.2.2 r4.1) fun r5 =>
 tif ((decide (e.1≤r5.2.1))) (
 some (0,(false,9))) (
 tif ((decide (r4.2=0))) (
 some (r4.1,(false,0))) (
 tif (e.2.2.2) (
 some (0,(false,3))) (
 a0a (y0k n s) fun r6 =>
 some (r6.1,((decide (r6.2=0)),r6.2)))))) (
 tif ((decide (r4.2=0))) (
 some (r4.1,(false,0))) (
 tif (e.2.2.2) (
 some (0,(false,3))) (
 a0a (y0k n s) fun r7 =>
 some (r7.1,((decide (r7.2=0)),r7.2)))))))))):=by kernel_rfl
theorem b1v (n:Nat) (s:b0b) (i:Int) (fresh:Bool) (l:(List (List UInt8×List UInt8))):z0d (n+1) s i fresh l =
 tif (fresh) (
 a0a (q0e n s.1 l) fun r0 =>
 some r0) (
 a0a (at? s.2.2.2 i) fun r1 =>
 some (r1,0)):=by kernel_rfl
theorem f1x (n:Nat) (c:c0g) (s:b0j) (e:a0t):v0i (n+1) c s e =
 a0a (n0o n c s) fun r0 =>
 a1l (r0.1) (
 tif ((!(decide (r0.2=0)))) (
 some (([],(0,((0,(0,[])),(([],([],[])),(0,(0,((0,(0,(0,false))),((0,(0,(0,false))),((0,0),(0,(0,0))))))))))),2)) (
 a0a (d0f n e) fun r1 =>
 tif ((!(decide (r1=0)))) (
 some (([],(0,((0,(0,[])),(([],([],[])),(0,(0,((0,(0,(0,false))),((0,(0,(0,false))),((0,0),(0,(0,0))))))))))),2)) (
 tif ((decide (e.1≤s.2.1))) (
 some (([],(0,((0,(0,[])),(([],([],[])),(0,(0,((0,(0,(0,false))),((0,(0,(0,false))),((0,0),(0,(0,0))))))))))),9)) (
 tif ((decide (c.2.1.1=0))) (
 none) (
 none))))) fun r2 =>
 tif ((!(decide (r0.2=0)))) (
 some (([],(0,((0,(0,[])),(([],([],[])),(0,(0,((0,(0,(0,false))),((0,(0,(0,false))),((0,0),(0,(0,0))))))))))),2)) (
 a0a (d0f n e) fun r3 =>
 tif ((!(decide (r3=0)))) (
 some (([],(0,((0,(0,[])),(([],([],[])),(0,(0,((0,(0,(0,false))),((0,(0,(0,false))),((0,0),(0,(0,0))))))))))),2)) (
 tif ((decide (e.1≤s.2.1))) (
 some (([],(0,((0,(0,[])),(([],([],[])),(0,(0,((0,(0,(0,false))),((0,(0,(0,false))),((0,0),(0,(0,0))))))))))),9)) (
 tif ((decide (c.2.1.1=0))) (
 none) (
 a0a (f1s n r2 (IntKind.wrap .i64 (Int.tdiv e.1 c.2.1.1))) fun r4 =>
 tif ((!(decide (r4.1=0)))) (
 some (([],(0,((0,(0,[])),(([],([],[])),(0,(0,((0,(0,(0,false))),((0,(0,(0,false))),((0,0),(0,(0,0))))))))))),r4.1)) (
 a0a (x1y n r4.2 (IntKind.wrap .i64 (Int.tdiv e.1 c.2.1.1)) e) fun r5 =>
 tif ((!(decide (r5.1=0)))) (
 some (([],(0,((0,(0,[])),(([],([],[])),(0,(0,((0,(0,(0,false))),((0,(0,(0,false))),((0,0),(0,(0,0))))))))))),r5.1)) (
 some (r5.2.2,0))))))):=by kernel_rfl
theorem t0r (n:Nat) (s:(List b0j)):k0f (n+1) s =
 tif ((decide ((List.length s)=0))) (
 both (
 some []) (
 tif ((decide (((0+(List.length s))*264)≤140737488355328))) (
 some ([]++s)) (
 none))) (
 tif ((decide (((0+(List.length s))*264)≤140737488355328))) (
 some ([]++s)) (
 none)):=by kernel_rfl
theorem e0m (n:Nat) (s1:(List b0j)) (s2:(List b0j)) (eq:((b0j×(b0j×Unit))→Option Bool)):c0j (n+1) s1 s2 eq =
 tif ((!(decide ((((List.length s1):Nat):Int)=(((List.length s2):Nat):Int))))) (
 some false) (
 a0a (a0z n a0c (s2,(eq,(s1,((((List.length s1):Nat):Int),(0,())))))) fun r0 =>
 c0w (fun y1 =>
 some true) (fun z2 =>
 some z2) r0):=by kernel_rfl
theorem b0w (n f:Nat) (s2:(List b0j)) (eq:((b0j×(b0j×Unit))→Option Bool)) (s15:(List b0j)) (s16:Int) (s17:Int):a0z n (f+1) (s2,eq,s15,s16,s17,()) =
 tif ((decide (s17<s16))) (
 a0a (at? s15 s17) fun r0 =>
 a0a (at? s2 s17) fun r1 =>
 a0a (eq (r0,(r1,()))) fun r2 =>
 tif ((!r2)) (
 some (.inr false)) (
 a0z n f (s2,(eq,(s15,(s16,((IntKind.wrap .i64 (s17+1)),()))))))) (
 some (.inl ())):=by kernel_rfl
theorem c1e (n:Nat) (a:b0j) (b:b0j):e0x (n+1) a b =
 a0a (m0i n a.1 b.1) fun r0 =>
 tif (r0) (
 tif ((decide (a.2.1=b.2.1))) (
 a0a (q1s n a.2.2.1 b.2.2.1) fun r1 =>
 tif (r1) (
 tif (((decide (a.2.2.2.2.1=b.2.2.2.2.1))&&((decide (a.2.2.2.2.2.1=b.2.2.2.2.2.1))&&((decide (a.2.2.2.2.2.2.1.1=b.2.2.2.2.2.2.1.1))&&((decide (a.2.2.2.2.2.2.1.2.1=b.2.2.2.2.2.2.1.2.1))&&((decide (a.2.2.2.2.2.2.1.2.2.1=b.2.2.2.2.2.2.1.2.2.1))&&((a.2.2.2.2.2.2.1.2.2.2==b.2.2.2.2.2.2.1.2.2.2)&&((decide (a.2.2.2.2.2.2.2.1.1=b.2.2.2.2.2.2.2.1.1))&&((decide (a.2.2.2.2.2.2.2.1.2.1=b.2.2.2.2.2.2.2.1.2.1))&&((decide (a.2.2.2.2.2.2.2.1.2.2.1=b.2.2.2.2.2.2.2.1.2.2.1))&&((a.2.2.2.2.2.2.2.1.2.2.2==b.2.2.2.2.2.2.2.1.2.2.2)&&((decide (a.2.2.2.2.2.2.2.2.1.1=b.2.2.2.2.2.2.2.2.1.1))&&((decide (a.2.2.2.2.2.2.2.2.1.2=b.2.2.2.2.2.2.2.2.1.2))&&((decide (a.2.2.2.2.2.2.2.2.2.1=b.2.2.2.2.2.2.2.2.2.1))&&((decide (a.2.2.2.2.2.2.2.2.2.2.1=b.2.2.2.2.2.2.2.2.2.2.1))&&(decide (a.2.2.2.2.2.2.2.2.2.2.2=b.2.2.2.2.2.2.2.2.2.2.2))))))))))))))))) (
 a0a (g0q n a.2.2.2.1.1 b.2.2.2.1.1) fun r2 =>
 tif (r2) (
 a0a (g0q n a.2.2.2.1.2.1 b.2.2.2.1.2.1) fun r3 =>
 tif (r3) (
 a0a (g0q n a.2.2.2.1.2.2 b.2.2.2.1.2.2) fun r4 =>
 some r4) (
 some false)) (
 some false)) (
 some false)) (
 some false)) (
 some false)) (
 some false):=by kernel_rfl
theorem i0p (n:Nat) (s:List UInt8) (c:Int):bytealg_LastIndexByteString (n+1) s c =
 a0a (b0k n a0c (s,(c,((IntKind.wrap .i64 ((((List.length s):Nat):Int)-1)),())))) fun r0 =>
 c0w (fun y1 =>
 some ((-1):Int)) (fun z2 =>
 some z2) r0:=by kernel_rfl
theorem d0p (n f:Nat) (s:List UInt8) (c:Int) (i:Int):b0k n (f+1) (s,c,i,()) =
 tif ((decide ((0:Int)≤i))) (
 a0a (at? s i) fun r0 =>
 tif ((decide ((((UInt8.toNat r0):Nat):Int)=c))) (
 some (.inr i)) (
 b0k n f (s,(c,((IntKind.wrap .i64 (i-1)),()))))) (
 some (.inl ())):=by kernel_rfl
theorem q0t (n:Nat) (s:List UInt8) (prefix_:List UInt8):strings_CutPrefix (n+1) s prefix_ =
 a0a (stringslite_CutPrefix n s prefix_) fun r0 =>
 some r0:=by kernel_rfl
theorem c1c (n:Nat) (s:List UInt8) (sep:List UInt8):strings_Cut (n+1) s sep =
 a0a (stringslite_Cut n s sep) fun r0 =>
 some r0:=by kernel_rfl
theorem y0c (n:Nat) (s:List UInt8):f0m (n+1) s =
 a0a (c0s n a0c (s,([],(0,())))) fun r0 =>
 c0w (fun y1 =>
 some ([],([],false))) (fun z2 =>
 some z2) r0:=by kernel_rfl
theorem g0g (n f:Nat) (s:List UInt8) (b:(List Int)) (i:Int):c0s n (f+1) (s,b,i,()) =
 tif ((decide (i<(((List.length s):Nat):Int)))) (
 a0a (at? s i) fun r0 =>
 tif ((decide ((((UInt8.toNat r0):Nat):Int)=34))) (
 tif ((decide ((0:Int)≤(IntKind.wrap .i64 (i+1))))) (
 tif ((decide ((Int.toNat (IntKind.wrap .i64 (i+1)))≤(List.length s)))) (
 some (.inr ((List.map (fun y1=>(UInt8.ofNat (Int.toNat y1))) b),((List.drop (Int.toNat (IntKind.wrap .i64 (i+1))) (List.take (List.length s) s)),true)))) (
 none)) (
 none)) (
 tif ((decide ((((UInt8.toNat r0):Nat):Int)=10))) (
 some (.inr ([],([],false)))) (
 tif ((!(decide ((((UInt8.toNat r0):Nat):Int)=92)))) (
 tif ((decide ((((List.length b)+1)*1)≤140737488355328))) (
 c0s n f (s,((b++((((UInt8.toNat r0):Nat):Int)::[])),((IntKind.wrap .i64 (i+1)),())))) (
 none)) (
 tif ((decide ((IntKind.wrap .i64 (i+1))=(((List.length s):Nat):Int)))) (
 some (.inr ([],([],false)))) (
 a0a (at? s (IntKind.wrap .i64 (i+1))) fun r2 =>
 tif ((decide ((((UInt8.toNat r2):Nat):Int)=110))) (
 tif ((decide ((((List.length b)+1)*1)≤140737488355328))) (
 c0s n f (s,((b++((10:Int)::[])),((IntKind.wrap .i64 ((IntKind.wrap .i64 (i+1))+1)),())))) (
 none)) (
 tif ((decide ((((UInt8.toNat r2):Nat):Int)=34))) (
 tif ((decide ((((UInt8.toNat r2):Nat):Int)=34))) (
 a0a (at? s (IntKind.wrap .i64 (i+1))) fun r3 =>
 tif ((decide ((((List.length b)+1)*1)≤140737488355328))) (
 c0s n f (s,((b++((((UInt8.toNat r3):Nat):Int)::[])),((IntKind.wrap .i64 ((IntKind.wrap .i64 (i+1))+1)),())))) (
 none)) (
 some (.inr ([],([],false))))) (
 tif ((decide ((((UInt8.toNat r2):Nat):Int)=92))) (
 a0a (at? s (IntKind.wrap .i64 (i+1))) fun r4 =>
 tif ((decide ((((List.length b)+1)*1)≤140737488355328))) (
 c0s n f (s,((b++((((UInt8.toNat r4):Nat):Int)::[])),((IntKind.wrap .i64 ((IntKind.wrap .i64 (i+1))+1)),())))) (
 none)) (
 some (.inr ([],([],false))))))))))) (
 some (.inl ())):=by kernel_rfl
theorem c1n (n:Nat) (l:(List (List UInt8×List UInt8))):g0h (n+1) l =
 tif ((decide ((((List.length l):Nat):Int)=0))) (
 some (8:Int)) (
 tif ((decide ((16:Int)<(((List.length l):Nat):Int)))) (
 some (8:Int)) (
 a0a (e0p n a0c (l,(256,(l,((((List.length l):Nat):Int),(0,())))))) fun r0 =>
 c0w (fun y1 =>
 some (0:Int)) (fun z2 =>
 some z2) r0)):=by kernel_rfl
theorem m0j (n f:Nat) (l:(List (List UInt8×List UInt8))) (left:Int) (s14:(List (List UInt8×List UInt8))) (s15:Int) (s16:Int):e0p n (f+1) (l,left,s14,s15,s16,()) =
 tif ((decide (s16<s15))) (
 a0a (at? s14 s16) fun r0 =>
 a0a (v0y n r0.1) fun r1 =>
 tif ((!r1)) (
 some (.inr (8:Int))) (
 tif ((decide ((128:Int)<(((List.length r0.2):Nat):Int)))) (
 some (.inr (8:Int))) (
 tif ((decide ((IntKind.wrap .i64 (left-(IntKind.wrap .i64 ((((List.length r0.1):Nat):Int)+(((List.length r0.2):Nat):Int)))))<0))) (
 some (.inr (8:Int))) (
 tif ((decide ((0:Int)<s16))) (
 a0a (at? l (IntKind.wrap .i64 (s16-1))) fun r2 =>
 tif ((!(Go.Op.bytesLess r2.1 r0.1))) (
 some (.inr (8:Int))) (
 e0p n f (l,((IntKind.wrap .i64 (left-(IntKind.wrap .i64 ((((List.length r0.1):Nat):Int)+(((List.length r0.2):Nat):Int))))),(s14,(s15,((IntKind.wrap .i64 (s16+1)),()))))))) (
 e0p n f (l,((IntKind.wrap .i64 (left-(IntKind.wrap .i64 ((((List.length r0.1):Nat):Int)+(((List.length r0.2):Nat):Int))))),(s14,(s15,((IntKind.wrap .i64 (s16+1)),())))))))))) (
 some (.inl ())):=by kernel_rfl
theorem x0q (n:Nat) (s:List UInt8) (sep:List UInt8):strings_Split (n+1) s sep =
 a0a (strings_genSplit n s sep (0:Int) ((-1):Int)) fun r0 =>
 some r0:=by kernel_rfl
theorem c1k (n:Nat) (b:List UInt8) (s:List UInt8):s0f (n+1) b s =
 a0a (a0h n b (34:Int)) fun r0 =>
 a0a (c0i n a0c (r0.2,((List.map (fun y1=>(((UInt8.toNat y1):Nat):Int)) s),((((List.length (List.map (fun y2=>(((UInt8.toNat y2):Nat):Int)) s)):Nat):Int),((0:Int),()))))) fun r3 =>
 c0w (fun y4 =>
 a0a (a0h n y4.1 (34:Int)) fun r5 =>
 some r5.2) (fun z6 =>
 some z6) r3:=by kernel_rfl
theorem m0h (n f:Nat) (b:List UInt8) (s9:(List Int)) (s10:Int) (s11:Int):c0i n (f+1) (b,s9,s10,s11,()) =
 tif ((decide (s11<s10))) (
 a0a (at? s9 s11) fun r0 =>
 tif ((decide (r0=10))) (
 a0a (a0h n b (92:Int)) fun r1 =>
 a0a (a0h n r1.2 (110:Int)) fun r2 =>
 c0i n f (r2.2,(s9,(s10,((IntKind.wrap .i64 (s11+1)),()))))) (
 tif ((decide (r0=34))) (
 tif ((decide (r0=34))) (
 a0a (a0h n b (92:Int)) fun r3 =>
 a0a (a0h n r3.2 r0) fun r4 =>
 c0i n f (r4.2,(s9,(s10,((IntKind.wrap .i64 (s11+1)),()))))) (
 a0a (a0h n b r0) fun r5 =>
 c0i n f (r5.2,(s9,(s10,((IntKind.wrap .i64 (s11+1)),())))))) (
 tif ((decide (r0=92))) (
 a0a (a0h n b (92:Int)) fun r6 =>
 a0a (a0h n r6.2 r0) fun r7 =>
 c0i n f (r7.2,(s9,(s10,((IntKind.wrap .i64 (s11+1)),()))))) (
 a0a (a0h n b r0) fun r8 =>
 c0i n f (r8.2,(s9,(s10,((IntKind.wrap .i64 (s11+1)),())))))))) (
 some (.inl (b,()))):=by kernel_rfl
theorem o0n (n:Nat) (dst:(List Int)) (i:Int) (base:Int):b0v (n+1) dst i base =
 tif ((decide (base=10))) (
 tif ((decide (i<100))) (
 a0a (j0h n (IntKind.wrap .i64 i)) fun r0 =>
 tif ((decide ((((List.length dst)+(List.length (List.map (fun y2=>(((UInt8.toNat y2):Nat):Int)) r0)))*1)≤140737488355328))) (
 some (dst++(List.map (fun y1=>(((UInt8.toNat y1):Nat):Int)) r0))) (
 none)) (
 a0a (h0f n i) fun r3 =>
 tif (((decide ((0:Int)≤r3))&&(decide (r3≤24)))) (
 a0a (f0v n ((List.replicate 24 (0:Int)),(0,((Int.toNat r3)-0))) i) fun r4 =>
 tif (((decide ((List.length r4.1)=24))&&((decide (r4.2.1=0))&&true))) (
 tif ((decide ((List.length r4.1)=24))) (
 tif (((decide ((0:Int)≤r3))&&(decide (r3≤24)))) (
 tif ((decide ((((List.length dst)+(List.length (List.take ((Int.toNat r3)-0) (List.drop 0 r4.1))))*1)≤140737488355328))) (
 some (dst++(List.take ((Int.toNat r3)-0) (List.drop 0 r4.1)))) (
 none)) (
 none)) (
 none)) (
 none)) (
 none))) (
 none):=by kernel_rfl
theorem o0u (n:Nat) (dst:(List Int)) (i:Int) (base:Int):k0q (n+1) dst i base =
 tif ((decide (i<0))) (
 tif ((decide ((((List.length dst)+1)*1)≤140737488355328))) (
 a0a (b0v n (dst++((45:Int)::[])) (IntKind.wrap .u64 ((0:Int)-(IntKind.wrap .u64 i))) base) fun r0 =>
 some r0) (
 none)) (
 a0a (b0v n dst (IntKind.wrap .u64 i) base) fun r1 =>
 some r1):=by kernel_rfl
theorem v0e (n:Nat) (s1:(List (List UInt8×List UInt8))) (s2:(List (List UInt8×List UInt8))):l0g (n+1) s1 s2 =
 tif ((!(decide ((((List.length s1):Nat):Int)=(((List.length s2):Nat):Int))))) (
 some false) (
 a0a (f0i n a0c (s1,(s2,((((List.length s1):Nat):Int),(0,()))))) fun r0 =>
 c0w (fun y1 =>
 some true) (fun z2 =>
 some z2) r0):=by kernel_rfl
theorem j0a (n f:Nat) (s1:(List (List UInt8×List UInt8))) (s2:(List (List UInt8×List UInt8))) (s12:Int) (s13:Int):f0i n (f+1) (s1,s2,s12,s13,()) =
 tif ((decide (s13<s12))) (
 a0a (at? s1 s13) fun r0 =>
 a0a (at? s2 s13) fun r1 =>
 tif ((!((r0.1==r1.1)&&(r0.2==r1.2)))) (
 some (.inr false)) (
 f0i n f (s1,(s2,(s12,((IntKind.wrap .i64 (s13+1)),())))))) (
 some (.inl ())):=by kernel_rfl
theorem j1v (n:Nat) (s:b0b):t0g (n+1) s =
 a0a (p0y n s) fun r0 =>
 tif ((!(decide (r0.2=0)))) (
 some (2:Int)) (
 a0a (l0e n r0.1) fun r1 =>
 tif ((!r1)) (
 some (2:Int)) (
 a0a (d0q n r0.1 (fun y2=>e0i n y2.1 r0.1)) fun r3 =>
 tif ((decide ((0:Int)≤r3))) (
 some (2:Int)) (
 some (0:Int)))):=by kernel_rfl
theorem l1m (n:Nat) (s:((List a0d)×((List a0d)×(List a0d)))):a1s (n+1) s =
 a0a (d0n n a0c (s,(0,()))) fun r0 =>
 c0w (fun y1 =>
 some (1:Int)) (fun z2 =>
 some z2) r0:=by kernel_rfl
theorem g0x (n f:Nat) (s_:((List a0d)×((List a0d)×(List a0d)))) (s4:Int):d0n n (f+1) (s_,s4,()) =
 tif ((decide (s4<3))) (
 tif ((decide (s4=0))) (
 tif ((decide ((40:Int)<(((List.length s_.1):Nat):Int)))) (
 some (.inr (0:Int))) (
 d0n n f (s_,((IntKind.wrap .i64 (s4+1)),())))) (
 tif ((decide (s4=1))) (
 tif ((decide ((40:Int)<(((List.length s_.2.1):Nat):Int)))) (
 some (.inr (0:Int))) (
 d0n n f (s_,((IntKind.wrap .i64 (s4+1)),())))) (
 tif ((decide (s4=2))) (
 tif ((decide ((40:Int)<(((List.length s_.2.2):Nat):Int)))) (
 some (.inr (0:Int))) (
 d0n n f (s_,((IntKind.wrap .i64 (s4+1)),())))) (
 none)))) (
 some (.inl ())):=by kernel_rfl
theorem g1a (n:Nat) (s:b0b):v0j (n+1) s =
 a0a (t0g n s) fun r0 =>
 tif ((!(decide (r0=0)))) (
 some (0,0)) (
 a0a (f1o n s) fun r1 =>
 some (r1,(if (35184372088832:Int)<(IntKind.wrap .i64 (r1+s.1.2.1.1)) then (35184372088832:Int) else (IntKind.wrap .i64 (r1+s.1.2.1.1))))):=by kernel_rfl
theorem n1n (n:Nat) (s:b0b) (l:(List (List UInt8×List UInt8))):f1q (n+1) s l =
 a0a (p0y n s) fun r0 =>
 tif ((!(decide (r0.2=0)))) (
 some (0,r0.2)) (
 a0a (d0q n r0.1 (fun y1=>f0h n y1.1 s l r0.1)) fun r2 =>
 tif ((decide (r2<0))) (
 some (0,3)) (
 some (r2,0))):=by kernel_rfl
theorem n1k (n:Nat) (s:b0b):y0k (n+1) s =
 a0a (p0y n s) fun r0 =>
 tif ((!(decide (r0.2=0)))) (
 some (0,r0.2)) (
 a0a (d0q n r0.1 (fun y1=>f0g n y1.1 r0.1)) fun r2 =>
 tif ((decide (r2<0))) (
 some (0,7)) (
 some (r2,0))):=by kernel_rfl
theorem f1y (n:Nat) (c:c0g) (l:(List (List UInt8×List UInt8))):q0e (n+1) c l =
 a0a (f0o n c) fun r0 =>
 tif ((!(decide (r0=0)))) (
 some (([],(0,((0,(0,[])),(([],([],[])),(0,(0,((0,(0,(0,false))),((0,(0,(0,false))),((0,0),(0,(0,0))))))))))),r0)) (
 a0a (g0h n l) fun r1 =>
 tif ((!(decide (r1=0)))) (
 some (([],(0,((0,(0,[])),(([],([],[])),(0,(0,((0,(0,(0,false))),((0,(0,(0,false))),((0,0),(0,(0,0))))))))))),r1)) (
 a0a (l0i n l) fun r2 =>
 a0a (w0c n c) fun r3 =>
 some ((r2,(((-1):Int),((0,(0,[])),(r3,(0,(0,((0,(0,(0,false))),((0,(0,(0,false))),((0,0),(0,(0,0))))))))))),0))):=by kernel_rfl
theorem c1d (n:Nat) (c:c0g) (s:b0j):n0o (n+1) c s =
 a0a (w0e n c s.2.2.2.1) fun r0 =>
 tif ((!(decide (r0=0)))) (
 some (none,2)) (
 a0a (g0h n s.1) fun r1 =>
 tif ((!(decide (r1=0)))) (
 some (none,2)) (
 a0a (t0w n s.2.2.1 c.1) fun r2 =>
 tif ((!(decide (r2=0)))) (
 some (none,2)) (
 tif ((decide (s.2.1=((-1):Int)))) (
 a0a (z0q n (c,s)) fun r3 =>
 tif (r3) (
 some ((some (c,s)),0)) (
 tif ((!(decide (s.2.1=((-1):Int))))) (
 a0a (y0m n (c,s)) fun r4 =>
 tif (r4) (
 some ((some (c,s)),0)) (
 some (none,2))) (
 some (none,2)))) (
 tif ((!(decide (s.2.1=((-1):Int))))) (
 a0a (y0m n (c,s)) fun r5 =>
 tif (r5) (
 some ((some (c,s)),0)) (
 some (none,2))) (
 some (none,2)))))):=by kernel_rfl
theorem n1p (n:Nat) (s:c0l) (i:Int):f1s (n+1) s i =
 tif ((decide (s.2.2.2.2.2.1=i))) (
 some (0,s)) (
 tif ((decide (s.2.2.2.2.2.2.1=0))) (
 some (0,s)) (
 a0a (w0d n s.1 s.2.2.2.2.1 s.2.2.2.2.2 i) fun r0 =>
 tif ((decide (r0.2=0))) (
 some (r0.2,(s.1,(s.2.1,(s.2.2.1,(s.2.2.2.1,(r0.1,(0,(0,((0,(0,(0,false))),((0,(0,(0,false))),((0,0),(0,(0,0)))))))))))))) (
 some (r0.2,s)))):=by kernel_rfl
theorem t1i (n:Nat) (s:c0l) (i:Int) (e:a0t):x1y (n+1) s i e =
 a0a (o1f n s.2.2.2.1 s.1.1 e) fun r0 =>
 a0a (i1v n s.2.2.2.2.2.2 e) fun r1 =>
 tif ((!(decide (r0.2=0)))) (
 some (r0.2,s)) (
 some (r1.2,(s.1,(s.2.1,(e.1,(r0.1,(s.2.2.2.2.1,(i,r1.1)))))))):=by kernel_rfl
theorem o1e (n:Nat) (a:(Int×(Int×(List a0t)))) (b:(Int×(Int×(List a0t)))):q1s (n+1) a b =
 tif ((decide (a.1=b.1))) (
 tif ((decide (a.2.1=b.2.1))) (
 a0a (l0h n a.2.2 b.2.2) fun r0 =>
 some r0) (
 some false)) (
 some false):=by kernel_rfl
theorem x0t (n:Nat) (s1:(List a0d)) (s2:(List a0d)):g0q (n+1) s1 s2 =
 tif ((!(decide ((((List.length s1):Nat):Int)=(((List.length s2):Nat):Int))))) (
 some false) (
 a0a (g0c n a0c (s1,(s2,((((List.length s1):Nat):Int),(0,()))))) fun r0 =>
 c0w (fun y1 =>
 some true) (fun z2 =>
 some z2) r0):=by kernel_rfl
theorem k0e (n f:Nat) (s1:(List a0d)) (s2:(List a0d)) (s12:Int) (s13:Int):g0c n (f+1) (s1,s2,s12,s13,()) =
 tif ((decide (s13<s12))) (
 a0a (at? s1 s13) fun r0 =>
 a0a (at? s2 s13) fun r1 =>
 tif ((!((decide (r0.1=r1.1))&&((decide (r0.2.1=r1.2.1))&&((decide (r0.2.2.1.1=r1.2.2.1.1))&&((decide (r0.2.2.1.2.1=r1.2.2.1.2.1))&&((decide (r0.2.2.1.2.2.1=r1.2.2.1.2.2.1))&&((r0.2.2.1.2.2.2==r1.2.2.1.2.2.2)&&((decide (r0.2.2.2.1.1=r1.2.2.2.1.1))&&((decide (r0.2.2.2.1.2.1=r1.2.2.2.1.2.1))&&((decide (r0.2.2.2.1.2.2.1=r1.2.2.2.1.2.2.1))&&((r0.2.2.2.1.2.2.2==r1.2.2.2.1.2.2.2)&&((decide (r0.2.2.2.2.1.1=r1.2.2.2.2.1.1))&&((decide (r0.2.2.2.2.1.2=r1.2.2.2.2.1.2))&&((decide (r0.2.2.2.2.2.1=r1.2.2.2.2.2.1))&&((decide (r0.2.2.2.2.2.2.1=r1.2.2.2.2.2.2.1))&&(decide (r0.2.2.2.2.2.2.2=r1.2.2.2.2.2.2.2)))))))))))))))))) (
 some (.inr false)) (
 g0c n f (s1,(s2,(s12,((IntKind.wrap .i64 (s13+1)),())))))) (
 some (.inl ())):=by kernel_rfl
theorem l0t (n:Nat) (s:List UInt8) (prefix_:List UInt8):stringslite_CutPrefix (n+1) s prefix_ =
 a0a (stringslite_HasPrefix n s prefix_) fun r0 =>
 tif ((!r0)) (
 some (s,false)) (
 tif ((decide ((0:Int)≤(((List.length prefix_):Nat):Int)))) (
 tif ((decide ((Int.toNat (((List.length prefix_):Nat):Int))≤(List.length s)))) (
 some ((List.drop (Int.toNat (((List.length prefix_):Nat):Int)) (List.take (List.length s) s)),true)) (
 none)) (
 none)):=by kernel_rfl
theorem t0h (n:Nat) (s:List UInt8) (sep:List UInt8):stringslite_Cut (n+1) s sep =
 a0a (stringslite_Index n s sep) fun r0 =>
 tif ((decide ((0:Int)≤r0))) (
 tif (((decide ((0:Int)≤r0))&&(decide (r0≤(((List.length s):Nat):Int))))) (
 tif ((decide ((0:Int)≤(IntKind.wrap .i64 (r0+(((List.length sep):Nat):Int)))))) (
 tif ((decide ((Int.toNat (IntKind.wrap .i64 (r0+(((List.length sep):Nat):Int))))≤(List.length s)))) (
 some ((List.drop 0 (List.take (Int.toNat r0) s)),((List.drop (Int.toNat (IntKind.wrap .i64 (r0+(((List.length sep):Nat):Int)))) (List.take (List.length s) s)),true))) (
 none)) (
 none)) (
 none)) (
 some (s,([],false))):=by kernel_rfl
theorem g1y (n:Nat) (s:List UInt8):v0y (n+1) s =
 tif ((s==[])) (
 some false) (
 tif ((decide ((64:Int)<(((List.length s):Nat):Int)))) (
 some false) (
 a0a (at? s (0:Int)) fun r0 =>
 a0a (n0y n (((UInt8.toNat r0):Nat):Int)) fun r1 =>
 tif (r1) (
 some false) (
 a0a (f0w n (List.map (fun y2=>(((UInt8.toNat y2):Nat):Int)) s) (fun y3=>p0g n y3.1)) fun r4 =>
 some (!r4)))):=by kernel_rfl
theorem r0y (n:Nat) (s:List UInt8) (sep:List UInt8) (sepSave:Int) (n_:Int):strings_genSplit (n+1) s sep sepSave n_ =
 tif ((decide (n_=0))) (
 some []) (
 tif ((sep==[])) (
 a0a (z0p n s n_) fun r0 =>
 some r0) (
 tif ((decide (n_<0))) (
 a0a (strings_Count n s sep) fun r1 =>
 tif (((decide ((0:Int)≤(if (IntKind.wrap .i64 ((((List.length s):Nat):Int)+1))<(IntKind.wrap .i64 (r1+1)) then (IntKind.wrap .i64 ((((List.length s):Nat):Int)+1)) else (IntKind.wrap .i64 (r1+1)))))&&((decide ((if (IntKind.wrap .i64 ((((List.length s):Nat):Int)+1))<(IntKind.wrap .i64 (r1+1)) then (IntKind.wrap .i64 ((((List.length s):Nat):Int)+1)) else (IntKind.wrap .i64 (r1+1)))≤(if (IntKind.wrap .i64 ((((List.length s):Nat):Int)+1))<(IntKind.wrap .i64 (r1+1)) then (IntKind.wrap .i64 ((((List.length s):Nat):Int)+1)) else (IntKind.wrap .i64 (r1+1)))))&&(decide (((if (IntKind.wrap .i64 ((((List.length s):Nat):Int)+1))<(IntKind.wrap .i64 (r1+1)) then (IntKind.wrap .i64 ((((List.length s):Nat):Int)+1)) else (IntKind.wrap .i64 (r1+1)))*16)≤140737488355328))))) (
 a0a (b0z n a0c (s,(sep,(sepSave,((IntKind.wrap .i64 ((if (IntKind.wrap .i64 ((((List.length s):Nat):Int)+1))<(IntKind.wrap .i64 (r1+1)) then (IntKind.wrap .i64 ((((List.length s):Nat):Int)+1)) else (IntKind.wrap .i64 (r1+1)))-1)),((List.replicate (Int.toNat (if (IntKind.wrap .i64 ((((List.length s):Nat):Int)+1))<(IntKind.wrap .i64 (r1+1)) then (IntKind.wrap .i64 ((((List.length s):Nat):Int)+1)) else (IntKind.wrap .i64 (r1+1)))) ([]:List UInt8)),((0:Int),()))))))) fun r2 =>
 c0w (fun y3 =>
 a0a (at? y3.2.1 y3.2.2.1) fun r4 =>
 a0a ((y3.2.1)[(Int.toNat y3.2.2.1)]?) fun r5 =>
 tif (((decide ((0:Int)≤(IntKind.wrap .i64 (y3.2.2.1+1))))&&(decide ((IntKind.wrap .i64 (y3.2.2.1+1))≤(((List.length (List.set y3.2.1 (Int.toNat y3.2.2.1) y3.1)):Nat):Int))))) (
 some (List.take ((Int.toNat (IntKind.wrap .i64 (y3.2.2.1+1)))-0) (List.drop 0 (List.set y3.2.1 (Int.toNat y3.2.2.1) y3.1)))) (
 none)) (fun z6 =>
 some z6) r2) (
 none)) (
 tif (((decide ((0:Int)≤(if (IntKind.wrap .i64 ((((List.length s):Nat):Int)+1))<n_ then (IntKind.wrap .i64 ((((List.length s):Nat):Int)+1)) else n_)))&&((decide ((if (IntKind.wrap .i64 ((((List.length s):Nat):Int)+1))<n_ then (IntKind.wrap .i64 ((((List.length s):Nat):Int)+1)) else n_)≤(if (IntKind.wrap .i64 ((((List.length s):Nat):Int)+1))<n_ then (IntKind.wrap .i64 ((((List.length s):Nat):Int)+1)) else n_)))&&(decide (((if (IntKind.wrap .i64 ((((List.length s):Nat):Int)+1))<n_ then (IntKind.wrap .i64 ((((List.length s):Nat):Int)+1)) else n_)*16)≤140737488355328))))) (
 a0a (b0z n a0c (s,(sep,(sepSave,((IntKind.wrap .i64 ((if (IntKind.wrap .i64 ((((List.length s):Nat):Int)+1))<n_ then (IntKind.wrap .i64 ((((List.length s):Nat):Int)+1)) else n_)-1)),((List.replicate (Int.toNat (if (IntKind.wrap .i64 ((((List.length s):Nat):Int)+1))<n_ then (IntKind.wrap .i64 ((((List.length s):Nat):Int)+1)) else n_)) ([]:List UInt8)),((0:Int),()))))))) fun r7 =>
 c0w (fun y8 =>
 a0a (at? y8.2.1 y8.2.2.1) fun r9 =>
 a0a ((y8.2.1)[(Int.toNat y8.2.2.1)]?) fun r10 =>
 tif (((decide ((0:Int)≤(IntKind.wrap .i64 (y8.2.2.1+1))))&&(decide ((IntKind.wrap .i64 (y8.2.2.1+1))≤(((List.length (List.set y8.2.1 (Int.toNat y8.2.2.1) y8.1)):Nat):Int))))) (
 some (List.take ((Int.toNat (IntKind.wrap .i64 (y8.2.2.1+1)))-0) (List.drop 0 (List.set y8.2.1 (Int.toNat y8.2.2.1) y8.1)))) (
 none)) (fun z11 =>
 some z11) r7) (
 none)))):=by kernel_rfl
theorem g0m (n f:Nat) (s:List UInt8) (sep:List UInt8) (sepSave:Int) (n_:Int) (a:(List (List UInt8))) (i:Int):b0z n (f+1) (s,sep,sepSave,n_,a,i,()) =
 tif ((decide (i<n_))) (
 a0a (strings_Index n s sep) fun r0 =>
 tif ((decide (r0<0))) (
 some (.inl (s,(a,(i,()))))) (
 tif (((decide ((0:Int)≤(IntKind.wrap .i64 (r0+sepSave))))&&(decide ((IntKind.wrap .i64 (r0+sepSave))≤(((List.length s):Nat):Int))))) (
 a0a (at? a i) fun r1 =>
 a0a ((a)[(Int.toNat i)]?) fun r2 =>
 tif ((decide ((0:Int)≤(IntKind.wrap .i64 (r0+(((List.length sep):Nat):Int)))))) (
 tif ((decide ((Int.toNat (IntKind.wrap .i64 (r0+(((List.length sep):Nat):Int))))≤(List.length s)))) (
 b0z n f ((List.drop (Int.toNat (IntKind.wrap .i64 (r0+(((List.length sep):Nat):Int)))) (List.take (List.length s) s)),(sep,(sepSave,(n_,((List.set a (Int.toNat i) (List.drop 0 (List.take (Int.toNat (IntKind.wrap .i64 (r0+sepSave))) s))),((IntKind.wrap .i64 (i+1)),()))))))) (
 none)) (
 none)) (
 none))) (
 some (.inl (s,(a,(i,()))))):=by kernel_rfl
theorem l0s (n:Nat) (s:List UInt8) (prefix_:List UInt8):stringslite_HasPrefix (n+1) s prefix_ =
 tif ((decide ((((List.length prefix_):Nat):Int)≤(((List.length s):Nat):Int)))) (
 tif (((decide ((0:Int)≤(((List.length prefix_):Nat):Int)))&&(decide ((((List.length prefix_):Nat):Int)≤(((List.length s):Nat):Int))))) (
 some ((List.drop 0 (List.take (Int.toNat (((List.length prefix_):Nat):Int)) s))==prefix_)) (
 none)) (
 some false):=by kernel_rfl
theorem q0u (n:Nat) (d:Int):h0f (n+1) d =
 a0a (g0u n d) fun r0 =>
 a0a (l0v n r0) fun r1 =>
 a0a (at? ((1:Int)::((10:Int)::((100:Int)::((1000:Int)::((10000:Int)::((100000:Int)::((1000000:Int)::((10000000:Int)::((100000000:Int)::((1000000000:Int)::((10000000000:Int)::((100000000000:Int)::((1000000000000:Int)::((10000000000000:Int)::((100000000000000:Int)::((1000000000000000:Int)::((10000000000000000:Int)::((100000000000000000:Int)::((1000000000000000000:Int)::((10000000000000000000:Int)::[])))))))))))))))))))) r1) fun r2 =>
 a0a (l0w n (decide (r2≤d))) fun r3 =>
 some (IntKind.wrap .i64 (r1+r3)):=by kernel_rfl
theorem n0j (n:Nat) (a:(List Int×(Nat×Nat))) (u:Int):f0v (n+1) a u =
 a0a (b0y n a0c (a,(u,(((a.2.2:Nat):Int),())))) fun r0 =>
 c0w (fun y1 =>
 tif ((decide ((4:Int)≤y1.2.2.1))) (
 a0a (at? b0h (IntKind.wrap .u32 ((IntKind.wrap .u32 ((Int.tmod (Int.tmod (IntKind.wrap .u32 y1.2.1) (10000:Int)) (100:Int))*2))+1))) fun r2 =>
 a0a (at? b0h (IntKind.wrap .u32 ((Int.tmod (Int.tmod (IntKind.wrap .u32 y1.2.1) (10000:Int)) (100:Int))*2))) fun r3 =>
 a0a (at? (List.take y1.1.2.2 (List.drop y1.1.2.1 y1.1.1)) (IntKind.wrap .i64 (y1.2.2.1-1))) fun r4 =>
 a0a ((y1.1.1)[(y1.1.2.1+(Int.toNat (IntKind.wrap .i64 (y1.2.2.1-1))))]?) fun r5 =>
 a0a (at? (List.take y1.1.2.2 (List.drop y1.1.2.1 (List.set y1.1.1 (y1.1.2.1+(Int.toNat (IntKind.wrap .i64 (y1.2.2.1-1)))) (((UInt8.toNat r2):Nat):Int)))) (IntKind.wrap .i64 (y1.2.2.1-2))) fun r6 =>
 a0a (((List.set y1.1.1 (y1.1.2.1+(Int.toNat (IntKind.wrap .i64 (y1.2.2.1-1)))) (((UInt8.toNat r2):Nat):Int)))[(y1.1.2.1+(Int.toNat (IntKind.wrap .i64 (y1.2.2.1-2))))]?) fun r7 =>
 a0a (at? b0h (IntKind.wrap .u32 ((IntKind.wrap .u32 ((IntKind.wrap .u32 (Int.tdiv (Int.tmod (IntKind.wrap .u32 y1.2.1) (10000:Int)) (100:Int)))*2))+1))) fun r8 =>
 a0a (at? b0h (IntKind.wrap .u32 ((IntKind.wrap .u32 (Int.tdiv (Int.tmod (IntKind.wrap .u32 y1.2.1) (10000:Int)) (100:Int)))*2))) fun r9 =>
 a0a (at? (List.take y1.1.2.2 (List.drop y1.1.2.1 (List.set (List.set y1.1.1 (y1.1.2.1+(Int.toNat (IntKind.wrap .i64 (y1.2.2.1-1)))) (((UInt8.toNat r2):Nat):Int)) (y1.1.2.1+(Int.toNat (IntKind.wrap .i64 (y1.2.2.1-2)))) (((UInt8.toNat r3):Nat):Int)))) (IntKind.wrap .i64 (y1.2.2.1-3))) fun r10 =>
 a0a (((List.set (List.set y1.1.1 (y1.1.2.1+(Int.toNat (IntKind.wrap .i64 (y1.2.2.1-1)))) (((UInt8.toNat r2):Nat):Int)) (y1.1.2.1+(Int.toNat (IntKind.wrap .i64 (y1.2.2.1-2)))) (((UInt8.toNat r3):Nat):Int)))[(y1.1.2.1+(Int.toNat (IntKind.wrap .i64 (y1.2.2.1-3))))]?) fun r11 =>
 a0a (at? (List.take y1.1.2.2 (List.drop y1.1.2.1 (List.set (List.set (List.set y1.1.1 (y1.1.2.1+(Int.toNat (IntKind.wrap .i64 (y1.2.2.1-1)))) (((UInt8.toNat r2):Nat):Int)) (y1.1.2.1+(Int.toNat (IntKind.wrap .i64 (y1.2.2.1-2)))) (((UInt8.toNat r3):Nat):Int)) (y1.1.2.1+(Int.toNat (IntKind.wrap .i64 (y1.2.2.1-3)))) (((UInt8.toNat r8):Nat):Int)))) (IntKind.wrap .i64 (y1.2.2.1-4))) fun r12 =>
 a0a (((List.set (List.set (List.set y1.1.1 (y1.1.2.1+(Int.toNat (IntKind.wrap .i64 (y1.2.2.1-1)))) (((UInt8.toNat r2):Nat):Int)) (y1.1.2.1+(Int.toNat (IntKind.wrap .i64 (y1.2.2.1-2)))) (((UInt8.toNat r3):Nat):Int)) (y1.1.2.1+(Int.toNat (IntKind.wrap .i64 (y1.2.2.1-3)))) (((UInt8.toNat r8):Nat):Int)))[(y1.1.2.1+(Int.toNat (IntKind.wrap .i64 (y1.2.2.1-4))))]?) fun r13 =>
 tif ((decide ((2:Int)≤(IntKind.wrap .i64 (y1.2.2.1-4))))) (
 a0a (at? b0h (IntKind.wrap .u32 ((IntKind.wrap .u32 ((Int.tmod (IntKind.wrap .u32 (Int.tdiv (IntKind.wrap .u32 y1.2.1) (10000:Int))) (100:Int))*2))+1))) fun r14 =>
 a0a (at? b0h (IntKind.wrap .u32 ((Int.tmod (IntKind.wrap .u32 (Int.tdiv (IntKind.wrap .u32 y1.2.1) (10000:Int))) (100:Int))*2))) fun r15 =>
 a0a (at? (List.take y1.1.2.2 (List.drop y1.1.2.1 (List.set (List.set (List.set (List.set y1.1.1 (y1.1.2.1+(Int.toNat (IntKind.wrap .i64 (y1.2.2.1-1)))) (((UInt8.toNat r2):Nat):Int)) (y1.1.2.1+(Int.toNat (IntKind.wrap .i64 (y1.2.2.1-2)))) (((UInt8.toNat r3):Nat):Int)) (y1.1.2.1+(Int.toNat (IntKind.wrap .i64 (y1.2.2.1-3)))) (((UInt8.toNat r8):Nat):Int)) (y1.1.2.1+(Int.toNat (IntKind.wrap .i64 (y1.2.2.1-4)))) (((UInt8.toNat r9):Nat):Int)))) (IntKind.wrap .i64 ((IntKind.wrap .i64 (y1.2.2.1-4))-1))) fun r16 =>
 a0a (((List.set (List.set (List.set (List.set y1.1.1 (y1.1.2.1+(Int.toNat (IntKind.wrap .i64 (y1.2.2.1-1)))) (((UInt8.toNat r2):Nat):Int)) (y1.1.2.1+(Int.toNat (IntKind.wrap .i64 (y1.2.2.1-2)))) (((UInt8.toNat r3):Nat):Int)) (y1.1.2.1+(Int.toNat (IntKind.wrap .i64 (y1.2.2.1-3)))) (((UInt8.toNat r8):Nat):Int)) (y1.1.2.1+(Int.toNat (IntKind.wrap .i64 (y1.2.2.1-4)))) (((UInt8.toNat r9):Nat):Int)))[(y1.1.2.1+(Int.toNat (IntKind.wrap .i64 ((IntKind.wrap .i64 (y1.2.2.1-4))-1))))]?) fun r17 =>
 a0a (at? (List.take y1.1.2.2 (List.drop y1.1.2.1 (List.set (List.set (List.set (List.set (List.set y1.1.1 (y1.1.2.1+(Int.toNat (IntKind.wrap .i64 (y1.2.2.1-1)))) (((UInt8.toNat r2):Nat):Int)) (y1.1.2.1+(Int.toNat (IntKind.wrap .i64 (y1.2.2.1-2)))) (((UInt8.toNat r3):Nat):Int)) (y1.1.2.1+(Int.toNat (IntKind.wrap .i64 (y1.2.2.1-3)))) (((UInt8.toNat r8):Nat):Int)) (y1.1.2.1+(Int.toNat (IntKind.wrap .i64 (y1.2.2.1-4)))) (((UInt8.toNat r9):Nat):Int)) (y1.1.2.1+(Int.toNat (IntKind.wrap .i64 ((IntKind.wrap .i64 (y1.2.2.1-4))-1)))) (((UInt8.toNat r14):Nat):Int)))) (IntKind.wrap .i64 ((IntKind.wrap .i64 (y1.2.2.1-4))-2))) fun r18 =>
 a0a (((List.set (List.set (List.set (List.set (List.set y1.1.1 (y1.1.2.1+(Int.toNat (IntKind.wrap .i64 (y1.2.2.1-1)))) (((UInt8.toNat r2):Nat):Int)) (y1.1.2.1+(Int.toNat (IntKind.wrap .i64 (y1.2.2.1-2)))) (((UInt8.toNat r3):Nat):Int)) (y1.1.2.1+(Int.toNat (IntKind.wrap .i64 (y1.2.2.1-3)))) (((UInt8.toNat r8):Nat):Int)) (y1.1.2.1+(Int.toNat (IntKind.wrap .i64 (y1.2.2.1-4)))) (((UInt8.toNat r9):Nat):Int)) (y1.1.2.1+(Int.toNat (IntKind.wrap .i64 ((IntKind.wrap .i64 (y1.2.2.1-4))-1)))) (((UInt8.toNat r14):Nat):Int)))[(y1.1.2.1+(Int.toNat (IntKind.wrap .i64 ((IntKind.wrap .i64 (y1.2.2.1-4))-2))))]?) fun r19 =>
 tif ((decide ((0:Int)<(IntKind.wrap .i64 ((IntKind.wrap .i64 (y1.2.2.1-4))-2))))) (
 a0a (at? (List.take y1.1.2.2 (List.drop y1.1.2.1 (List.set (List.set (List.set (List.set (List.set (List.set y1.1.1 (y1.1.2.1+(Int.toNat (IntKind.wrap .i64 (y1.2.2.1-1)))) (((UInt8.toNat r2):Nat):Int)) (y1.1.2.1+(Int.toNat (IntKind.wrap .i64 (y1.2.2.1-2)))) (((UInt8.toNat r3):Nat):Int)) (y1.1.2.1+(Int.toNat (IntKind.wrap .i64 (y1.2.2.1-3)))) (((UInt8.toNat r8):Nat):Int)) (y1.1.2.1+(Int.toNat (IntKind.wrap .i64 (y1.2.2.1-4)))) (((UInt8.toNat r9):Nat):Int)) (y1.1.2.1+(Int.toNat (IntKind.wrap .i64 ((IntKind.wrap .i64 (y1.2.2.1-4))-1)))) (((UInt8.toNat r14):Nat):Int)) (y1.1.2.1+(Int.toNat (IntKind.wrap .i64 ((IntKind.wrap .i64 (y1.2.2.1-4))-2)))) (((UInt8.toNat r15):Nat):Int)))) (0:Int)) fun r20 =>
 a0a (((List.set (List.set (List.set (List.set (List.set (List.set y1.1.1 (y1.1.2.1+(Int.toNat (IntKind.wrap .i64 (y1.2.2.1-1)))) (((UInt8.toNat r2):Nat):Int)) (y1.1.2.1+(Int.toNat (IntKind.wrap .i64 (y1.2.2.1-2)))) (((UInt8.toNat r3):Nat):Int)) (y1.1.2.1+(Int.toNat (IntKind.wrap .i64 (y1.2.2.1-3)))) (((UInt8.toNat r8):Nat):Int)) (y1.1.2.1+(Int.toNat (IntKind.wrap .i64 (y1.2.2.1-4)))) (((UInt8.toNat r9):Nat):Int)) (y1.1.2.1+(Int.toNat (IntKind.wrap .i64 ((IntKind.wrap .i64 (y1.2.2.1-4))-1)))) (((UInt8.toNat r14):Nat):Int)) (y1.1.2.1+(Int.toNat (IntKind.wrap .i64 ((IntKind.wrap .i64 (y1.2.2.1-4))-2)))) (((UInt8.toNat r15):Nat):Int)))[(y1.1.2.1+0)]?) fun r21 =>
 some ((List.set (List.set (List.set (List.set (List.set (List.set (List.set y1.1.1 (y1.1.2.1+(Int.toNat (IntKind.wrap .i64 (y1.2.2.1-1)))) (((UInt8.toNat r2):Nat):Int)) (y1.1.2.1+(Int.toNat (IntKind.wrap .i64 (y1.2.2.1-2)))) (((UInt8.toNat r3):Nat):Int)) (y1.1.2.1+(Int.toNat (IntKind.wrap .i64 (y1.2.2.1-3)))) (((UInt8.toNat r8):Nat):Int)) (y1.1.2.1+(Int.toNat (IntKind.wrap .i64 (y1.2.2.1-4)))) (((UInt8.toNat r9):Nat):Int)) (y1.1.2.1+(Int.toNat (IntKind.wrap .i64 ((IntKind.wrap .i64 (y1.2.2.1-4))-1)))) (((UInt8.toNat r14):Nat):Int)) (y1.1.2.1+(Int.toNat (IntKind.wrap .i64 ((IntKind.wrap .i64 (y1.2.2.1-4))-2)))) (((UInt8.toNat r15):Nat):Int)) (y1.1.2.1+0) (IntKind.wrap .u8 (IntKind.wrap .u32 ((48:Int)+(IntKind.wrap .u32 (Int.tdiv (IntKind.wrap .u32 (Int.tdiv (IntKind.wrap .u32 y1.2.1) (10000:Int))) (100:Int))))))),y1.1.2)) (
 some ((List.set (List.set (List.set (List.set (List.set (List.set y1.1.1 (y1.1.2.1+(Int.toNat (IntKind.wrap .i64 (y1.2.2.1-1)))) (((UInt8.toNat r2):Nat):Int)) (y1.1.2.1+(Int.toNat (IntKind.wrap .i64 (y1.2.2.1-2)))) (((UInt8.toNat r3):Nat):Int)) (y1.1.2.1+(Int.toNat (IntKind.wrap .i64 (y1.2.2.1-3)))) (((UInt8.toNat r8):Nat):Int)) (y1.1.2.1+(Int.toNat (IntKind.wrap .i64 (y1.2.2.1-4)))) (((UInt8.toNat r9):Nat):Int)) (y1.1.2.1+(Int.toNat (IntKind.wrap .i64 ((IntKind.wrap .i64 (y1.2.2.1-4))-1)))) (((UInt8.toNat r14):Nat):Int)) (y1.1.2.1+(Int.toNat (IntKind.wrap .i64 ((IntKind.wrap .i64 (y1.2.2.1-4))-2)))) (((UInt8.toNat r15):Nat):Int)),y1.1.2))) (
 tif ((decide ((0:Int)<(IntKind.wrap .i64 (y1.2.2.1-4))))) (
 a0a (at? (List.take y1.1.2.2 (List.drop y1.1.2.1 (List.set (List.set (List.set (List.set y1.1.1 (y1.1.2.1+(Int.toNat (IntKind.wrap .i64 (y1.2.2.1-1)))) (((UInt8.toNat r2):Nat):Int)) (y1.1.2.1+(Int.toNat (IntKind.wrap .i64 (y1.2.2.1-2)))) (((UInt8.toNat r3):Nat):Int)) (y1.1.2.1+(Int.toNat (IntKind.wrap .i64 (y1.2.2.1-3)))) (((UInt8.toNat r8):Nat):Int)) (y1.1.2.1+(Int.toNat (IntKind.wrap .i64 (y1.2.2.1-4)))) (((UInt8.toNat r9):Nat):Int)))) (0:Int)) fun r22 =>
 a0a (((List.set (List.set (List.set (List.set y1.1.1 (y1.1.2.1+(Int.toNat (IntKind.wrap .i64 (y1.2.2.1-1)))) (((UInt8.toNat r2):Nat):Int)) (y1.1.2.1+(Int.toNat (IntKind.wrap .i64 (y1.2.2.1-2)))) (((UInt8.toNat r3):Nat):Int)) (y1.1.2.1+(Int.toNat (IntKind.wrap .i64 (y1.2.2.1-3)))) (((UInt8.toNat r8):Nat):Int)) (y1.1.2.1+(Int.toNat (IntKind.wrap .i64 (y1.2.2.1-4)))) (((UInt8.toNat r9):Nat):Int)))[(y1.1.2.1+0)]?) fun r23 =>
 some ((List.set (List.set (List.set (List.set (List.set y1.1.1 (y1.1.2.1+(Int.toNat (IntKind.wrap .i64 (y1.2.2.1-1)))) (((UInt8.toNat r2):Nat):Int)) (y1.1.2.1+(Int.toNat (IntKind.wrap .i64 (y1.2.2.1-2)))) (((UInt8.toNat r3):Nat):Int)) (y1.1.2.1+(Int.toNat (IntKind.wrap .i64 (y1.2.2.1-3)))) (((UInt8.toNat r8):Nat):Int)) (y1.1.2.1+(Int.toNat (IntKind.wrap .i64 (y1.2.2.1-4)))) (((UInt8.toNat r9):Nat):Int)) (y1.1.2.1+0) (IntKind.wrap .u8 (IntKind.wrap .u32 ((48:Int)+(IntKind.wrap .u32 (Int.tdiv (IntKind.wrap .u32 y1.2.1) (10000:Int))))))),y1.1.2)) (
 some ((List.set (List.set (List.set (List.set y1.1.1 (y1.1.2.1+(Int.toNat (IntKind.wrap .i64 (y1.2.2.1-1)))) (((UInt8.toNat r2):Nat):Int)) (y1.1.2.1+(Int.toNat (IntKind.wrap .i64 (y1.2.2.1-2)))) (((UInt8.toNat r3):Nat):Int)) (y1.1.2.1+(Int.toNat (IntKind.wrap .i64 (y1.2.2.1-3)))) (((UInt8.toNat r8):Nat):Int)) (y1.1.2.1+(Int.toNat (IntKind.wrap .i64 (y1.2.2.1-4)))) (((UInt8.toNat r9):Nat):Int)),y1.1.2)))) (
 tif ((decide ((2:Int)≤y1.2.2.1))) (
 a0a (at? b0h (IntKind.wrap .u32 ((IntKind.wrap .u32 ((Int.tmod (IntKind.wrap .u32 y1.2.1) (100:Int))*2))+1))) fun r24 =>
 a0a (at? b0h (IntKind.wrap .u32 ((Int.tmod (IntKind.wrap .u32 y1.2.1) (100:Int))*2))) fun r25 =>
 a0a (at? (List.take y1.1.2.2 (List.drop y1.1.2.1 y1.1.1)) (IntKind.wrap .i64 (y1.2.2.1-1))) fun r26 =>
 a0a ((y1.1.1)[(y1.1.2.1+(Int.toNat (IntKind.wrap .i64 (y1.2.2.1-1))))]?) fun r27 =>
 a0a (at? (List.take y1.1.2.2 (List.drop y1.1.2.1 (List.set y1.1.1 (y1.1.2.1+(Int.toNat (IntKind.wrap .i64 (y1.2.2.1-1)))) (((UInt8.toNat r24):Nat):Int)))) (IntKind.wrap .i64 (y1.2.2.1-2))) fun r28 =>
 a0a (((List.set y1.1.1 (y1.1.2.1+(Int.toNat (IntKind.wrap .i64 (y1.2.2.1-1)))) (((UInt8.toNat r24):Nat):Int)))[(y1.1.2.1+(Int.toNat (IntKind.wrap .i64 (y1.2.2.1-2))))]?) fun r29 =>
 tif ((decide ((0:Int)<(IntKind.wrap .i64 (y1.2.2.1-2))))) (
 a0a (at? (List.take y1.1.2.2 (List.drop y1.1.2.1 (List.set (List.set y1.1.1 (y1.1.2.1+(Int.toNat (IntKind.wrap .i64 (y1.2.2.1-1)))) (((UInt8.toNat r24):Nat):Int)) (y1.1.2.1+(Int.toNat (IntKind.wrap .i64 (y1.2.2.1-2)))) (((UInt8.toNat r25):Nat):Int)))) (0:Int)) fun r30 =>
 a0a (((List.set (List.set y1.1.1 (y1.1.2.1+(Int.toNat (IntKind.wrap .i64 (y1.2.2.1-1)))) (((UInt8.toNat r24):Nat):Int)) (y1.1.2.1+(Int.toNat (IntKind.wrap .i64 (y1.2.2.1-2)))) (((UInt8.toNat r25):Nat):Int)))[(y1.1.2.1+0)]?) fun r31 =>
 some ((List.set (List.set (List.set y1.1.1 (y1.1.2.1+(Int.toNat (IntKind.wrap .i64 (y1.2.2.1-1)))) (((UInt8.toNat r24):Nat):Int)) (y1.1.2.1+(Int.toNat (IntKind.wrap .i64 (y1.2.2.1-2)))) (((UInt8.toNat r25):Nat):Int)) (y1.1.2.1+0) (IntKind.wrap .u8 (IntKind.wrap .u32 ((48:Int)+(IntKind.wrap .u32 (Int.tdiv (IntKind.wrap .u32 y1.2.1) (100:Int))))))),y1.1.2)) (
 some ((List.set (List.set y1.1.1 (y1.1.2.1+(Int.toNat (IntKind.wrap .i64 (y1.2.2.1-1)))) (((UInt8.toNat r24):Nat):Int)) (y1.1.2.1+(Int.toNat (IntKind.wrap .i64 (y1.2.2.1-2)))) (((UInt8.toNat r25):Nat):Int)),y1.1.2))) (
 tif ((decide ((0:Int)<y1.2.2.1))) (
 a0a (at? (List.take y1.1.2.2 (List.drop y1.1.2.1 y1.1.1)) (0:Int)) fun r32 =>
 a0a ((y1.1.1)[(y1.1.2.1+0)]?) fun r33 =>
 some ((List.set y1.1.1 (y1.1.2.1+0) (IntKind.wrap .u8 (IntKind.wrap .u32 ((48:Int)+(IntKind.wrap .u32 y1.2.1))))),y1.1.2)) (
 some y1.1)))) (fun z34 =>
 some z34) r0:=by kernel_rfl
theorem f0r (n f:Nat) (a:(List Int×(Nat×Nat))) (u:Int) (nd:Int):b0y n (f+1) (a,u,nd,()) =
 tif ((decide ((8:Int)≤nd))) (
 a0a (at? b0h (IntKind.wrap .u32 ((IntKind.wrap .u32 ((Int.tmod (Int.tmod (IntKind.wrap .u32 (Int.tmod u (100000000:Int))) (10000:Int)) (100:Int))*2))+1))) fun r0 =>
 a0a (at? b0h (IntKind.wrap .u32 ((Int.tmod (Int.tmod (IntKind.wrap .u32 (Int.tmod u (100000000:Int))) (10000:Int)) (100:Int))*2))) fun r1 =>
 a0a (at? (List.take a.2.2 (List.drop a.2.1 a.1)) (IntKind.wrap .i64 (nd-1))) fun r2 =>
 a0a ((a.1)[(a.2.1+(Int.toNat (IntKind.wrap .i64 (nd-1))))]?) fun r3 =>
 a0a (at? (List.take a.2.2 (List.drop a.2.1 (List.set a.1 (a.2.1+(Int.toNat (IntKind.wrap .i64 (nd-1)))) (((UInt8.toNat r0):Nat):Int)))) (IntKind.wrap .i64 (nd-2))) fun r4 =>
 a0a (((List.set a.1 (a.2.1+(Int.toNat (IntKind.wrap .i64 (nd-1)))) (((UInt8.toNat r0):Nat):Int)))[(a.2.1+(Int.toNat (IntKind.wrap .i64 (nd-2))))]?) fun r5 =>
 a0a (at? b0h (IntKind.wrap .u32 ((IntKind.wrap .u32 ((IntKind.wrap .u32 (Int.tdiv (Int.tmod (IntKind.wrap .u32 (Int.tmod u (100000000:Int))) (10000:Int)) (100:Int)))*2))+1))) fun r6 =>
 a0a (at? b0h (IntKind.wrap .u32 ((IntKind.wrap .u32 (Int.tdiv (Int.tmod (IntKind.wrap .u32 (Int.tmod u (100000000:Int))) (10000:Int)) (100:Int)))*2))) fun r7 =>
 a0a (at? (List.take a.2.2 (List.drop a.2.1 (List.set (List.set a.1 (a.2.1+(Int.toNat (IntKind.wrap .i64 (nd-1)))) (((UInt8.toNat r0):Nat):Int)) (a.2.1+(Int.toNat (IntKind.wrap .i64 (nd-2)))) (((UInt8.toNat r1):Nat):Int)))) (IntKind.wrap .i64 (nd-3))) fun r8 =>
 a0a (((List.set (List.set a.1 (a.2.1+(Int.toNat (IntKind.wrap .i64 (nd-1)))) (((UInt8.toNat r0):Nat):Int)) (a.2.1+(Int.toNat (IntKind.wrap .i64 (nd-2)))) (((UInt8.toNat r1):Nat):Int)))[(a.2.1+(Int.toNat (IntKind.wrap .i64 (nd-3))))]?) fun r9 =>
 a0a (at? (List.take a.2.2 (List.drop a.2.1 (List.set (List.set (List.set a.1 (a.2.1+(Int.toNat (IntKind.wrap .i64 (nd-1)))) (((UInt8.toNat r0):Nat):Int)) (a.2.1+(Int.toNat (IntKind.wrap .i64 (nd-2)))) (((UInt8.toNat r1):Nat):Int)) (a.2.1+(Int.toNat (IntKind.wrap .i64 (nd-3)))) (((UInt8.toNat r6):Nat):Int)))) (IntKind.wrap .i64 (nd-4))) fun r10 =>
 a0a (((List.set (List.set (List.set a.1 (a.2.1+(Int.toNat (IntKind.wrap .i64 (nd-1)))) (((UInt8.toNat r0):Nat):Int)) (a.2.1+(Int.toNat (IntKind.wrap .i64 (nd-2)))) (((UInt8.toNat r1):Nat):Int)) (a.2.1+(Int.toNat (IntKind.wrap .i64 (nd-3)))) (((UInt8.toNat r6):Nat):Int)))[(a.2.1+(Int.toNat (IntKind.wrap .i64 (nd-4))))]?) fun r11 =>
 a0a (at? b0h (IntKind.wrap .u32 ((IntKind.wrap .u32 ((Int.tmod (IntKind.wrap .u32 (Int.tdiv (IntKind.wrap .u32 (Int.tmod u (100000000:Int))) (10000:Int))) (100:Int))*2))+1))) fun r12 =>
 a0a (at? b0h (IntKind.wrap .u32 ((Int.tmod (IntKind.wrap .u32 (Int.tdiv (IntKind.wrap .u32 (Int.tmod u (100000000:Int))) (10000:Int))) (100:Int))*2))) fun r13 =>
 a0a (at? (List.take a.2.2 (List.drop a.2.1 (List.set (List.set (List.set (List.set a.1 (a.2.1+(Int.toNat (IntKind.wrap .i64 (nd-1)))) (((UInt8.toNat r0):Nat):Int)) (a.2.1+(Int.toNat (IntKind.wrap .i64 (nd-2)))) (((UInt8.toNat r1):Nat):Int)) (a.2.1+(Int.toNat (IntKind.wrap .i64 (nd-3)))) (((UInt8.toNat r6):Nat):Int)) (a.2.1+(Int.toNat (IntKind.wrap .i64 (nd-4)))) (((UInt8.toNat r7):Nat):Int)))) (IntKind.wrap .i64 (nd-5))) fun r14 =>
 a0a (((List.set (List.set (List.set (List.set a.1 (a.2.1+(Int.toNat (IntKind.wrap .i64 (nd-1)))) (((UInt8.toNat r0):Nat):Int)) (a.2.1+(Int.toNat (IntKind.wrap .i64 (nd-2)))) (((UInt8.toNat r1):Nat):Int)) (a.2.1+(Int.toNat (IntKind.wrap .i64 (nd-3)))) (((UInt8.toNat r6):Nat):Int)) (a.2.1+(Int.toNat (IntKind.wrap .i64 (nd-4)))) (((UInt8.toNat r7):Nat):Int)))[(a.2.1+(Int.toNat (IntKind.wrap .i64 (nd-5))))]?) fun r15 =>
 a0a (at? (List.take a.2.2 (List.drop a.2.1 (List.set (List.set (List.set (List.set (List.set a.1 (a.2.1+(Int.toNat (IntKind.wrap .i64 (nd-1)))) (((UInt8.toNat r0):Nat):Int)) (a.2.1+(Int.toNat (IntKind.wrap .i64 (nd-2)))) (((UInt8.toNat r1):Nat):Int)) (a.2.1+(Int.toNat (IntKind.wrap .i64 (nd-3)))) (((UInt8.toNat r6):Nat):Int)) (a.2.1+(Int.toNat (IntKind.wrap .i64 (nd-4)))) (((UInt8.toNat r7):Nat):Int)) (a.2.1+(Int.toNat (IntKind.wrap .i64 (nd-5)))) (((UInt8.toNat r12):Nat):Int)))) (IntKind.wrap .i64 (nd-6))) fun r16 =>
 a0a (((List.set (List.set (List.set (List.set (List.set a.1 (a.2.1+(Int.toNat (IntKind.wrap .i64 (nd-1)))) (((UInt8.toNat r0):Nat):Int)) (a.2.1+(Int.toNat (IntKind.wrap .i64 (nd-2)))) (((UInt8.toNat r1):Nat):Int)) (a.2.1+(Int.toNat (IntKind.wrap .i64 (nd-3)))) (((UInt8.toNat r6):Nat):Int)) (a.2.1+(Int.toNat (IntKind.wrap .i64 (nd-4)))) (((UInt8.toNat r7):Nat):Int)) (a.2.1+(Int.toNat (IntKind.wrap .i64 (nd-5)))) (((UInt8.toNat r12):Nat):Int)))[(a.2.1+(Int.toNat (IntKind.wrap .i64 (nd-6))))]?) fun r17 =>
 a0a (at? b0h (IntKind.wrap .u32 ((IntKind.wrap .u32 ((IntKind.wrap .u32 (Int.tdiv (IntKind.wrap .u32 (Int.tdiv (IntKind.wrap .u32 (Int.tmod u (100000000:Int))) (10000:Int))) (100:Int)))*2))+1))) fun r18 =>
 a0a (at? b0h (IntKind.wrap .u32 ((IntKind.wrap .u32 (Int.tdiv (IntKind.wrap .u32 (Int.tdiv (IntKind.wrap .u32 (Int.tmod u (100000000:Int))) (10000:Int))) (100:Int)))*2))) fun r19 =>
 a0a (at? (List.take a.2.2 (List.drop a.2.1 (List.set (List.set (List.set (List.set (List.set (List.set a.1 (a.2.1+(Int.toNat (IntKind.wrap .i64 (nd-1)))) (((UInt8.toNat r0):Nat):Int)) (a.2.1+(Int.toNat (IntKind.wrap .i64 (nd-2)))) (((UInt8.toNat r1):Nat):Int)) (a.2.1+(Int.toNat (IntKind.wrap .i64 (nd-3)))) (((UInt8.toNat r6):Nat):Int)) (a.2.1+(Int.toNat (IntKind.wrap .i64 (nd-4)))) (((UInt8.toNat r7):Nat):Int)) (a.2.1+(Int.toNat (IntKind.wrap .i64 (nd-5)))) (((UInt8.toNat r12):Nat):Int)) (a.2.1+(Int.toNat (IntKind.wrap .i64 (nd-6)))) (((UInt8.toNat r13):Nat):Int)))) (IntKind.wrap .i64 (nd-7))) fun r20 =>
 a0a (((List.set (List.set (List.set (List.set (List.set (List.set a.1 (a.2.1+(Int.toNat (IntKind.wrap .i64 (nd-1)))) (((UInt8.toNat r0):Nat):Int)) (a.2.1+(Int.toNat (IntKind.wrap .i64 (nd-2)))) (((UInt8.toNat r1):Nat):Int)) (a.2.1+(Int.toNat (IntKind.wrap .i64 (nd-3)))) (((UInt8.toNat r6):Nat):Int)) (a.2.1+(Int.toNat (IntKind.wrap .i64 (nd-4)))) (((UInt8.toNat r7):Nat):Int)) (a.2.1+(Int.toNat (IntKind.wrap .i64 (nd-5)))) (((UInt8.toNat r12):Nat):Int)) (a.2.1+(Int.toNat (IntKind.wrap .i64 (nd-6)))) (((UInt8.toNat r13):Nat):Int)))[(a.2.1+(Int.toNat (IntKind.wrap .i64 (nd-7))))]?) fun r21 =>
 a0a (at? (List.take a.2.2 (List.drop a.2.1 (List.set (List.set (List.set (List.set (List.set (List.set (List.set a.1 (a.2.1+(Int.toNat (IntKind.wrap .i64 (nd-1)))) (((UInt8.toNat r0):Nat):Int)) (a.2.1+(Int.toNat (IntKind.wrap .i64 (nd-2)))) (((UInt8.toNat r1):Nat):Int)) (a.2.1+(Int.toNat (IntKind.wrap .i64 (nd-3)))) (((UInt8.toNat r6):Nat):Int)) (a.2.1+(Int.toNat (IntKind.wrap .i64 (nd-4)))) (((UInt8.toNat r7):Nat):Int)) (a.2.1+(Int.toNat (IntKind.wrap .i64 (nd-5)))) (((UInt8.toNat r12):Nat):Int)) (a.2.1+(Int.toNat (IntKind.wrap .i64 (nd-6)))) (((UInt8.toNat r13):Nat):Int)) (a.2.1+(Int.toNat (IntKind.wrap .i64 (nd-7)))) (((UInt8.toNat r18):Nat):Int)))) (IntKind.wrap .i64 (nd-8))) fun r22 =>
 a0a (((List.set (List.set (List.set (List.set (List.set (List.set (List.set a.1 (a.2.1+(Int.toNat (IntKind.wrap .i64 (nd-1)))) (((UInt8.toNat r0):Nat):Int)) (a.2.1+(Int.toNat (IntKind.wrap .i64 (nd-2)))) (((UInt8.toNat r1):Nat):Int)) (a.2.1+(Int.toNat (IntKind.wrap .i64 (nd-3)))) (((UInt8.toNat r6):Nat):Int)) (a.2.1+(Int.toNat (IntKind.wrap .i64 (nd-4)))) (((UInt8.toNat r7):Nat):Int)) (a.2.1+(Int.toNat (IntKind.wrap .i64 (nd-5)))) (((UInt8.toNat r12):Nat):Int)) (a.2.1+(Int.toNat (IntKind.wrap .i64 (nd-6)))) (((UInt8.toNat r13):Nat):Int)) (a.2.1+(Int.toNat (IntKind.wrap .i64 (nd-7)))) (((UInt8.toNat r18):Nat):Int)))[(a.2.1+(Int.toNat (IntKind.wrap .i64 (nd-8))))]?) fun r23 =>
 b0y n f (((List.set (List.set (List.set (List.set (List.set (List.set (List.set (List.set a.1 (a.2.1+(Int.toNat (IntKind.wrap .i64 (nd-1)))) (((UInt8.toNat r0):Nat):Int)) (a.2.1+(Int.toNat (IntKind.wrap .i64 (nd-2)))) (((UInt8.toNat r1):Nat):Int)) (a.2.1+(Int.toNat (IntKind.wrap .i64 (nd-3)))) (((UInt8.toNat r6):Nat):Int)) (a.2.1+(Int.toNat (IntKind.wrap .i64 (nd-4)))) (((UInt8.toNat r7):Nat):Int)) (a.2.1+(Int.toNat (IntKind.wrap .i64 (nd-5)))) (((UInt8.toNat r12):Nat):Int)) (a.2.1+(Int.toNat (IntKind.wrap .i64 (nd-6)))) (((UInt8.toNat r13):Nat):Int)) (a.2.1+(Int.toNat (IntKind.wrap .i64 (nd-7)))) (((UInt8.toNat r18):Nat):Int)) (a.2.1+(Int.toNat (IntKind.wrap .i64 (nd-8)))) (((UInt8.toNat r19):Nat):Int)),a.2),((IntKind.wrap .u64 (Int.tdiv u (100000000:Int))),((IntKind.wrap .i64 (nd-8)),())))) (
 some (.inl (a,(u,(nd,()))))):=by kernel_rfl
end Go.Proofs.YtjionkknnajjgaaGreatDoor
