/- Trees, printed by program. -/
import Derived.Test.YtgcaeappeolhjaaDoorTr0
import Derived.KernelRfl
set_option linter.unusedVariables false
namespace Go.Proofs.YtgcaeappeolhjaaDoor
open Go.Flat
theorem l34_TextBack_eq (n:Nat) (l:(List TRow)) (line:List UInt8) (between:List UInt8):l34_TextBack (n+1) l line between =
 obind (l34_lives n ) fun r0 =>
 tif ((!r0)) (
 some false) (
 obind (l34_Small n l) fun r1 =>
 tif ((decide (r1=0))) (
 some true) (
 tif ((decide ((4096:Int)<(((List.length line):Nat):Int)))) (
 some true) (
 tif ((decide ((1024:Int)<(((List.length between):Nat):Int)))) (
 some true) (
 obind (text_Parse n line) fun r2 =>
 tif ((decide (r2.2=0))) (
 obind (text_Line n r2.1) fun r3 =>
 tif ((!(decide (r3.2=0)))) (
 some false) (
 tif ((!(r3.1==line))) (
 some false) (
 obind (l34_TextBack_l12 n loopFuel (l,(between,([],((0:Int),((0:Int),())))))) fun r4 =>
 selim (fun y5 =>
 obind (text_Parse n y5.2.1) fun r6 =>
 tif ((decide (r6.2=0))) (
 some true) (
 tif ((!(y5.2.1==[]))) (
 obind (at? y5.2.1 (0:Int)) fun r7 =>
 tif ((!(decide ((((UInt8.toNat r7):Nat):Int)=35)))) (
 obind (l34_TextBack_l23 n loopFuel (y5.1,(y5.2.1,(y5.2.2.1,((1:Int),((0:Int),(y5.1,((((List.length y5.1):Nat):Int),((0:Int),()))))))))) fun r8 =>
 selim (fun y9 =>
 obind (text_Read n y9.2.1) fun r10 =>
 obind (r34_SameList n r10.1 y9.1) fun r11 =>
 tif (r11) (
 some (decide (r10.2=y9.2.2.1))) (
 some false)) (fun z12 =>
 some z12) r8) (
 obind (l34_TextBack_l23 n loopFuel (y5.1,(y5.2.1,(y5.2.2.1,(y5.2.2.2.1,((0:Int),(y5.1,((((List.length y5.1):Nat):Int),((0:Int),()))))))))) fun r13 =>
 selim (fun y14 =>
 obind (text_Read n y14.2.1) fun r15 =>
 obind (r34_SameList n r15.1 y14.1) fun r16 =>
 tif (r16) (
 some (decide (r15.2=y14.2.2.1))) (
 some false)) (fun z17 =>
 some z17) r13)) (
 obind (l34_TextBack_l23 n loopFuel (y5.1,(y5.2.1,(y5.2.2.1,(y5.2.2.2.1,((0:Int),(y5.1,((((List.length y5.1):Nat):Int),((0:Int),()))))))))) fun r18 =>
 selim (fun y19 =>
 obind (text_Read n y19.2.1) fun r20 =>
 obind (r34_SameList n r20.1 y19.1) fun r21 =>
 tif (r21) (
 some (decide (r20.2=y19.2.2.1))) (
 some false)) (fun z22 =>
 some z22) r18))) (fun z23 =>
 some z23) r4))) (
 obind (l34_TextBack_l12 n loopFuel (l,(between,([],((0:Int),((0:Int),())))))) fun r24 =>
 selim (fun y25 =>
 obind (text_Parse n y25.2.1) fun r26 =>
 tif ((decide (r26.2=0))) (
 some true) (
 tif ((!(y25.2.1==[]))) (
 obind (at? y25.2.1 (0:Int)) fun r27 =>
 tif ((!(decide ((((UInt8.toNat r27):Nat):Int)=35)))) (
 obind (l34_TextBack_l23 n loopFuel (y25.1,(y25.2.1,(y25.2.2.1,((1:Int),((0:Int),(y25.1,((((List.length y25.1):Nat):Int),((0:Int),()))))))))) fun r28 =>
 selim (fun y29 =>
 obind (text_Read n y29.2.1) fun r30 =>
 obind (r34_SameList n r30.1 y29.1) fun r31 =>
 tif (r31) (
 some (decide (r30.2=y29.2.2.1))) (
 some false)) (fun z32 =>
 some z32) r28) (
 obind (l34_TextBack_l23 n loopFuel (y25.1,(y25.2.1,(y25.2.2.1,(y25.2.2.2.1,((0:Int),(y25.1,((((List.length y25.1):Nat):Int),((0:Int),()))))))))) fun r33 =>
 selim (fun y34 =>
 obind (text_Read n y34.2.1) fun r35 =>
 obind (r34_SameList n r35.1 y34.1) fun r36 =>
 tif (r36) (
 some (decide (r35.2=y34.2.2.1))) (
 some false)) (fun z37 =>
 some z37) r33)) (
 obind (l34_TextBack_l23 n loopFuel (y25.1,(y25.2.1,(y25.2.2.1,(y25.2.2.2.1,((0:Int),(y25.1,((((List.length y25.1):Nat):Int),((0:Int),()))))))))) fun r38 =>
 selim (fun y39 =>
 obind (text_Read n y39.2.1) fun r40 =>
 obind (r34_SameList n r40.1 y39.1) fun r41 =>
 tif (r41) (
 some (decide (r40.2=y39.2.2.1))) (
 some false)) (fun z42 =>
 some z42) r38))) (fun z43 =>
 some z43) r24))))):=by kernel_rfl
theorem l34_TextBack_l12_eq (n f:Nat) (l:(List TRow)) (between:List UInt8) (all:List UInt8) (others:Int) (i:Int):l34_TextBack_l12 n (f+1) (l,between,all,others,i,()) =
 tif ((decide (i<(((List.length between):Nat):Int)))) (
 obind (at? between i) fun r0 =>
 tif ((decide ((((UInt8.toNat r0):Nat):Int)=10))) (
 some (.inr true)) (
 l34_TextBack_l12 n f (l,(between,(all,(others,((IntKind.wrap .i64 (i+1)),()))))))) (
 some (.inl (l,(between,(all,(others,())))))):=by kernel_rfl
theorem l34_TextBack_l23_eq (n f:Nat) (l:(List TRow)) (between:List UInt8) (all:List UInt8) (others:Int) (many:Int) (s83:(List TRow)) (s84:Int) (s85:Int):l34_TextBack_l23 n (f+1) (l,between,all,others,many,s83,s84,s85,()) =
 tif ((decide (s85<s84))) (
 obind (at? s83 s85) fun r0 =>
 obind (text_Line n r0) fun r1 =>
 tif ((!(decide (r1.2=0)))) (
 some (.inr true)) (
 obind (text_Parse n r1.1) fun r2 =>
 tif ((!(decide (r2.2=0)))) (
 some (.inr false)) (
 obind (r34_Same n r2.1 r0) fun r3 =>
 tif ((!r3)) (
 some (.inr false)) (
 tif ((decide (((List.length r1.1)+1)≤9223372036854775807))) (
 tif ((decide (((List.length (r1.1++((10:UInt8)::[])))+(List.length between))≤9223372036854775807))) (
 tif ((decide (((List.length ((r1.1++((10:UInt8)::[]))++between))+1)≤9223372036854775807))) (
 tif ((decide (((List.length all)+(List.length (((r1.1++((10:UInt8)::[]))++between)++((10:UInt8)::[]))))≤9223372036854775807))) (
 l34_TextBack_l23 n f (l,(between,((all++(((r1.1++((10:UInt8)::[]))++between)++((10:UInt8)::[]))),(others,((IntKind.wrap .i64 (many+others)),(s83,(s84,((IntKind.wrap .i64 (s85+1)),()))))))))) (
 none)) (
 none)) (
 none)) (
 none))))) (
 some (.inl (l,(all,(many,()))))):=by kernel_rfl
theorem l05_Small_eq (n:Nat) (l:(List (List UInt8×List UInt8))):l05_Small (n+1) l =
 obind (l05_Small_l2 n loopFuel (l,((((List.length l):Nat):Int),((0:Int),())))) fun r0 =>
 selim (fun y1 =>
 some (1:Int)) (fun z2 =>
 some z2) r0:=by kernel_rfl
theorem l05_Small_l2_eq (n f:Nat) (s5:(List (List UInt8×List UInt8))) (s6:Int) (s7:Int):l05_Small_l2 n (f+1) (s5,s6,s7,()) =
 tif ((decide (s7<s6))) (
 obind (at? s5 s7) fun r0 =>
 tif ((decide (s7=40))) (
 some (.inr (0:Int))) (
 tif ((decide ((1000:Int)<(((List.length r0.1):Nat):Int)))) (
 some (.inr (0:Int))) (
 tif ((decide ((1000:Int)<(((List.length r0.2):Nat):Int)))) (
 some (.inr (0:Int))) (
 l05_Small_l2 n f (s5,(s6,((IntKind.wrap .i64 (s7+1)),()))))))) (
 some (.inl ())):=by kernel_rfl
theorem l34_Small_eq (n:Nat) (l:(List TRow)):l34_Small (n+1) l =
 obind (l34_Small_l2 n loopFuel (l,((((List.length l):Nat):Int),((0:Int),())))) fun r0 =>
 selim (fun y1 =>
 some (1:Int)) (fun z2 =>
 some z2) r0:=by kernel_rfl
theorem l34_Small_l2_eq (n f:Nat) (s5:(List TRow)) (s6:Int) (s7:Int):l34_Small_l2 n (f+1) (s5,s6,s7,()) =
 tif ((decide (s7<s6))) (
 obind (at? s5 s7) fun r0 =>
 tif ((decide (s7=60))) (
 some (.inr (0:Int))) (
 obind (l05_Small n r0.1) fun r1 =>
 tif ((decide (r1=0))) (
 some (.inr (0:Int))) (
 l34_Small_l2 n f (s5,(s6,((IntKind.wrap .i64 (s7+1)),())))))) (
 some (.inl ())):=by kernel_rfl
theorem text_Parse_eq (n:Nat) (line:List UInt8):text_Parse (n+1) line =
 obind (strings_LastIndexByte n line (125:Int)) fun r0 =>
 tif (((decide ((0:Int)≤(IntKind.wrap .i64 (r0+1))))&&(decide ((IntKind.wrap .i64 (r0+1))≤(((List.length line):Nat):Int))))) (
 obind (label_Parse n (List.drop 0 (List.take (Int.toNat (IntKind.wrap .i64 (r0+1))) line))) fun r1 =>
 tif ((decide ((0:Int)≤(IntKind.wrap .i64 (r0+1))))) (
 tif ((decide ((Int.toNat (IntKind.wrap .i64 (r0+1)))≤(List.length line)))) (
 obind (text_tail n (List.drop (Int.toNat (IntKind.wrap .i64 (r0+1))) (List.take (List.length line) line))) fun r2 =>
 tif ((!(decide (r1.2=0)))) (
 some (([],((0:Int),((0:Int),((0:Int),false)))),(4:Int))) (
 tif ((!r2.2)) (
 some (([],((0:Int),((0:Int),((0:Int),false)))),(4:Int))) (
 obind (text_Line n (r1.1,r2.1)) fun r3 =>
 tif ((!(decide (r3.2=0)))) (
 some (([],((0:Int),((0:Int),((0:Int),false)))),(4:Int))) (
 tif ((!(r3.1==line))) (
 some (([],((0:Int),((0:Int),((0:Int),false)))),(4:Int))) (
 some ((r1.1,r2.1),(0:Int))))))) (
 none)) (
 none)) (
 none):=by kernel_rfl
theorem text_Line_eq (n:Nat) (r:TRow):text_Line (n+1) r =
 obind (label_Text n r.1) fun r0 =>
 tif ((!(decide (r0.2=0)))) (
 some ([],r0.2)) (
 obind (event_Check n r.2) fun r1 =>
 tif ((!(decide (r1=0)))) (
 some ([],r1)) (
 tif ((decide ((List.length r0.1)≤140737488355328))) (
 tif ((decide ((((List.length (List.map (fun y15=>(((UInt8.toNat y15):Nat):Int)) r0.1))+1)*1)≤140737488355328))) (
 tif (r.2.2.2.2) (
 tif ((decide ((((List.length ((List.map (fun y8=>(((UInt8.toNat y8):Nat):Int)) r0.1)++((32:Int)::[])))+5)*1)≤140737488355328))) (
 tif ((decide ((((List.length (((List.map (fun y7=>(((UInt8.toNat y7):Nat):Int)) r0.1)++((32:Int)::[]))++((115:Int)::((116:Int)::((97:Int)::((108:Int)::((101:Int)::[])))))))+1)*1)≤140737488355328))) (
 obind (strconv_AppendInt n ((((List.map (fun y2=>(((UInt8.toNat y2):Nat):Int)) r0.1)++((32:Int)::[]))++((115:Int)::((116:Int)::((97:Int)::((108:Int)::((101:Int)::[]))))))++((32:Int)::[])) r.2.1 (10:Int)) fun r3 =>
 tif ((decide ((0:Int)<r.2.2.2.1))) (
 tif ((decide ((((List.length r3)+1)*1)≤140737488355328))) (
 tif ((decide ((((List.length (r3++((32:Int)::[])))+1)*1)≤140737488355328))) (
 obind (strconv_AppendInt n ((r3++((32:Int)::[]))++((99:Int)::[])) r.2.2.2.1 (10:Int)) fun r4 =>
 some ((List.map (fun y5=>(UInt8.ofNat (Int.toNat y5))) r4),(0:Int))) (
 none)) (
 none)) (
 some ((List.map (fun y6=>(UInt8.ofNat (Int.toNat y6))) r3),(0:Int)))) (
 none)) (
 none)) (
 obind (strconv_AppendUint n ((List.map (fun y9=>(((UInt8.toNat y9):Nat):Int)) r0.1)++((32:Int)::[])) r.2.2.1 (10:Int)) fun r10 =>
 tif ((decide ((((List.length r10)+1)*1)≤140737488355328))) (
 obind (strconv_AppendInt n (r10++((32:Int)::[])) r.2.1 (10:Int)) fun r11 =>
 tif ((decide ((0:Int)<r.2.2.2.1))) (
 tif ((decide ((((List.length r11)+1)*1)≤140737488355328))) (
 tif ((decide ((((List.length (r11++((32:Int)::[])))+1)*1)≤140737488355328))) (
 obind (strconv_AppendInt n ((r11++((32:Int)::[]))++((99:Int)::[])) r.2.2.2.1 (10:Int)) fun r12 =>
 some ((List.map (fun y13=>(UInt8.ofNat (Int.toNat y13))) r12),(0:Int))) (
 none)) (
 none)) (
 some ((List.map (fun y14=>(UInt8.ofNat (Int.toNat y14))) r11),(0:Int)))) (
 none))) (
 none)) (
 none))):=by kernel_rfl
theorem r34_Same_eq (n:Nat) (a:TRow) (b:TRow):r34_Same (n+1) a b =
 obind (r05_Same n a.1 b.1) fun r0 =>
 tif (r0) (
 some ((decide (a.2.1=b.2.1))&&((decide (a.2.2.1=b.2.2.1))&&((decide (a.2.2.2.1=b.2.2.2.1))&&(a.2.2.2.2==b.2.2.2.2))))) (
 some false):=by kernel_rfl
theorem text_Read_eq (n:Nat) (s:List UInt8):text_Read (n+1) s =
 obind (text_lines n s) fun r0 =>
 obind (text_Read_s5 n r0 ([],((0:Int),()))) fun r1 =>
 some (r1.1,r1.2.1):=by kernel_rfl
theorem text_Read_s5_nil (n:Nat) (x:((List TRow)×(Int×Unit))):text_Read_s5 n [] x=some x:=by kernel_rfl
theorem text_Read_s5_cons (n:Nat) (y:(List UInt8×Unit)) (r:List (List UInt8×Unit)) (out:(List TRow)) (others:Int):text_Read_s5 n (y::r) (out,others,()) =
 obind (obind (text_Parse n y.1) fun r0 =>
 tif ((!(decide (r0.2=0)))) (
 some (out,((IntKind.wrap .i64 (others+1)),()))) (
 tif ((decide ((((List.length out)+1)*56)≤140737488355328))) (
 some ((out++(r0.1::[])),(others,()))) (
 none))) fun r1 =>
 text_Read_s5 n r r1:=by kernel_rfl
theorem r34_SameList_eq (n:Nat) (a:(List TRow)) (b:(List TRow)):r34_SameList (n+1) a b =
 tif ((!(decide ((((List.length a):Nat):Int)=(((List.length b):Nat):Int))))) (
 some false) (
 obind (r34_SameList_l4 n loopFuel (a,(b,((((List.length a):Nat):Int),((0:Int),()))))) fun r0 =>
 selim (fun y1 =>
 some true) (fun z2 =>
 some z2) r0):=by kernel_rfl
theorem r34_SameList_l4_eq (n f:Nat) (a:(List TRow)) (b:(List TRow)) (s12:Int) (s13:Int):r34_SameList_l4 n (f+1) (a,b,s12,s13,()) =
 tif ((decide (s13<s12))) (
 obind (at? a s13) fun r0 =>
 obind (at? b s13) fun r1 =>
 obind (r34_Same n r0 r1) fun r2 =>
 tif ((!r2)) (
 some (.inr false)) (
 r34_SameList_l4 n f (a,(b,(s12,((IntKind.wrap .i64 (s13+1)),())))))) (
 some (.inl ())):=by kernel_rfl
theorem r05_Same_eq (n:Nat) (a:(List (List UInt8×List UInt8))) (b:(List (List UInt8×List UInt8))):r05_Same (n+1) a b =
 tif ((!(decide ((((List.length a):Nat):Int)=(((List.length b):Nat):Int))))) (
 some false) (
 obind (r05_Same_l4 n loopFuel (a,(b,((((List.length a):Nat):Int),((0:Int),()))))) fun r0 =>
 selim (fun y1 =>
 some true) (fun z2 =>
 some z2) r0):=by kernel_rfl
theorem r05_Same_l4_eq (n f:Nat) (a:(List (List UInt8×List UInt8))) (b:(List (List UInt8×List UInt8))) (s12:Int) (s13:Int):r05_Same_l4 n (f+1) (a,b,s12,s13,()) =
 tif ((decide (s13<s12))) (
 obind (at? a s13) fun r0 =>
 obind (at? b s13) fun r1 =>
 tif ((!((r0.1==r1.1)&&(r0.2==r1.2)))) (
 some (.inr false)) (
 r05_Same_l4 n f (a,(b,(s12,((IntKind.wrap .i64 (s13+1)),())))))) (
 some (.inl ())):=by kernel_rfl
theorem strings_Cut_eq (n:Nat) (s:List UInt8) (sep:List UInt8):strings_Cut (n+1) s sep =
 obind (stringslite_Cut n s sep) fun r0 =>
 some r0:=by kernel_rfl
theorem strings_LastIndexByte_eq (n:Nat) (s:List UInt8) (c:Int):strings_LastIndexByte (n+1) s c =
 obind (bytealg_LastIndexByteString n s c) fun r0 =>
 some r0:=by kernel_rfl
theorem label_Parse_eq (n:Nat) (s:List UInt8):label_Parse (n+1) s =
 obind (strings_CutPrefix n s ((123:UInt8)::[])) fun r0 =>
 obind (label_Parse_l3 n loopFuel (r0.1,(r0.2,([],())))) fun r1 =>
 selim (fun y2 =>
 tif ((!y2.2.1)) (
 some ([],(4:Int))) (
 tif ((!(y2.1==((125:UInt8)::[])))) (
 some ([],(4:Int))) (
 obind (label_Check n y2.2.2.1) fun r3 =>
 tif ((!(decide (r3=0)))) (
 some ([],(4:Int))) (
 some (y2.2.2.1,(0:Int)))))) (fun z4 =>
 some z4) r1:=by kernel_rfl
theorem label_Parse_l3_eq (n f:Nat) (rest:List UInt8) (ok:Bool) (out:(List (List UInt8×List UInt8))):label_Parse_l3 n (f+1) (rest,ok,out,()) =
 tif (ok) (
 tif ((!(rest==((125:UInt8)::[])))) (
 tif ((decide ((((List.length out):Nat):Int)≤16))) (
 tif ((decide ((0:Int)<(((List.length out):Nat):Int)))) (
 obind (strings_CutPrefix n rest ((44:UInt8)::[])) fun r0 =>
 tif ((!r0.2)) (
 some (.inl (r0.1,(r0.2,(out,()))))) (
 obind (strings_Cut n r0.1 ((61:UInt8)::((34:UInt8)::[]))) fun r1 =>
 obind (label_unquote n r1.2.1) fun r2 =>
 tif ((decide ((((List.length out)+1)*32)≤140737488355328))) (
 tif (r1.2.2) (
 label_Parse_l3 n f (r2.2.1,(r2.2.2,((out++((r1.1,r2.1)::[])),())))) (
 label_Parse_l3 n f (r2.2.1,(false,((out++((r1.1,r2.1)::[])),()))))) (
 none))) (
 obind (strings_Cut n rest ((61:UInt8)::((34:UInt8)::[]))) fun r3 =>
 obind (label_unquote n r3.2.1) fun r4 =>
 tif ((decide ((((List.length out)+1)*32)≤140737488355328))) (
 tif (r3.2.2) (
 label_Parse_l3 n f (r4.2.1,(r4.2.2,((out++((r3.1,r4.1)::[])),())))) (
 label_Parse_l3 n f (r4.2.1,(false,((out++((r3.1,r4.1)::[])),()))))) (
 none))) (
 some (.inl (rest,(ok,(out,())))))) (
 some (.inl (rest,(ok,(out,())))))) (
 some (.inl (rest,(ok,(out,()))))):=by kernel_rfl
theorem text_tail_eq (n:Nat) (s:List UInt8):text_tail (n+2) s =
 obind (strings_Split (n+1) s ((32:UInt8)::[])) fun r0 =>
 tif ((decide ((((List.length r0):Nat):Int)<3))) (
 some (((0:Int),((0:Int),((0:Int),false))),false)) (
 tif ((decide ((4:Int)<(((List.length r0):Nat):Int)))) (
 some (((0:Int),((0:Int),((0:Int),false))),false)) (
 obind (at? r0 (0:Int)) fun r1 =>
 tif ((!(r1==[]))) (
 some (((0:Int),((0:Int),((0:Int),false))),false)) (
 obind (at? r0 (1:Int)) fun r2 =>
 tif ((r2==((115:UInt8)::((116:UInt8)::((97:UInt8)::((108:UInt8)::((101:UInt8)::[]))))))) (
 obind (at? r0 (2:Int)) fun r3 =>
 obind (strconv_ParseInt n r3 (10:Int) (64:Int)) fun r4 =>
 tif ((decide ((((List.length r0):Nat):Int)=4))) (
 obind (at? r0 (3:Int)) fun r5 =>
 obind (strings_CutPrefix (n+1) r5 ((99:UInt8)::[])) fun r6 =>
 tif ((!r4.2)) (
 tif (r6.2) (
 obind (strconv_ParseInt n r6.1 (10:Int) (64:Int)) fun r7 =>
 some ((r4.1,((0:Int),(r7.1,true))),(!r7.2))) (
 some ((r4.1,((0:Int),((0:Int),true))),false))) (
 some ((r4.1,((0:Int),((0:Int),true))),false))) (
 some ((r4.1,((0:Int),((0:Int),true))),(!r4.2)))) (
 obind (strconv_ParseUint n r2 (10:Int) (64:Int)) fun r8 =>
 tif ((!r8.2)) (
 obind (at? r0 (2:Int)) fun r9 =>
 obind (strconv_ParseInt n r9 (10:Int) (64:Int)) fun r10 =>
 tif ((decide ((((List.length r0):Nat):Int)=4))) (
 obind (at? r0 (3:Int)) fun r11 =>
 obind (strings_CutPrefix (n+1) r11 ((99:UInt8)::[])) fun r12 =>
 tif ((!r10.2)) (
 tif (r12.2) (
 obind (strconv_ParseInt n r12.1 (10:Int) (64:Int)) fun r13 =>
 some ((r10.1,(r8.1,(r13.1,false))),(!r13.2))) (
 some ((r10.1,(r8.1,((0:Int),false))),false))) (
 some ((r10.1,(r8.1,((0:Int),false))),false))) (
 some ((r10.1,(r8.1,((0:Int),false))),(!r10.2)))) (
 tif ((decide ((((List.length r0):Nat):Int)=4))) (
 obind (at? r0 (3:Int)) fun r14 =>
 obind (strings_CutPrefix (n+1) r14 ((99:UInt8)::[])) fun r15 =>
 some (((0:Int),(r8.1,((0:Int),false))),false)) (
 some (((0:Int),(r8.1,((0:Int),false))),false))))))):=by kernel_rfl
theorem label_Text_eq (n:Nat) (l:(List (List UInt8×List UInt8))):label_Text (n+1) l =
 obind (label_Check n l) fun r0 =>
 tif ((!(decide (r0=0)))) (
 some ([],r0)) (
 obind (label_Text_l7 n loopFuel ([],((123:Int),(l,((((List.length l):Nat):Int),((0:Int),())))))) fun r1 =>
 selim (fun y2 =>
 obind (strings_Builder_WriteByte n y2.1 (125:Int)) fun r3 =>
 obind (strings_Builder_String n r3.2) fun r4 =>
 some (r4.1,(0:Int))) (fun z5 =>
 some z5) r1):=by kernel_rfl
theorem label_Text_l7_eq (n f:Nat) (b:List UInt8) (ahead:Int) (s14:(List (List UInt8×List UInt8))) (s15:Int) (s16:Int):label_Text_l7 n (f+1) (b,ahead,s14,s15,s16,()) =
 tif ((decide (s16<s15))) (
 obind (at? s14 s16) fun r0 =>
 obind (strings_Builder_WriteByte n b ahead) fun r1 =>
 obind (strings_Builder_WriteString n r1.2 r0.1) fun r2 =>
 obind (strings_Builder_WriteByte n r2.2.2 (61:Int)) fun r3 =>
 obind (label_quote n r3.2 r0.2) fun r4 =>
 label_Text_l7 n f (r4,((44:Int),(s14,(s15,((IntKind.wrap .i64 (s16+1)),())))))) (
 some (.inl (b,()))):=by kernel_rfl
theorem event_Check_eq (n:Nat) (e:TEvent):event_Check (n+1) e =
 tif ((decide (e.1<0))) (
 some (2:Int)) (
 tif ((decide ((35184372088832:Int)≤e.1))) (
 some (2:Int)) (
 tif ((decide (e.2.2.1<0))) (
 some (2:Int)) (
 tif ((decide (e.1<e.2.2.1))) (
 some (2:Int)) (
 tif (e.2.2.2) (
 tif ((!((decide (e.1=e.1))&&((decide (e.2.1=0))&&((decide (e.2.2.1=0))&&(e.2.2.2==true)))))) (
 some (2:Int)) (
 some (0:Int))) (
 some (0:Int)))))):=by kernel_rfl
theorem strconv_AppendUint_eq (n:Nat) (dst:(List Int)) (i:Int) (base:Int):strconv_AppendUint (n+1) dst i base =
 obind (strconv_AppendUint_ n dst i base) fun r0 =>
 some r0:=by kernel_rfl
theorem strconv_AppendInt_eq (n:Nat) (dst:(List Int)) (i:Int) (base:Int):strconv_AppendInt (n+1) dst i base =
 obind (strconv_AppendInt_ n dst i base) fun r0 =>
 some r0:=by kernel_rfl
theorem stringslite_Cut_eq (n:Nat) (s:List UInt8) (sep:List UInt8):stringslite_Cut (n+1) s sep =
 obind (stringslite_Index n s sep) fun r0 =>
 tif ((decide ((0:Int)≤r0))) (
 tif (((decide ((0:Int)≤r0))&&(decide (r0≤(((List.length s):Nat):Int))))) (
 tif ((decide ((0:Int)≤(IntKind.wrap .i64 (r0+(((List.length sep):Nat):Int)))))) (
 tif ((decide ((Int.toNat (IntKind.wrap .i64 (r0+(((List.length sep):Nat):Int))))≤(List.length s)))) (
 some ((List.drop 0 (List.take (Int.toNat r0) s)),((List.drop (Int.toNat (IntKind.wrap .i64 (r0+(((List.length sep):Nat):Int)))) (List.take (List.length s) s)),true))) (
 none)) (
 none)) (
 none)) (
 some (s,([],false))):=by kernel_rfl
theorem bytealg_LastIndexByteString_eq (n:Nat) (s:List UInt8) (c:Int):bytealg_LastIndexByteString (n+1) s c =
 obind (bytealg_LastIndexByteString_l2 n loopFuel (s,(c,((IntKind.wrap .i64 ((((List.length s):Nat):Int)-1)),())))) fun r0 =>
 selim (fun y1 =>
 some ((-1):Int)) (fun z2 =>
 some z2) r0:=by kernel_rfl
theorem bytealg_LastIndexByteString_l2_eq (n f:Nat) (s:List UInt8) (c:Int) (i:Int):bytealg_LastIndexByteString_l2 n (f+1) (s,c,i,()) =
 tif ((decide ((0:Int)≤i))) (
 obind (at? s i) fun r0 =>
 tif ((decide ((((UInt8.toNat r0):Nat):Int)=c))) (
 some (.inr i)) (
 bytealg_LastIndexByteString_l2 n f (s,(c,((IntKind.wrap .i64 (i-1)),()))))) (
 some (.inl ())):=by kernel_rfl
theorem strings_CutPrefix_eq (n:Nat) (s:List UInt8) (prefix_:List UInt8):strings_CutPrefix (n+1) s prefix_ =
 obind (stringslite_CutPrefix n s prefix_) fun r0 =>
 some r0:=by kernel_rfl
theorem label_unquote_eq (n:Nat) (s:List UInt8):label_unquote (n+1) s =
 obind (label_unquote_l3 n loopFuel (s,([],((0:Int),())))) fun r0 =>
 selim (fun y1 =>
 some ([],([],false))) (fun z2 =>
 some z2) r0:=by kernel_rfl
theorem label_unquote_l3_eq (n f:Nat) (s:List UInt8) (b:(List Int)) (i:Int):label_unquote_l3 n (f+1) (s,b,i,()) =
 tif ((decide (i<(((List.length s):Nat):Int)))) (
 obind (at? s i) fun r0 =>
 tif ((decide ((((UInt8.toNat r0):Nat):Int)=34))) (
 tif ((decide ((0:Int)≤(IntKind.wrap .i64 (i+1))))) (
 tif ((decide ((Int.toNat (IntKind.wrap .i64 (i+1)))≤(List.length s)))) (
 some (.inr ((List.map (fun y1=>(UInt8.ofNat (Int.toNat y1))) b),((List.drop (Int.toNat (IntKind.wrap .i64 (i+1))) (List.take (List.length s) s)),true)))) (
 none)) (
 none)) (
 tif ((decide ((((UInt8.toNat r0):Nat):Int)=10))) (
 some (.inr ([],([],false)))) (
 tif ((!(decide ((((UInt8.toNat r0):Nat):Int)=92)))) (
 tif ((decide ((((List.length b)+1)*1)≤140737488355328))) (
 label_unquote_l3 n f (s,((b++((((UInt8.toNat r0):Nat):Int)::[])),((IntKind.wrap .i64 (i+1)),())))) (
 none)) (
 tif ((decide ((IntKind.wrap .i64 (i+1))=(((List.length s):Nat):Int)))) (
 some (.inr ([],([],false)))) (
 obind (at? s (IntKind.wrap .i64 (i+1))) fun r2 =>
 tif ((decide ((((UInt8.toNat r2):Nat):Int)=110))) (
 tif ((decide ((((List.length b)+1)*1)≤140737488355328))) (
 label_unquote_l3 n f (s,((b++((10:Int)::[])),((IntKind.wrap .i64 ((IntKind.wrap .i64 (i+1))+1)),())))) (
 none)) (
 tif ((decide ((((UInt8.toNat r2):Nat):Int)=34))) (
 tif ((decide ((((UInt8.toNat r2):Nat):Int)=34))) (
 obind (at? s (IntKind.wrap .i64 (i+1))) fun r3 =>
 tif ((decide ((((List.length b)+1)*1)≤140737488355328))) (
 label_unquote_l3 n f (s,((b++((((UInt8.toNat r3):Nat):Int)::[])),((IntKind.wrap .i64 ((IntKind.wrap .i64 (i+1))+1)),())))) (
 none)) (
 some (.inr ([],([],false))))) (
 tif ((decide ((((UInt8.toNat r2):Nat):Int)=92))) (
 obind (at? s (IntKind.wrap .i64 (i+1))) fun r4 =>
 tif ((decide ((((List.length b)+1)*1)≤140737488355328))) (
 label_unquote_l3 n f (s,((b++((((UInt8.toNat r4):Nat):Int)::[])),((IntKind.wrap .i64 ((IntKind.wrap .i64 (i+1))+1)),())))) (
 none)) (
 some (.inr ([],([],false))))))))))) (
 some (.inl ())):=by kernel_rfl
theorem label_Check_eq (n:Nat) (l:(List (List UInt8×List UInt8))):label_Check (n+1) l =
 tif ((decide ((((List.length l):Nat):Int)=0))) (
 some (8:Int)) (
 tif ((decide ((16:Int)<(((List.length l):Nat):Int)))) (
 some (8:Int)) (
 obind (label_Check_l5 n loopFuel (l,((256:Int),(l,((((List.length l):Nat):Int),((0:Int),())))))) fun r0 =>
 selim (fun y1 =>
 some (0:Int)) (fun z2 =>
 some z2) r0)):=by kernel_rfl
theorem label_Check_l5_eq (n f:Nat) (l:(List (List UInt8×List UInt8))) (left:Int) (s14:(List (List UInt8×List UInt8))) (s15:Int) (s16:Int):label_Check_l5 n (f+1) (l,left,s14,s15,s16,()) =
 tif ((decide (s16<s15))) (
 obind (at? s14 s16) fun r0 =>
 obind (label_name n r0.1) fun r1 =>
 tif ((!r1)) (
 some (.inr (8:Int))) (
 tif ((decide ((128:Int)<(((List.length r0.2):Nat):Int)))) (
 some (.inr (8:Int))) (
 tif ((decide ((IntKind.wrap .i64 (left-(IntKind.wrap .i64 ((((List.length r0.1):Nat):Int)+(((List.length r0.2):Nat):Int)))))<0))) (
 some (.inr (8:Int))) (
 tif ((decide ((0:Int)<s16))) (
 obind (at? l (IntKind.wrap .i64 (s16-1))) fun r2 =>
 tif ((!(Go.Op.bytesLess r2.1 r0.1))) (
 some (.inr (8:Int))) (
 label_Check_l5 n f (l,((IntKind.wrap .i64 (left-(IntKind.wrap .i64 ((((List.length r0.1):Nat):Int)+(((List.length r0.2):Nat):Int))))),(s14,(s15,((IntKind.wrap .i64 (s16+1)),()))))))) (
 label_Check_l5 n f (l,((IntKind.wrap .i64 (left-(IntKind.wrap .i64 ((((List.length r0.1):Nat):Int)+(((List.length r0.2):Nat):Int))))),(s14,(s15,((IntKind.wrap .i64 (s16+1)),())))))))))) (
 some (.inl ())):=by kernel_rfl
theorem strings_Split_eq (n:Nat) (s:List UInt8) (sep:List UInt8):strings_Split (n+1) s sep =
 obind (strings_genSplit n s sep (0:Int) ((-1):Int)) fun r0 =>
 some r0:=by kernel_rfl
theorem label_quote_eq (n:Nat) (b:List UInt8) (s:List UInt8):label_quote (n+1) b s =
 obind (strings_Builder_WriteByte n b (34:Int)) fun r0 =>
 obind (label_quote_l2 n loopFuel (r0.2,((List.map (fun y1=>(((UInt8.toNat y1):Nat):Int)) s),((((List.length (List.map (fun y2=>(((UInt8.toNat y2):Nat):Int)) s)):Nat):Int),((0:Int),()))))) fun r3 =>
 selim (fun y4 =>
 obind (strings_Builder_WriteByte n y4.1 (34:Int)) fun r5 =>
 some r5.2) (fun z6 =>
 some z6) r3:=by kernel_rfl
theorem label_quote_l2_eq (n f:Nat) (b:List UInt8) (s9:(List Int)) (s10:Int) (s11:Int):label_quote_l2 n (f+1) (b,s9,s10,s11,()) =
 tif ((decide (s11<s10))) (
 obind (at? s9 s11) fun r0 =>
 tif ((decide (r0=10))) (
 obind (strings_Builder_WriteByte n b (92:Int)) fun r1 =>
 obind (strings_Builder_WriteByte n r1.2 (110:Int)) fun r2 =>
 label_quote_l2 n f (r2.2,(s9,(s10,((IntKind.wrap .i64 (s11+1)),()))))) (
 tif ((decide (r0=34))) (
 tif ((decide (r0=34))) (
 obind (strings_Builder_WriteByte n b (92:Int)) fun r3 =>
 obind (strings_Builder_WriteByte n r3.2 r0) fun r4 =>
 label_quote_l2 n f (r4.2,(s9,(s10,((IntKind.wrap .i64 (s11+1)),()))))) (
 obind (strings_Builder_WriteByte n b r0) fun r5 =>
 label_quote_l2 n f (r5.2,(s9,(s10,((IntKind.wrap .i64 (s11+1)),())))))) (
 tif ((decide (r0=92))) (
 obind (strings_Builder_WriteByte n b (92:Int)) fun r6 =>
 obind (strings_Builder_WriteByte n r6.2 r0) fun r7 =>
 label_quote_l2 n f (r7.2,(s9,(s10,((IntKind.wrap .i64 (s11+1)),()))))) (
 obind (strings_Builder_WriteByte n b r0) fun r8 =>
 label_quote_l2 n f (r8.2,(s9,(s10,((IntKind.wrap .i64 (s11+1)),())))))))) (
 some (.inl (b,()))):=by kernel_rfl
theorem strconv_AppendUint__eq (n:Nat) (dst:(List Int)) (i:Int) (base:Int):strconv_AppendUint_ (n+1) dst i base =
 tif ((decide (base=10))) (
 tif ((decide (i<100))) (
 obind (strconv_small n (IntKind.wrap .i64 i)) fun r0 =>
 tif ((decide ((((List.length dst)+(List.length (List.map (fun y2=>(((UInt8.toNat y2):Nat):Int)) r0)))*1)≤140737488355328))) (
 some (dst++(List.map (fun y1=>(((UInt8.toNat y1):Nat):Int)) r0))) (
 none)) (
 obind (strconv_numDigits n i) fun r3 =>
 tif (((decide ((0:Int)≤r3))&&(decide (r3≤24)))) (
 obind (strconv_formatBase10 n ((List.replicate 24 (0:Int)),(0,((Int.toNat r3)-0))) i) fun r4 =>
 tif (((decide ((List.length r4.1)=24))&&((decide (r4.2.1=0))&&true))) (
 tif ((decide ((List.length r4.1)=24))) (
 tif (((decide ((0:Int)≤r3))&&(decide (r3≤24)))) (
 tif ((decide ((((List.length dst)+(List.length (List.take ((Int.toNat r3)-0) (List.drop 0 r4.1))))*1)≤140737488355328))) (
 some (dst++(List.take ((Int.toNat r3)-0) (List.drop 0 r4.1)))) (
 none)) (
 none)) (
 none)) (
 none)) (
 none))) (
 none):=by kernel_rfl
theorem strconv_AppendInt__eq (n:Nat) (dst:(List Int)) (i:Int) (base:Int):strconv_AppendInt_ (n+1) dst i base =
 tif ((decide (i<0))) (
 tif ((decide ((((List.length dst)+1)*1)≤140737488355328))) (
 obind (strconv_AppendUint_ n (dst++((45:Int)::[])) (IntKind.wrap .u64 ((0:Int)-(IntKind.wrap .u64 i))) base) fun r0 =>
 some r0) (
 none)) (
 obind (strconv_AppendUint_ n dst (IntKind.wrap .u64 i) base) fun r1 =>
 some r1):=by kernel_rfl
theorem stringslite_CutPrefix_eq (n:Nat) (s:List UInt8) (prefix_:List UInt8):stringslite_CutPrefix (n+1) s prefix_ =
 obind (stringslite_HasPrefix n s prefix_) fun r0 =>
 tif ((!r0)) (
 some (s,false)) (
 tif ((decide ((0:Int)≤(((List.length prefix_):Nat):Int)))) (
 tif ((decide ((Int.toNat (((List.length prefix_):Nat):Int))≤(List.length s)))) (
 some ((List.drop (Int.toNat (((List.length prefix_):Nat):Int)) (List.take (List.length s) s)),true)) (
 none)) (
 none)):=by kernel_rfl
theorem label_name_eq (n:Nat) (s:List UInt8):label_name (n+1) s =
 tif ((s==[])) (
 some false) (
 tif ((decide ((64:Int)<(((List.length s):Nat):Int)))) (
 some false) (
 obind (at? s (0:Int)) fun r0 =>
 obind (label_digit n (((UInt8.toNat r0):Nat):Int)) fun r1 =>
 tif (r1) (
 some false) (
 obind (sl_ContainsFunc_byte n (List.map (fun y2=>(((UInt8.toNat y2):Nat):Int)) s) (fun y3=>label_name_1 n y3.1)) fun r4 =>
 some (!r4)))):=by kernel_rfl
theorem strings_genSplit_eq (n:Nat) (s:List UInt8) (sep:List UInt8) (sepSave:Int) (n_:Int):strings_genSplit (n+1) s sep sepSave n_ =
 tif ((decide (n_=0))) (
 some []) (
 tif ((sep==[])) (
 obind (strings_explode n s n_) fun r0 =>
 some r0) (
 tif ((decide (n_<0))) (
 obind (strings_Count n s sep) fun r1 =>
 tif (((decide ((0:Int)≤(if (IntKind.wrap .i64 ((((List.length s):Nat):Int)+1))<(IntKind.wrap .i64 (r1+1)) then (IntKind.wrap .i64 ((((List.length s):Nat):Int)+1)) else (IntKind.wrap .i64 (r1+1)))))&&((decide ((if (IntKind.wrap .i64 ((((List.length s):Nat):Int)+1))<(IntKind.wrap .i64 (r1+1)) then (IntKind.wrap .i64 ((((List.length s):Nat):Int)+1)) else (IntKind.wrap .i64 (r1+1)))≤(if (IntKind.wrap .i64 ((((List.length s):Nat):Int)+1))<(IntKind.wrap .i64 (r1+1)) then (IntKind.wrap .i64 ((((List.length s):Nat):Int)+1)) else (IntKind.wrap .i64 (r1+1)))))&&(decide (((if (IntKind.wrap .i64 ((((List.length s):Nat):Int)+1))<(IntKind.wrap .i64 (r1+1)) then (IntKind.wrap .i64 ((((List.length s):Nat):Int)+1)) else (IntKind.wrap .i64 (r1+1)))*16)≤140737488355328))))) (
 obind (strings_genSplit_l11 n loopFuel (s,(sep,(sepSave,((IntKind.wrap .i64 ((if (IntKind.wrap .i64 ((((List.length s):Nat):Int)+1))<(IntKind.wrap .i64 (r1+1)) then (IntKind.wrap .i64 ((((List.length s):Nat):Int)+1)) else (IntKind.wrap .i64 (r1+1)))-1)),((List.replicate (Int.toNat (if (IntKind.wrap .i64 ((((List.length s):Nat):Int)+1))<(IntKind.wrap .i64 (r1+1)) then (IntKind.wrap .i64 ((((List.length s):Nat):Int)+1)) else (IntKind.wrap .i64 (r1+1)))) ([]:List UInt8)),((0:Int),()))))))) fun r2 =>
 selim (fun y3 =>
 obind (at? y3.2.1 y3.2.2.1) fun r4 =>
 obind ((y3.2.1)[(Int.toNat y3.2.2.1)]?) fun r5 =>
 tif (((decide ((0:Int)≤(IntKind.wrap .i64 (y3.2.2.1+1))))&&(decide ((IntKind.wrap .i64 (y3.2.2.1+1))≤(((List.length (List.set y3.2.1 (Int.toNat y3.2.2.1) y3.1)):Nat):Int))))) (
 some (List.take ((Int.toNat (IntKind.wrap .i64 (y3.2.2.1+1)))-0) (List.drop 0 (List.set y3.2.1 (Int.toNat y3.2.2.1) y3.1)))) (
 none)) (fun z6 =>
 some z6) r2) (
 none)) (
 tif (((decide ((0:Int)≤(if (IntKind.wrap .i64 ((((List.length s):Nat):Int)+1))<n_ then (IntKind.wrap .i64 ((((List.length s):Nat):Int)+1)) else n_)))&&((decide ((if (IntKind.wrap .i64 ((((List.length s):Nat):Int)+1))<n_ then (IntKind.wrap .i64 ((((List.length s):Nat):Int)+1)) else n_)≤(if (IntKind.wrap .i64 ((((List.length s):Nat):Int)+1))<n_ then (IntKind.wrap .i64 ((((List.length s):Nat):Int)+1)) else n_)))&&(decide (((if (IntKind.wrap .i64 ((((List.length s):Nat):Int)+1))<n_ then (IntKind.wrap .i64 ((((List.length s):Nat):Int)+1)) else n_)*16)≤140737488355328))))) (
 obind (strings_genSplit_l11 n loopFuel (s,(sep,(sepSave,((IntKind.wrap .i64 ((if (IntKind.wrap .i64 ((((List.length s):Nat):Int)+1))<n_ then (IntKind.wrap .i64 ((((List.length s):Nat):Int)+1)) else n_)-1)),((List.replicate (Int.toNat (if (IntKind.wrap .i64 ((((List.length s):Nat):Int)+1))<n_ then (IntKind.wrap .i64 ((((List.length s):Nat):Int)+1)) else n_)) ([]:List UInt8)),((0:Int),()))))))) fun r7 =>
 selim (fun y8 =>
 obind (at? y8.2.1 y8.2.2.1) fun r9 =>
 obind ((y8.2.1)[(Int.toNat y8.2.2.1)]?) fun r10 =>
 tif (((decide ((0:Int)≤(IntKind.wrap .i64 (y8.2.2.1+1))))&&(decide ((IntKind.wrap .i64 (y8.2.2.1+1))≤(((List.length (List.set y8.2.1 (Int.toNat y8.2.2.1) y8.1)):Nat):Int))))) (
 some (List.take ((Int.toNat (IntKind.wrap .i64 (y8.2.2.1+1)))-0) (List.drop 0 (List.set y8.2.1 (Int.toNat y8.2.2.1) y8.1)))) (
 none)) (fun z11 =>
 some z11) r7) (
 none)))):=by kernel_rfl
theorem strings_genSplit_l11_eq (n f:Nat) (s:List UInt8) (sep:List UInt8) (sepSave:Int) (n_:Int) (a:(List (List UInt8))) (i:Int):strings_genSplit_l11 n (f+1) (s,sep,sepSave,n_,a,i,()) =
 tif ((decide (i<n_))) (
 obind (strings_Index n s sep) fun r0 =>
 tif ((decide (r0<0))) (
 some (.inl (s,(a,(i,()))))) (
 tif (((decide ((0:Int)≤(IntKind.wrap .i64 (r0+sepSave))))&&(decide ((IntKind.wrap .i64 (r0+sepSave))≤(((List.length s):Nat):Int))))) (
 obind (at? a i) fun r1 =>
 obind ((a)[(Int.toNat i)]?) fun r2 =>
 tif ((decide ((0:Int)≤(IntKind.wrap .i64 (r0+(((List.length sep):Nat):Int)))))) (
 tif ((decide ((Int.toNat (IntKind.wrap .i64 (r0+(((List.length sep):Nat):Int))))≤(List.length s)))) (
 strings_genSplit_l11 n f ((List.drop (Int.toNat (IntKind.wrap .i64 (r0+(((List.length sep):Nat):Int)))) (List.take (List.length s) s)),(sep,(sepSave,(n_,((List.set a (Int.toNat i) (List.drop 0 (List.take (Int.toNat (IntKind.wrap .i64 (r0+sepSave))) s))),((IntKind.wrap .i64 (i+1)),()))))))) (
 none)) (
 none)) (
 none))) (
 some (.inl (s,(a,(i,()))))):=by kernel_rfl
theorem strconv_numDigits_eq (n:Nat) (d:Int):strconv_numDigits (n+1) d =
 obind (math_bits_Len64 n d) fun r0 =>
 obind (strconv_log10Pow2 n r0) fun r1 =>
 obind (at? ((1:Int)::((10:Int)::((100:Int)::((1000:Int)::((10000:Int)::((100000:Int)::((1000000:Int)::((10000000:Int)::((100000000:Int)::((1000000000:Int)::((10000000000:Int)::((100000000000:Int)::((1000000000000:Int)::((10000000000000:Int)::((100000000000000:Int)::((1000000000000000:Int)::((10000000000000000:Int)::((100000000000000000:Int)::((1000000000000000000:Int)::((10000000000000000000:Int)::[])))))))))))))))))))) r1) fun r2 =>
 obind (strconv_bool2_int n (decide (r2≤d))) fun r3 =>
 some (IntKind.wrap .i64 (r1+r3)):=by kernel_rfl
theorem strconv_formatBase10_eq (n:Nat) (a:(List Int×(Nat×Nat))) (u:Int):strconv_formatBase10 (n+1) a u =
 obind (strconv_formatBase10_l1 n loopFuel (a,(u,(((a.2.2:Nat):Int),())))) fun r0 =>
 selim (fun y1 =>
 tif ((decide ((4:Int)≤y1.2.2.1))) (
 obind (at? bs_92989263 (IntKind.wrap .u32 ((IntKind.wrap .u32 ((Int.tmod (Int.tmod (IntKind.wrap .u32 y1.2.1) (10000:Int)) (100:Int))*2))+1))) fun r2 =>
 obind (at? bs_92989263 (IntKind.wrap .u32 ((Int.tmod (Int.tmod (IntKind.wrap .u32 y1.2.1) (10000:Int)) (100:Int))*2))) fun r3 =>
 obind (at? (List.take y1.1.2.2 (List.drop y1.1.2.1 y1.1.1)) (IntKind.wrap .i64 (y1.2.2.1-1))) fun r4 =>
 obind ((y1.1.1)[(y1.1.2.1+(Int.toNat (IntKind.wrap .i64 (y1.2.2.1-1))))]?) fun r5 =>
 obind (at? (List.take y1.1.2.2 (List.drop y1.1.2.1 (List.set y1.1.1 (y1.1.2.1+(Int.toNat (IntKind.wrap .i64 (y1.2.2.1-1)))) (((UInt8.toNat r2):Nat):Int)))) (IntKind.wrap .i64 (y1.2.2.1-2))) fun r6 =>
 obind (((List.set y1.1.1 (y1.1.2.1+(Int.toNat (IntKind.wrap .i64 (y1.2.2.1-1)))) (((UInt8.toNat r2):Nat):Int)))[(y1.1.2.1+(Int.toNat (IntKind.wrap .i64 (y1.2.2.1-2))))]?) fun r7 =>
 obind (at? bs_92989263 (IntKind.wrap .u32 ((IntKind.wrap .u32 ((IntKind.wrap .u32 (Int.tdiv (Int.tmod (IntKind.wrap .u32 y1.2.1) (10000:Int)) (100:Int)))*2))+1))) fun r8 =>
 obind (at? bs_92989263 (IntKind.wrap .u32 ((IntKind.wrap .u32 (Int.tdiv (Int.tmod (IntKind.wrap .u32 y1.2.1) (10000:Int)) (100:Int)))*2))) fun r9 =>
 obind (at? (List.take y1.1.2.2 (List.drop y1.1.2.1 (List.set (List.set y1.1.1 (y1.1.2.1+(Int.toNat (IntKind.wrap .i64 (y1.2.2.1-1)))) (((UInt8.toNat r2):Nat):Int)) (y1.1.2.1+(Int.toNat (IntKind.wrap .i64 (y1.2.2.1-2)))) (((UInt8.toNat r3):Nat):Int)))) (IntKind.wrap .i64 (y1.2.2.1-3))) fun r10 =>
 obind (((List.set (List.set y1.1.1 (y1.1.2.1+(Int.toNat (IntKind.wrap .i64 (y1.2.2.1-1)))) (((UInt8.toNat r2):Nat):Int)) (y1.1.2.1+(Int.toNat (IntKind.wrap .i64 (y1.2.2.1-2)))) (((UInt8.toNat r3):Nat):Int)))[(y1.1.2.1+(Int.toNat (IntKind.wrap .i64 (y1.2.2.1-3))))]?) fun r11 =>
 obind (at? (List.take y1.1.2.2 (List.drop y1.1.2.1 (List.set (List.set (List.set y1.1.1 (y1.1.2.1+(Int.toNat (IntKind.wrap .i64 (y1.2.2.1-1)))) (((UInt8.toNat r2):Nat):Int)) (y1.1.2.1+(Int.toNat (IntKind.wrap .i64 (y1.2.2.1-2)))) (((UInt8.toNat r3):Nat):Int)) (y1.1.2.1+(Int.toNat (IntKind.wrap .i64 (y1.2.2.1-3)))) (((UInt8.toNat r8):Nat):Int)))) (IntKind.wrap .i64 (y1.2.2.1-4))) fun r12 =>
 obind (((List.set (List.set (List.set y1.1.1 (y1.1.2.1+(Int.toNat (IntKind.wrap .i64 (y1.2.2.1-1)))) (((UInt8.toNat r2):Nat):Int)) (y1.1.2.1+(Int.toNat (IntKind.wrap .i64 (y1.2.2.1-2)))) (((UInt8.toNat r3):Nat):Int)) (y1.1.2.1+(Int.toNat (IntKind.wrap .i64 (y1.2.2.1-3)))) (((UInt8.toNat r8):Nat):Int)))[(y1.1.2.1+(Int.toNat (IntKind.wrap .i64 (y1.2.2.1-4))))]?) fun r13 =>
 tif ((decide ((2:Int)≤(IntKind.wrap .i64 (y1.2.2.1-4))))) (
 obind (at? bs_92989263 (IntKind.wrap .u32 ((IntKind.wrap .u32 ((Int.tmod (IntKind.wrap .u32 (Int.tdiv (IntKind.wrap .u32 y1.2.1) (10000:Int))) (100:Int))*2))+1))) fun r14 =>
 obind (at? bs_92989263 (IntKind.wrap .u32 ((Int.tmod (IntKind.wrap .u32 (Int.tdiv (IntKind.wrap .u32 y1.2.1) (10000:Int))) (100:Int))*2))) fun r15 =>
 obind (at? (List.take y1.1.2.2 (List.drop y1.1.2.1 (List.set (List.set (List.set (List.set y1.1.1 (y1.1.2.1+(Int.toNat (IntKind.wrap .i64 (y1.2.2.1-1)))) (((UInt8.toNat r2):Nat):Int)) (y1.1.2.1+(Int.toNat (IntKind.wrap .i64 (y1.2.2.1-2)))) (((UInt8.toNat r3):Nat):Int)) (y1.1.2.1+(Int.toNat (IntKind.wrap .i64 (y1.2.2.1-3)))) (((UInt8.toNat r8):Nat):Int)) (y1.1.2.1+(Int.toNat (IntKind.wrap .i64 (y1.2.2.1-4)))) (((UInt8.toNat r9):Nat):Int)))) (IntKind.wrap .i64 ((IntKind.wrap .i64 (y1.2.2.1-4))-1))) fun r16 =>
 obind (((List.set (List.set (List.set (List.set y1.1.1 (y1.1.2.1+(Int.toNat (IntKind.wrap .i64 (y1.2.2.1-1)))) (((UInt8.toNat r2):Nat):Int)) (y1.1.2.1+(Int.toNat (IntKind.wrap .i64 (y1.2.2.1-2)))) (((UInt8.toNat r3):Nat):Int)) (y1.1.2.1+(Int.toNat (IntKind.wrap .i64 (y1.2.2.1-3)))) (((UInt8.toNat r8):Nat):Int)) (y1.1.2.1+(Int.toNat (IntKind.wrap .i64 (y1.2.2.1-4)))) (((UInt8.toNat r9):Nat):Int)))[(y1.1.2.1+(Int.toNat (IntKind.wrap .i64 ((IntKind.wrap .i64 (y1.2.2.1-4))-1))))]?) fun r17 =>
 obind (at? (List.take y1.1.2.2 (List.drop y1.1.2.1 (List.set (List.set (List.set (List.set (List.set y1.1.1 (y1.1.2.1+(Int.toNat (IntKind.wrap .i64 (y1.2.2.1-1)))) (((UInt8.toNat r2):Nat):Int)) (y1.1.2.1+(Int.toNat (IntKind.wrap .i64 (y1.2.2.1-2)))) (((UInt8.toNat r3):Nat):Int)) (y1.1.2.1+(Int.toNat (IntKind.wrap .i64 (y1.2.2.1-3)))) (((UInt8.toNat r8):Nat):Int)) (y1.1.2.1+(Int.toNat (IntKind.wrap .i64 (y1.2.2.1-4)))) (((UInt8.toNat r9):Nat):Int)) (y1.1.2.1+(Int.toNat (IntKind.wrap .i64 ((IntKind.wrap .i64 (y1.2.2.1-4))-1)))) (((UInt8.toNat r14):Nat):Int)))) (IntKind.wrap .i64 ((IntKind.wrap .i64 (y1.2.2.1-4))-2))) fun r18 =>
 obind (((List.set (List.set (List.set (List.set (List.set y1.1.1 (y1.1.2.1+(Int.toNat (IntKind.wrap .i64 (y1.2.2.1-1)))) (((UInt8.toNat r2):Nat):Int)) (y1.1.2.1+(Int.toNat (IntKind.wrap .i64 (y1.2.2.1-2)))) (((UInt8.toNat r3):Nat):Int)) (y1.1.2.1+(Int.toNat (IntKind.wrap .i64 (y1.2.2.1-3)))) (((UInt8.toNat r8):Nat):Int)) (y1.1.2.1+(Int.toNat (IntKind.wrap .i64 (y1.2.2.1-4)))) (((UInt8.toNat r9):Nat):Int)) (y1.1.2.1+(Int.toNat (IntKind.wrap .i64 ((IntKind.wrap .i64 (y1.2.2.1-4))-1)))) (((UInt8.toNat r14):Nat):Int)))[(y1.1.2.1+(Int.toNat (IntKind.wrap .i64 ((IntKind.wrap .i64 (y1.2.2.1-4))-2))))]?) fun r19 =>
 tif ((decide ((0:Int)<(IntKind.wrap .i64 ((IntKind.wrap .i64 (y1.2.2.1-4))-2))))) (
 obind (at? (List.take y1.1.2.2 (List.drop y1.1.2.1 (List.set (List.set (List.set (List.set (List.set (List.set y1.1.1 (y1.1.2.1+(Int.toNat (IntKind.wrap .i64 (y1.2.2.1-1)))) (((UInt8.toNat r2):Nat):Int)) (y1.1.2.1+(Int.toNat (IntKind.wrap .i64 (y1.2.2.1-2)))) (((UInt8.toNat r3):Nat):Int)) (y1.1.2.1+(Int.toNat (IntKind.wrap .i64 (y1.2.2.1-3)))) (((UInt8.toNat r8):Nat):Int)) (y1.1.2.1+(Int.toNat (IntKind.wrap .i64 (y1.2.2.1-4)))) (((UInt8.toNat r9):Nat):Int)) (y1.1.2.1+(Int.toNat (IntKind.wrap .i64 ((IntKind.wrap .i64 (y1.2.2.1-4))-1)))) (((UInt8.toNat r14):Nat):Int)) (y1.1.2.1+(Int.toNat (IntKind.wrap .i64 ((IntKind.wrap .i64 (y1.2.2.1-4))-2)))) (((UInt8.toNat r15):Nat):Int)))) (0:Int)) fun r20 =>
 obind (((List.set (List.set (List.set (List.set (List.set (List.set y1.1.1 (y1.1.2.1+(Int.toNat (IntKind.wrap .i64 (y1.2.2.1-1)))) (((UInt8.toNat r2):Nat):Int)) (y1.1.2.1+(Int.toNat (IntKind.wrap .i64 (y1.2.2.1-2)))) (((UInt8.toNat r3):Nat):Int)) (y1.1.2.1+(Int.toNat (IntKind.wrap .i64 (y1.2.2.1-3)))) (((UInt8.toNat r8):Nat):Int)) (y1.1.2.1+(Int.toNat (IntKind.wrap .i64 (y1.2.2.1-4)))) (((UInt8.toNat r9):Nat):Int)) (y1.1.2.1+(Int.toNat (IntKind.wrap .i64 ((IntKind.wrap .i64 (y1.2.2.1-4))-1)))) (((UInt8.toNat r14):Nat):Int)) (y1.1.2.1+(Int.toNat (IntKind.wrap .i64 ((IntKind.wrap .i64 (y1.2.2.1-4))-2)))) (((UInt8.toNat r15):Nat):Int)))[(y1.1.2.1+0)]?) fun r21 =>
 some ((List.set (List.set (List.set (List.set (List.set (List.set (List.set y1.1.1 (y1.1.2.1+(Int.toNat (IntKind.wrap .i64 (y1.2.2.1-1)))) (((UInt8.toNat r2):Nat):Int)) (y1.1.2.1+(Int.toNat (IntKind.wrap .i64 (y1.2.2.1-2)))) (((UInt8.toNat r3):Nat):Int)) (y1.1.2.1+(Int.toNat (IntKind.wrap .i64 (y1.2.2.1-3)))) (((UInt8.toNat r8):Nat):Int)) (y1.1.2.1+(Int.toNat (IntKind.wrap .i64 (y1.2.2.1-4)))) (((UInt8.toNat r9):Nat):Int)) (y1.1.2.1+(Int.toNat (IntKind.wrap .i64 ((IntKind.wrap .i64 (y1.2.2.1-4))-1)))) (((UInt8.toNat r14):Nat):Int)) (y1.1.2.1+(Int.toNat (IntKind.wrap .i64 ((IntKind.wrap .i64 (y1.2.2.1-4))-2)))) (((UInt8.toNat r15):Nat):Int)) (y1.1.2.1+0) (IntKind.wrap .u8 (IntKind.wrap .u32 ((48:Int)+(IntKind.wrap .u32 (Int.tdiv (IntKind.wrap .u32 (Int.tdiv (IntKind.wrap .u32 y1.2.1) (10000:Int))) (100:Int))))))),y1.1.2)) (
 some ((List.set (List.set (List.set (List.set (List.set (List.set y1.1.1 (y1.1.2.1+(Int.toNat (IntKind.wrap .i64 (y1.2.2.1-1)))) (((UInt8.toNat r2):Nat):Int)) (y1.1.2.1+(Int.toNat (IntKind.wrap .i64 (y1.2.2.1-2)))) (((UInt8.toNat r3):Nat):Int)) (y1.1.2.1+(Int.toNat (IntKind.wrap .i64 (y1.2.2.1-3)))) (((UInt8.toNat r8):Nat):Int)) (y1.1.2.1+(Int.toNat (IntKind.wrap .i64 (y1.2.2.1-4)))) (((UInt8.toNat r9):Nat):Int)) (y1.1.2.1+(Int.toNat (IntKind.wrap .i64 ((IntKind.wrap .i64 (y1.2.2.1-4))-1)))) (((UInt8.toNat r14):Nat):Int)) (y1.1.2.1+(Int.toNat (IntKind.wrap .i64 ((IntKind.wrap .i64 (y1.2.2.1-4))-2)))) (((UInt8.toNat r15):Nat):Int)),y1.1.2))) (
 tif ((decide ((0:Int)<(IntKind.wrap .i64 (y1.2.2.1-4))))) (
 obind (at? (List.take y1.1.2.2 (List.drop y1.1.2.1 (List.set (List.set (List.set (List.set y1.1.1 (y1.1.2.1+(Int.toNat (IntKind.wrap .i64 (y1.2.2.1-1)))) (((UInt8.toNat r2):Nat):Int)) (y1.1.2.1+(Int.toNat (IntKind.wrap .i64 (y1.2.2.1-2)))) (((UInt8.toNat r3):Nat):Int)) (y1.1.2.1+(Int.toNat (IntKind.wrap .i64 (y1.2.2.1-3)))) (((UInt8.toNat r8):Nat):Int)) (y1.1.2.1+(Int.toNat (IntKind.wrap .i64 (y1.2.2.1-4)))) (((UInt8.toNat r9):Nat):Int)))) (0:Int)) fun r22 =>
 obind (((List.set (List.set (List.set (List.set y1.1.1 (y1.1.2.1+(Int.toNat (IntKind.wrap .i64 (y1.2.2.1-1)))) (((UInt8.toNat r2):Nat):Int)) (y1.1.2.1+(Int.toNat (IntKind.wrap .i64 (y1.2.2.1-2)))) (((UInt8.toNat r3):Nat):Int)) (y1.1.2.1+(Int.toNat (IntKind.wrap .i64 (y1.2.2.1-3)))) (((UInt8.toNat r8):Nat):Int)) (y1.1.2.1+(Int.toNat (IntKind.wrap .i64 (y1.2.2.1-4)))) (((UInt8.toNat r9):Nat):Int)))[(y1.1.2.1+0)]?) fun r23 =>
 some ((List.set (List.set (List.set (List.set (List.set y1.1.1 (y1.1.2.1+(Int.toNat (IntKind.wrap .i64 (y1.2.2.1-1)))) (((UInt8.toNat r2):Nat):Int)) (y1.1.2.1+(Int.toNat (IntKind.wrap .i64 (y1.2.2.1-2)))) (((UInt8.toNat r3):Nat):Int)) (y1.1.2.1+(Int.toNat (IntKind.wrap .i64 (y1.2.2.1-3)))) (((UInt8.toNat r8):Nat):Int)) (y1.1.2.1+(Int.toNat (IntKind.wrap .i64 (y1.2.2.1-4)))) (((UInt8.toNat r9):Nat):Int)) (y1.1.2.1+0) (IntKind.wrap .u8 (IntKind.wrap .u32 ((48:Int)+(IntKind.wrap .u32 (Int.tdiv (IntKind.wrap .u32 y1.2.1) (10000:Int))))))),y1.1.2)) (
 some ((List.set (List.set (List.set (List.set y1.1.1 (y1.1.2.1+(Int.toNat (IntKind.wrap .i64 (y1.2.2.1-1)))) (((UInt8.toNat r2):Nat):Int)) (y1.1.2.1+(Int.toNat (IntKind.wrap .i64 (y1.2.2.1-2)))) (((UInt8.toNat r3):Nat):Int)) (y1.1.2.1+(Int.toNat (IntKind.wrap .i64 (y1.2.2.1-3)))) (((UInt8.toNat r8):Nat):Int)) (y1.1.2.1+(Int.toNat (IntKind.wrap .i64 (y1.2.2.1-4)))) (((UInt8.toNat r9):Nat):Int)),y1.1.2)))) (
 tif ((decide ((2:Int)≤y1.2.2.1))) (
 obind (at? bs_92989263 (IntKind.wrap .u32 ((IntKind.wrap .u32 ((Int.tmod (IntKind.wrap .u32 y1.2.1) (100:Int))*2))+1))) fun r24 =>
 obind (at? bs_92989263 (IntKind.wrap .u32 ((Int.tmod (IntKind.wrap .u32 y1.2.1) (100:Int))*2))) fun r25 =>
 obind (at? (List.take y1.1.2.2 (List.drop y1.1.2.1 y1.1.1)) (IntKind.wrap .i64 (y1.2.2.1-1))) fun r26 =>
 obind ((y1.1.1)[(y1.1.2.1+(Int.toNat (IntKind.wrap .i64 (y1.2.2.1-1))))]?) fun r27 =>
 obind (at? (List.take y1.1.2.2 (List.drop y1.1.2.1 (List.set y1.1.1 (y1.1.2.1+(Int.toNat (IntKind.wrap .i64 (y1.2.2.1-1)))) (((UInt8.toNat r24):Nat):Int)))) (IntKind.wrap .i64 (y1.2.2.1-2))) fun r28 =>
 obind (((List.set y1.1.1 (y1.1.2.1+(Int.toNat (IntKind.wrap .i64 (y1.2.2.1-1)))) (((UInt8.toNat r24):Nat):Int)))[(y1.1.2.1+(Int.toNat (IntKind.wrap .i64 (y1.2.2.1-2))))]?) fun r29 =>
 tif ((decide ((0:Int)<(IntKind.wrap .i64 (y1.2.2.1-2))))) (
 obind (at? (List.take y1.1.2.2 (List.drop y1.1.2.1 (List.set (List.set y1.1.1 (y1.1.2.1+(Int.toNat (IntKind.wrap .i64 (y1.2.2.1-1)))) (((UInt8.toNat r24):Nat):Int)) (y1.1.2.1+(Int.toNat (IntKind.wrap .i64 (y1.2.2.1-2)))) (((UInt8.toNat r25):Nat):Int)))) (0:Int)) fun r30 =>
 obind (((List.set (List.set y1.1.1 (y1.1.2.1+(Int.toNat (IntKind.wrap .i64 (y1.2.2.1-1)))) (((UInt8.toNat r24):Nat):Int)) (y1.1.2.1+(Int.toNat (IntKind.wrap .i64 (y1.2.2.1-2)))) (((UInt8.toNat r25):Nat):Int)))[(y1.1.2.1+0)]?) fun r31 =>
 some ((List.set (List.set (List.set y1.1.1 (y1.1.2.1+(Int.toNat (IntKind.wrap .i64 (y1.2.2.1-1)))) (((UInt8.toNat r24):Nat):Int)) (y1.1.2.1+(Int.toNat (IntKind.wrap .i64 (y1.2.2.1-2)))) (((UInt8.toNat r25):Nat):Int)) (y1.1.2.1+0) (IntKind.wrap .u8 (IntKind.wrap .u32 ((48:Int)+(IntKind.wrap .u32 (Int.tdiv (IntKind.wrap .u32 y1.2.1) (100:Int))))))),y1.1.2)) (
 some ((List.set (List.set y1.1.1 (y1.1.2.1+(Int.toNat (IntKind.wrap .i64 (y1.2.2.1-1)))) (((UInt8.toNat r24):Nat):Int)) (y1.1.2.1+(Int.toNat (IntKind.wrap .i64 (y1.2.2.1-2)))) (((UInt8.toNat r25):Nat):Int)),y1.1.2))) (
 tif ((decide ((0:Int)<y1.2.2.1))) (
 obind (at? (List.take y1.1.2.2 (List.drop y1.1.2.1 y1.1.1)) (0:Int)) fun r32 =>
 obind ((y1.1.1)[(y1.1.2.1+0)]?) fun r33 =>
 some ((List.set y1.1.1 (y1.1.2.1+0) (IntKind.wrap .u8 (IntKind.wrap .u32 ((48:Int)+(IntKind.wrap .u32 y1.2.1))))),y1.1.2)) (
 some y1.1)))) (fun z34 =>
 some z34) r0:=by kernel_rfl
theorem strconv_formatBase10_l1_eq (n f:Nat) (a:(List Int×(Nat×Nat))) (u:Int) (nd:Int):strconv_formatBase10_l1 n (f+1) (a,u,nd,()) =
 tif ((decide ((8:Int)≤nd))) (
 obind (at? bs_92989263 (IntKind.wrap .u32 ((IntKind.wrap .u32 ((Int.tmod (Int.tmod (IntKind.wrap .u32 (Int.tmod u (100000000:Int))) (10000:Int)) (100:Int))*2))+1))) fun r0 =>
 obind (at? bs_92989263 (IntKind.wrap .u32 ((Int.tmod (Int.tmod (IntKind.wrap .u32 (Int.tmod u (100000000:Int))) (10000:Int)) (100:Int))*2))) fun r1 =>
 obind (at? (List.take a.2.2 (List.drop a.2.1 a.1)) (IntKind.wrap .i64 (nd-1))) fun r2 =>
 obind ((a.1)[(a.2.1+(Int.toNat (IntKind.wrap .i64 (nd-1))))]?) fun r3 =>
 obind (at? (List.take a.2.2 (List.drop a.2.1 (List.set a.1 (a.2.1+(Int.toNat (IntKind.wrap .i64 (nd-1)))) (((UInt8.toNat r0):Nat):Int)))) (IntKind.wrap .i64 (nd-2))) fun r4 =>
 obind (((List.set a.1 (a.2.1+(Int.toNat (IntKind.wrap .i64 (nd-1)))) (((UInt8.toNat r0):Nat):Int)))[(a.2.1+(Int.toNat (IntKind.wrap .i64 (nd-2))))]?) fun r5 =>
 obind (at? bs_92989263 (IntKind.wrap .u32 ((IntKind.wrap .u32 ((IntKind.wrap .u32 (Int.tdiv (Int.tmod (IntKind.wrap .u32 (Int.tmod u (100000000:Int))) (10000:Int)) (100:Int)))*2))+1))) fun r6 =>
 obind (at? bs_92989263 (IntKind.wrap .u32 ((IntKind.wrap .u32 (Int.tdiv (Int.tmod (IntKind.wrap .u32 (Int.tmod u (100000000:Int))) (10000:Int)) (100:Int)))*2))) fun r7 =>
 obind (at? (List.take a.2.2 (List.drop a.2.1 (List.set (List.set a.1 (a.2.1+(Int.toNat (IntKind.wrap .i64 (nd-1)))) (((UInt8.toNat r0):Nat):Int)) (a.2.1+(Int.toNat (IntKind.wrap .i64 (nd-2)))) (((UInt8.toNat r1):Nat):Int)))) (IntKind.wrap .i64 (nd-3))) fun r8 =>
 obind (((List.set (List.set a.1 (a.2.1+(Int.toNat (IntKind.wrap .i64 (nd-1)))) (((UInt8.toNat r0):Nat):Int)) (a.2.1+(Int.toNat (IntKind.wrap .i64 (nd-2)))) (((UInt8.toNat r1):Nat):Int)))[(a.2.1+(Int.toNat (IntKind.wrap .i64 (nd-3))))]?) fun r9 =>
 obind (at? (List.take a.2.2 (List.drop a.2.1 (List.set (List.set (List.set a.1 (a.2.1+(Int.toNat (IntKind.wrap .i64 (nd-1)))) (((UInt8.toNat r0):Nat):Int)) (a.2.1+(Int.toNat (IntKind.wrap .i64 (nd-2)))) (((UInt8.toNat r1):Nat):Int)) (a.2.1+(Int.toNat (IntKind.wrap .i64 (nd-3)))) (((UInt8.toNat r6):Nat):Int)))) (IntKind.wrap .i64 (nd-4))) fun r10 =>
 obind (((List.set (List.set (List.set a.1 (a.2.1+(Int.toNat (IntKind.wrap .i64 (nd-1)))) (((UInt8.toNat r0):Nat):Int)) (a.2.1+(Int.toNat (IntKind.wrap .i64 (nd-2)))) (((UInt8.toNat r1):Nat):Int)) (a.2.1+(Int.toNat (IntKind.wrap .i64 (nd-3)))) (((UInt8.toNat r6):Nat):Int)))[(a.2.1+(Int.toNat (IntKind.wrap .i64 (nd-4))))]?) fun r11 =>
 obind (at? bs_92989263 (IntKind.wrap .u32 ((IntKind.wrap .u32 ((Int.tmod (IntKind.wrap .u32 (Int.tdiv (IntKind.wrap .u32 (Int.tmod u (100000000:Int))) (10000:Int))) (100:Int))*2))+1))) fun r12 =>
 obind (at? bs_92989263 (IntKind.wrap .u32 ((Int.tmod (IntKind.wrap .u32 (Int.tdiv (IntKind.wrap .u32 (Int.tmod u (100000000:Int))) (10000:Int))) (100:Int))*2))) fun r13 =>
 obind (at? (List.take a.2.2 (List.drop a.2.1 (List.set (List.set (List.set (List.set a.1 (a.2.1+(Int.toNat (IntKind.wrap .i64 (nd-1)))) (((UInt8.toNat r0):Nat):Int)) (a.2.1+(Int.toNat (IntKind.wrap .i64 (nd-2)))) (((UInt8.toNat r1):Nat):Int)) (a.2.1+(Int.toNat (IntKind.wrap .i64 (nd-3)))) (((UInt8.toNat r6):Nat):Int)) (a.2.1+(Int.toNat (IntKind.wrap .i64 (nd-4)))) (((UInt8.toNat r7):Nat):Int)))) (IntKind.wrap .i64 (nd-5))) fun r14 =>
 obind (((List.set (List.set (List.set (List.set a.1 (a.2.1+(Int.toNat (IntKind.wrap .i64 (nd-1)))) (((UInt8.toNat r0):Nat):Int)) (a.2.1+(Int.toNat (IntKind.wrap .i64 (nd-2)))) (((UInt8.toNat r1):Nat):Int)) (a.2.1+(Int.toNat (IntKind.wrap .i64 (nd-3)))) (((UInt8.toNat r6):Nat):Int)) (a.2.1+(Int.toNat (IntKind.wrap .i64 (nd-4)))) (((UInt8.toNat r7):Nat):Int)))[(a.2.1+(Int.toNat (IntKind.wrap .i64 (nd-5))))]?) fun r15 =>
 obind (at? (List.take a.2.2 (List.drop a.2.1 (List.set (List.set (List.set (List.set (List.set a.1 (a.2.1+(Int.toNat (IntKind.wrap .i64 (nd-1)))) (((UInt8.toNat r0):Nat):Int)) (a.2.1+(Int.toNat (IntKind.wrap .i64 (nd-2)))) (((UInt8.toNat r1):Nat):Int)) (a.2.1+(Int.toNat (IntKind.wrap .i64 (nd-3)))) (((UInt8.toNat r6):Nat):Int)) (a.2.1+(Int.toNat (IntKind.wrap .i64 (nd-4)))) (((UInt8.toNat r7):Nat):Int)) (a.2.1+(Int.toNat (IntKind.wrap .i64 (nd-5)))) (((UInt8.toNat r12):Nat):Int)))) (IntKind.wrap .i64 (nd-6))) fun r16 =>
 obind (((List.set (List.set (List.set (List.set (List.set a.1 (a.2.1+(Int.toNat (IntKind.wrap .i64 (nd-1)))) (((UInt8.toNat r0):Nat):Int)) (a.2.1+(Int.toNat (IntKind.wrap .i64 (nd-2)))) (((UInt8.toNat r1):Nat):Int)) (a.2.1+(Int.toNat (IntKind.wrap .i64 (nd-3)))) (((UInt8.toNat r6):Nat):Int)) (a.2.1+(Int.toNat (IntKind.wrap .i64 (nd-4)))) (((UInt8.toNat r7):Nat):Int)) (a.2.1+(Int.toNat (IntKind.wrap .i64 (nd-5)))) (((UInt8.toNat r12):Nat):Int)))[(a.2.1+(Int.toNat (IntKind.wrap .i64 (nd-6))))]?) fun r17 =>
 obind (at? bs_92989263 (IntKind.wrap .u32 ((IntKind.wrap .u32 ((IntKind.wrap .u32 (Int.tdiv (IntKind.wrap .u32 (Int.tdiv (IntKind.wrap .u32 (Int.tmod u (100000000:Int))) (10000:Int))) (100:Int)))*2))+1))) fun r18 =>
 obind (at? bs_92989263 (IntKind.wrap .u32 ((IntKind.wrap .u32 (Int.tdiv (IntKind.wrap .u32 (Int.tdiv (IntKind.wrap .u32 (Int.tmod u (100000000:Int))) (10000:Int))) (100:Int)))*2))) fun r19 =>
 obind (at? (List.take a.2.2 (List.drop a.2.1 (List.set (List.set (List.set (List.set (List.set (List.set a.1 (a.2.1+(Int.toNat (IntKind.wrap .i64 (nd-1)))) (((UInt8.toNat r0):Nat):Int)) (a.2.1+(Int.toNat (IntKind.wrap .i64 (nd-2)))) (((UInt8.toNat r1):Nat):Int)) (a.2.1+(Int.toNat (IntKind.wrap .i64 (nd-3)))) (((UInt8.toNat r6):Nat):Int)) (a.2.1+(Int.toNat (IntKind.wrap .i64 (nd-4)))) (((UInt8.toNat r7):Nat):Int)) (a.2.1+(Int.toNat (IntKind.wrap .i64 (nd-5)))) (((UInt8.toNat r12):Nat):Int)) (a.2.1+(Int.toNat (IntKind.wrap .i64 (nd-6)))) (((UInt8.toNat r13):Nat):Int)))) (IntKind.wrap .i64 (nd-7))) fun r20 =>
 obind (((List.set (List.set (List.set (List.set (List.set (List.set a.1 (a.2.1+(Int.toNat (IntKind.wrap .i64 (nd-1)))) (((UInt8.toNat r0):Nat):Int)) (a.2.1+(Int.toNat (IntKind.wrap .i64 (nd-2)))) (((UInt8.toNat r1):Nat):Int)) (a.2.1+(Int.toNat (IntKind.wrap .i64 (nd-3)))) (((UInt8.toNat r6):Nat):Int)) (a.2.1+(Int.toNat (IntKind.wrap .i64 (nd-4)))) (((UInt8.toNat r7):Nat):Int)) (a.2.1+(Int.toNat (IntKind.wrap .i64 (nd-5)))) (((UInt8.toNat r12):Nat):Int)) (a.2.1+(Int.toNat (IntKind.wrap .i64 (nd-6)))) (((UInt8.toNat r13):Nat):Int)))[(a.2.1+(Int.toNat (IntKind.wrap .i64 (nd-7))))]?) fun r21 =>
 obind (at? (List.take a.2.2 (List.drop a.2.1 (List.set (List.set (List.set (List.set (List.set (List.set (List.set a.1 (a.2.1+(Int.toNat (IntKind.wrap .i64 (nd-1)))) (((UInt8.toNat r0):Nat):Int)) (a.2.1+(Int.toNat (IntKind.wrap .i64 (nd-2)))) (((UInt8.toNat r1):Nat):Int)) (a.2.1+(Int.toNat (IntKind.wrap .i64 (nd-3)))) (((UInt8.toNat r6):Nat):Int)) (a.2.1+(Int.toNat (IntKind.wrap .i64 (nd-4)))) (((UInt8.toNat r7):Nat):Int)) (a.2.1+(Int.toNat (IntKind.wrap .i64 (nd-5)))) (((UInt8.toNat r12):Nat):Int)) (a.2.1+(Int.toNat (IntKind.wrap .i64 (nd-6)))) (((UInt8.toNat r13):Nat):Int)) (a.2.1+(Int.toNat (IntKind.wrap .i64 (nd-7)))) (((UInt8.toNat r18):Nat):Int)))) (IntKind.wrap .i64 (nd-8))) fun r22 =>
 obind (((List.set (List.set (List.set (List.set (List.set (List.set (List.set a.1 (a.2.1+(Int.toNat (IntKind.wrap .i64 (nd-1)))) (((UInt8.toNat r0):Nat):Int)) (a.2.1+(Int.toNat (IntKind.wrap .i64 (nd-2)))) (((UInt8.toNat r1):Nat):Int)) (a.2.1+(Int.toNat (IntKind.wrap .i64 (nd-3)))) (((UInt8.toNat r6):Nat):Int)) (a.2.1+(Int.toNat (IntKind.wrap .i64 (nd-4)))) (((UInt8.toNat r7):Nat):Int)) (a.2.1+(Int.toNat (IntKind.wrap .i64 (nd-5)))) (((UInt8.toNat r12):Nat):Int)) (a.2.1+(Int.toNat (IntKind.wrap .i64 (nd-6)))) (((UInt8.toNat r13):Nat):Int)) (a.2.1+(Int.toNat (IntKind.wrap .i64 (nd-7)))) (((UInt8.toNat r18):Nat):Int)))[(a.2.1+(Int.toNat (IntKind.wrap .i64 (nd-8))))]?) fun r23 =>
 strconv_formatBase10_l1 n f (((List.set (List.set (List.set (List.set (List.set (List.set (List.set (List.set a.1 (a.2.1+(Int.toNat (IntKind.wrap .i64 (nd-1)))) (((UInt8.toNat r0):Nat):Int)) (a.2.1+(Int.toNat (IntKind.wrap .i64 (nd-2)))) (((UInt8.toNat r1):Nat):Int)) (a.2.1+(Int.toNat (IntKind.wrap .i64 (nd-3)))) (((UInt8.toNat r6):Nat):Int)) (a.2.1+(Int.toNat (IntKind.wrap .i64 (nd-4)))) (((UInt8.toNat r7):Nat):Int)) (a.2.1+(Int.toNat (IntKind.wrap .i64 (nd-5)))) (((UInt8.toNat r12):Nat):Int)) (a.2.1+(Int.toNat (IntKind.wrap .i64 (nd-6)))) (((UInt8.toNat r13):Nat):Int)) (a.2.1+(Int.toNat (IntKind.wrap .i64 (nd-7)))) (((UInt8.toNat r18):Nat):Int)) (a.2.1+(Int.toNat (IntKind.wrap .i64 (nd-8)))) (((UInt8.toNat r19):Nat):Int)),a.2),((IntKind.wrap .u64 (Int.tdiv u (100000000:Int))),((IntKind.wrap .i64 (nd-8)),())))) (
 some (.inl (a,(u,(nd,()))))):=by kernel_rfl
theorem stringslite_HasPrefix_eq (n:Nat) (s:List UInt8) (prefix_:List UInt8):stringslite_HasPrefix (n+1) s prefix_ =
 tif ((decide ((((List.length prefix_):Nat):Int)≤(((List.length s):Nat):Int)))) (
 tif (((decide ((0:Int)≤(((List.length prefix_):Nat):Int)))&&(decide ((((List.length prefix_):Nat):Int)≤(((List.length s):Nat):Int))))) (
 some ((List.drop 0 (List.take (Int.toNat (((List.length prefix_):Nat):Int)) s))==prefix_)) (
 none)) (
 some false):=by kernel_rfl
theorem label_digit_eq (n:Nat) (c:Int):label_digit (n+1) c =
 tif ((decide ((48:Int)≤c))) (
 some (decide (c≤57))) (
 some false):=by kernel_rfl
theorem sl_ContainsFunc_byte_eq (n:Nat) (s:(List Int)) (f_:((Int×Unit)→Option Bool)):sl_ContainsFunc_byte (n+1) s f_ =
 obind (sl_IndexFunc_byte n s f_) fun r0 =>
 some (decide ((0:Int)≤r0)):=by kernel_rfl
theorem label_name_1_eq (n:Nat) (c:Int):label_name_1 (n+1) c =
 obind (label_sign n c) fun r0 =>
 some (!r0):=by kernel_rfl
theorem label_sign_eq (n:Nat) (c:Int):label_sign (n+1) c =
 obind (label_digit n c) fun r0 =>
 tif (r0) (
 some true) (
 tif ((decide (c=95))) (
 some true) (
 tif ((decide ((97:Int)≤(orI .u8 c (32:Int))))) (
 some (decide ((orI .u8 c (32:Int))≤122))) (
 some false))):=by kernel_rfl
theorem strings_Index_eq (n:Nat) (s:List UInt8) (substr:List UInt8):strings_Index (n+1) s substr =
 obind (stringslite_Index n s substr) fun r0 =>
 some r0:=by kernel_rfl
theorem strconv_log10Pow2_eq (n:Nat) (x:Int):strconv_log10Pow2 (n+1) x =
 some (shrI .i64 (IntKind.wrap .i64 (x*78913)) (18:Int)):=by kernel_rfl
theorem math_bits_Len64_eq (n:Nat) (x:Int):math_bits_Len64 (n+1) x =
 tif ((decide ((4294967296:Int)≤x))) (
 tif ((decide ((65536:Int)≤(shrI .u64 x (32:Int))))) (
 tif ((decide ((256:Int)≤(shrI .u64 (shrI .u64 x (32:Int)) (16:Int))))) (
 obind (at? bs_2753755 (IntKind.wrap .u8 (shrI .u64 (shrI .u64 (shrI .u64 x (32:Int)) (16:Int)) (8:Int)))) fun r0 =>
 some (IntKind.wrap .i64 ((56:Int)+(IntKind.wrap .i64 (((UInt8.toNat r0):Nat):Int))))) (
 obind (at? bs_2753755 (IntKind.wrap .u8 (shrI .u64 (shrI .u64 x (32:Int)) (16:Int)))) fun r1 =>
 some (IntKind.wrap .i64 ((48:Int)+(IntKind.wrap .i64 (((UInt8.toNat r1):Nat):Int)))))) (
 tif ((decide ((256:Int)≤(shrI .u64 x (32:Int))))) (
 obind (at? bs_2753755 (IntKind.wrap .u8 (shrI .u64 (shrI .u64 x (32:Int)) (8:Int)))) fun r2 =>
 some (IntKind.wrap .i64 ((40:Int)+(IntKind.wrap .i64 (((UInt8.toNat r2):Nat):Int))))) (
 obind (at? bs_2753755 (IntKind.wrap .u8 (shrI .u64 x (32:Int)))) fun r3 =>
 some (IntKind.wrap .i64 ((32:Int)+(IntKind.wrap .i64 (((UInt8.toNat r3):Nat):Int))))))) (
 tif ((decide ((65536:Int)≤x))) (
 tif ((decide ((256:Int)≤(shrI .u64 x (16:Int))))) (
 obind (at? bs_2753755 (IntKind.wrap .u8 (shrI .u64 (shrI .u64 x (16:Int)) (8:Int)))) fun r4 =>
 some (IntKind.wrap .i64 ((24:Int)+(IntKind.wrap .i64 (((UInt8.toNat r4):Nat):Int))))) (
 obind (at? bs_2753755 (IntKind.wrap .u8 (shrI .u64 x (16:Int)))) fun r5 =>
 some (IntKind.wrap .i64 ((16:Int)+(IntKind.wrap .i64 (((UInt8.toNat r5):Nat):Int)))))) (
 tif ((decide ((256:Int)≤x))) (
 obind (at? bs_2753755 (IntKind.wrap .u8 (shrI .u64 x (8:Int)))) fun r6 =>
 some (IntKind.wrap .i64 ((8:Int)+(IntKind.wrap .i64 (((UInt8.toNat r6):Nat):Int))))) (
 obind (at? bs_2753755 (IntKind.wrap .u8 x)) fun r7 =>
 some (IntKind.wrap .i64 ((0:Int)+(IntKind.wrap .i64 (((UInt8.toNat r7):Nat):Int))))))):=by kernel_rfl
theorem strconv_bool2_int_eq (n:Nat) (b:Bool):strconv_bool2_int (n+1) b =
 tif (b) (
 some (1:Int)) (
 some (0:Int)):=by kernel_rfl
theorem sl_IndexFunc_byte_eq (n:Nat) (s:(List Int)) (f_:((Int×Unit)→Option Bool)):sl_IndexFunc_byte (n+1) s f_ =
 obind (sl_IndexFunc_byte_l2 n loopFuel (s,(f_,((((List.length s):Nat):Int),((0:Int),()))))) fun r0 =>
 selim (fun y1 =>
 some ((-1):Int)) (fun z2 =>
 some z2) r0:=by kernel_rfl
theorem sl_IndexFunc_byte_l2_eq (n f:Nat) (s:(List Int)) (f_:((Int×Unit)→Option Bool)) (s7:Int) (s8:Int):sl_IndexFunc_byte_l2 n (f+1) (s,f_,s7,s8,()) =
 tif ((decide (s8<s7))) (
 obind (at? s s8) fun r0 =>
 obind (f_ (r0,())) fun r1 =>
 tif (r1) (
 some (.inr s8)) (
 sl_IndexFunc_byte_l2 n f (s,(f_,(s7,((IntKind.wrap .i64 (s8+1)),())))))) (
 some (.inl ())):=by kernel_rfl
end Go.Proofs.YtgcaeappeolhjaaDoor
