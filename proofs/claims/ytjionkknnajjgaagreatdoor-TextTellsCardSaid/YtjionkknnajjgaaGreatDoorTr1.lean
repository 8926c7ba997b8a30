/- Trees, printed by program. -/
import Derived.Test.YtjionkknnajjgaaGreatDoorTr0
import Derived.KernelRfl
set_option linter.unusedVariables false
namespace Go.Proofs.YtjionkknnajjgaaGreatDoor
open Go.Flat
theorem l34_TextTells_eq (n:Nat) (l:(List TRow)) (line:List UInt8) (all:List UInt8):l34_TextTells (n+1) l line all =
 obind (l34_Small n l) fun r0 =>
 tif ((decide (r0=0))) (
 obind (l34_lives n ) fun r1 =>
 some r1) (
 tif ((decide ((4096:Int)<(((List.length line):Nat):Int)))) (
 obind (l34_lives n ) fun r2 =>
 some r2) (
 tif ((decide ((16384:Int)<(((List.length all):Nat):Int)))) (
 obind (l34_lives n ) fun r3 =>
 some r3) (
 obind (text_All n l) fun r4 =>
 obind (r34_All n l) fun r5 =>
 obind (text_Parse n line) fun r6 =>
 obind (r34_Parse n line) fun r7 =>
 obind (text_Read n all) fun r8 =>
 obind (r34_Read n all) fun r9 =>
 tif ((!(r4.1==r5.1))) (
 some false) (
 tif ((!(decide (r4.2=r5.2)))) (
 some false) (
 obind (r34_Same n r6.1 r7.1) fun r10 =>
 tif ((!r10)) (
 some false) (
 tif ((!(decide (r6.2=r7.2)))) (
 some false) (
 obind (r34_SameList n r8.1 r9.1) fun r11 =>
 tif ((!r11)) (
 some false) (
 tif ((!(decide (r8.2=r9.2)))) (
 some false) (
 obind (l34_TextTells_l12 n loopFuel (l,(l,((((List.length l):Nat):Int),((0:Int),()))))) fun r12 =>
 selim (fun y13 =>
 obind (l34_lives n ) fun r14 =>
 some r14) (fun z15 =>
 some z15) r12))))))))):=by kernel_rfl
theorem l34_TextTells_l12_eq (n f:Nat) (l:(List TRow)) (s99:(List TRow)) (s100:Int) (s101:Int):l34_TextTells_l12 n (f+1) (l,s99,s100,s101,()) =
 tif ((decide (s101<s100))) (
 obind (at? s99 s101) fun r0 =>
 obind (text_Line n r0) fun r1 =>
 obind (r34_Line n r0) fun r2 =>
 tif ((!(r1.1==r2.1))) (
 some (.inr false)) (
 tif ((!(decide (r1.2=r2.2)))) (
 some (.inr false)) (
 obind (at? l (0:Int)) fun r3 =>
 obind (text_Same n r0 r3) fun r4 =>
 obind (at? l (0:Int)) fun r5 =>
 obind (r34_Same n r0 r5) fun r6 =>
 tif ((!(r4==r6))) (
 some (.inr false)) (
 tif ((decide ((60:Int)<s101))) (
 some (.inr false)) (
 l34_TextTells_l12 n f (l,(s99,(s100,((IntKind.wrap .i64 (s101+1)),()))))))))) (
 some (.inl ())):=by kernel_rfl
theorem l34_Small_eq (n:Nat) (l:(List TRow)):l34_Small (n+1) l =
 obind (l34_Small_l2 n loopFuel (l,((((List.length l):Nat):Int),((0:Int),())))) fun r0 =>
 selim (fun y1 =>
 some (1:Int)) (fun z2 =>
 some z2) r0:=by kernel_rfl
theorem l34_Small_l2_eq (n f:Nat) (s5:(List TRow)) (s6:Int) (s7:Int):l34_Small_l2 n (f+1) (s5,s6,s7,()) =
 tif ((decide (s7<s6))) (
 obind (at? s5 s7) fun r0 =>
 tif ((decide (s7=60))) (
 some (.inr (0:Int))) (
 obind (l05_Small n r0.1) fun r1 =>
 tif ((decide (r1=0))) (
 some (.inr (0:Int))) (
 l34_Small_l2 n f (s5,(s6,((IntKind.wrap .i64 (s7+1)),())))))) (
 some (.inl ())):=by kernel_rfl
theorem text_All_eq (n:Nat) (rows:(List TRow)):text_All (n+1) rows =
 obind (text_All_l3 n loopFuel ([],(rows,((((List.length rows):Nat):Int),((0:Int),()))))) fun r0 =>
 selim (fun y1 =>
 obind (strings_Builder_String n y1.1) fun r2 =>
 some (r2.1,(0:Int))) (fun z3 =>
 some z3) r0:=by kernel_rfl
theorem text_All_l3_eq (n f:Nat) (b:List UInt8) (s9:(List TRow)) (s10:Int) (s11:Int):text_All_l3 n (f+1) (b,s9,s10,s11,()) =
 tif ((decide (s11<s10))) (
 obind (at? s9 s11) fun r0 =>
 obind (text_Line n r0) fun r1 =>
 tif ((!(decide (r1.2=0)))) (
 some (.inr ([],r1.2))) (
 obind (strings_Builder_WriteString n b r1.1) fun r2 =>
 obind (strings_Builder_WriteByte n r2.2.2 (10:Int)) fun r3 =>
 text_All_l3 n f (r3.2,(s9,(s10,((IntKind.wrap .i64 (s11+1)),())))))) (
 some (.inl (b,()))):=by kernel_rfl
theorem r34_All_eq (n:Nat) (rows:(List TRow)):r34_All (n+1) rows =
 obind (r34_All_l3 n loopFuel ([],(rows,((((List.length rows):Nat):Int),((0:Int),()))))) fun r0 =>
 selim (fun y1 =>
 some (y1.1,(0:Int))) (fun z2 =>
 some z2) r0:=by kernel_rfl
theorem r34_All_l3_eq (n f:Nat) (out:List UInt8) (s9:(List TRow)) (s10:Int) (s11:Int):r34_All_l3 n (f+1) (out,s9,s10,s11,()) =
 tif ((decide (s11<s10))) (
 obind (at? s9 s11) fun r0 =>
 obind (r34_Line n r0) fun r1 =>
 tif ((!(decide (r1.2=0)))) (
 some (.inr ([],r1.2))) (
 tif ((decide (((List.length r1.1)+1)≤9223372036854775807))) (
 tif ((decide (((List.length out)+(List.length (r1.1++((10:UInt8)::[]))))≤9223372036854775807))) (
 r34_All_l3 n f ((out++(r1.1++((10:UInt8)::[]))),(s9,(s10,((IntKind.wrap .i64 (s11+1)),()))))) (
 none)) (
 none))) (
 some (.inl (out,()))):=by kernel_rfl
theorem text_Parse_eq (n:Nat) (line:List UInt8):text_Parse (n+1) line =
 obind (strings_LastIndexByte n line (125:Int)) fun r0 =>
 tif (((decide ((0:Int)≤(IntKind.wrap .i64 (r0+1))))&&(decide ((IntKind.wrap .i64 (r0+1))≤(((List.length line):Nat):Int))))) (
 obind (label_Parse n (List.drop 0 (List.take (Int.toNat (IntKind.wrap .i64 (r0+1))) line))) fun r1 =>
 tif ((decide ((0:Int)≤(IntKind.wrap .i64 (r0+1))))) (
 tif ((decide ((Int.toNat (IntKind.wrap .i64 (r0+1)))≤(List.length line)))) (
 obind (text_tail n (List.drop (Int.toNat (IntKind.wrap .i64 (r0+1))) (List.take (List.length line) line))) fun r2 =>
 tif ((!(decide (r1.2=0)))) (
 some (([],((0:Int),((0:Int),((0:Int),false)))),(4:Int))) (
 tif ((!r2.2)) (
 some (([],((0:Int),((0:Int),((0:Int),false)))),(4:Int))) (
 obind (text_Line n (r1.1,r2.1)) fun r3 =>
 tif ((!(decide (r3.2=0)))) (
 some (([],((0:Int),((0:Int),((0:Int),false)))),(4:Int))) (
 tif ((!(r3.1==line))) (
 some (([],((0:Int),((0:Int),((0:Int),false)))),(4:Int))) (
 some ((r1.1,r2.1),(0:Int))))))) (
 none)) (
 none)) (
 none):=by kernel_rfl
theorem r34_Parse_eq (n:Nat) (line:List UInt8):r34_Parse (n+1) line =
 obind (r34_Parse_l2 n loopFuel (line,(([],((0:Int),((0:Int),((0:Int),false)))),((IntKind.wrap .i64 ((((List.length line):Nat):Int)-1)),())))) fun r0 =>
 selim (fun y1 =>
 tif ((decide (y1.2.2.1<0))) (
 some (([],((0:Int),((0:Int),((0:Int),false)))),(4:Int))) (
 tif (((decide ((0:Int)≤(IntKind.wrap .i64 (y1.2.2.1+1))))&&(decide ((IntKind.wrap .i64 (y1.2.2.1+1))≤(((List.length y1.1):Nat):Int))))) (
 obind (r05_Parse n (List.drop 0 (List.take (Int.toNat (IntKind.wrap .i64 (y1.2.2.1+1))) y1.1))) fun r2 =>
 tif ((decide ((0:Int)≤(IntKind.wrap .i64 (y1.2.2.1+1))))) (
 tif ((decide ((Int.toNat (IntKind.wrap .i64 (y1.2.2.1+1)))≤(List.length y1.1)))) (
 obind (r34_words n (List.drop (Int.toNat (IntKind.wrap .i64 (y1.2.2.1+1))) (List.take (List.length y1.1) y1.1))) fun r3 =>
 tif ((!(decide (r2.2=0)))) (
 some (([],((0:Int),((0:Int),((0:Int),false)))),(4:Int))) (
 tif ((decide ((((List.length r3):Nat):Int)<3))) (
 some (([],((0:Int),((0:Int),((0:Int),false)))),(4:Int))) (
 obind (at? r3 (1:Int)) fun r4 =>
 obind (r34_value n r4) fun r5 =>
 obind (at? r3 (2:Int)) fun r6 =>
 obind (r34_value n r6) fun r7 =>
 obind (at? r3 (1:Int)) fun r8 =>
 tif ((r8==((115:UInt8)::((116:UInt8)::((97:UInt8)::((108:UInt8)::((101:UInt8)::[]))))))) (
 tif ((decide ((3:Int)<(((List.length r3):Nat):Int)))) (
 obind (at? r3 (3:Int)) fun r9 =>
 tif ((decide ((0:Int)<(((List.length r9):Nat):Int)))) (
 obind (at? r3 (3:Int)) fun r10 =>
 tif ((decide (1≤(List.length r10)))) (
 obind (r34_value n (List.drop 1 (List.take (List.length r10) r10))) fun r11 =>
 obind (r34_Line n (r2.1,((IntKind.wrap .i64 r7),((0:Int),((IntKind.wrap .i64 r11),true))))) fun r12 =>
 tif ((!(decide (r12.2=0)))) (
 some (([],((0:Int),((0:Int),((0:Int),false)))),(4:Int))) (
 tif ((!(r12.1==y1.1))) (
 some (([],((0:Int),((0:Int),((0:Int),false)))),(4:Int))) (
 some ((r2.1,((IntKind.wrap .i64 r7),((0:Int),((IntKind.wrap .i64 r11),true)))),(0:Int))))) (
 none)) (
 obind (r34_Line n (r2.1,((IntKind.wrap .i64 r7),((0:Int),((0:Int),true))))) fun r13 =>
 tif ((!(decide (r13.2=0)))) (
 some (([],((0:Int),((0:Int),((0:Int),false)))),(4:Int))) (
 tif ((!(r13.1==y1.1))) (
 some (([],((0:Int),((0:Int),((0:Int),false)))),(4:Int))) (
 some ((r2.1,((IntKind.wrap .i64 r7),((0:Int),((0:Int),true)))),(0:Int)))))) (
 obind (r34_Line n (r2.1,((IntKind.wrap .i64 r7),((0:Int),((0:Int),true))))) fun r14 =>
 tif ((!(decide (r14.2=0)))) (
 some (([],((0:Int),((0:Int),((0:Int),false)))),(4:Int))) (
 tif ((!(r14.1==y1.1))) (
 some (([],((0:Int),((0:Int),((0:Int),false)))),(4:Int))) (
 some ((r2.1,((IntKind.wrap .i64 r7),((0:Int),((0:Int),true)))),(0:Int)))))) (
 tif ((decide ((3:Int)<(((List.length r3):Nat):Int)))) (
 obind (at? r3 (3:Int)) fun r15 =>
 tif ((decide ((0:Int)<(((List.length r15):Nat):Int)))) (
 obind (at? r3 (3:Int)) fun r16 =>
 tif ((decide (1≤(List.length r16)))) (
 obind (r34_value n (List.drop 1 (List.take (List.length r16) r16))) fun r17 =>
 obind (r34_Line n (r2.1,((IntKind.wrap .i64 r7),(r5,((IntKind.wrap .i64 r17),false))))) fun r18 =>
 tif ((!(decide (r18.2=0)))) (
 some (([],((0:Int),((0:Int),((0:Int),false)))),(4:Int))) (
 tif ((!(r18.1==y1.1))) (
 some (([],((0:Int),((0:Int),((0:Int),false)))),(4:Int))) (
 some ((r2.1,((IntKind.wrap .i64 r7),(r5,((IntKind.wrap .i64 r17),false)))),(0:Int))))) (
 none)) (
 obind (r34_Line n (r2.1,((IntKind.wrap .i64 r7),(r5,((0:Int),false))))) fun r19 =>
 tif ((!(decide (r19.2=0)))) (
 some (([],((0:Int),((0:Int),((0:Int),false)))),(4:Int))) (
 tif ((!(r19.1==y1.1))) (
 some (([],((0:Int),((0:Int),((0:Int),false)))),(4:Int))) (
 some ((r2.1,((IntKind.wrap .i64 r7),(r5,((0:Int),false)))),(0:Int)))))) (
 obind (r34_Line n (r2.1,((IntKind.wrap .i64 r7),(r5,((0:Int),false))))) fun r20 =>
 tif ((!(decide (r20.2=0)))) (
 some (([],((0:Int),((0:Int),((0:Int),false)))),(4:Int))) (
 tif ((!(r20.1==y1.1))) (
 some (([],((0:Int),((0:Int),((0:Int),false)))),(4:Int))) (
 some ((r2.1,((IntKind.wrap .i64 r7),(r5,((0:Int),false)))),(0:Int))))))))) (
 none)) (
 none)) (
 none))) (fun z21 =>
 some z21) r0:=by kernel_rfl
theorem r34_Parse_l2_eq (n f:Nat) (line:List UInt8) (s2:TRow) (at_:Int):r34_Parse_l2 n (f+1) (line,s2,at_,()) =
 tif ((decide ((0:Int)≤at_))) (
 obind (at? line at_) fun r0 =>
 tif ((!(decide ((((UInt8.toNat r0):Nat):Int)=125)))) (
 r34_Parse_l2 n f (line,(s2,((IntKind.wrap .i64 (at_-1)),())))) (
 some (.inl (line,(s2,(at_,())))))) (
 some (.inl (line,(s2,(at_,()))))):=by kernel_rfl
theorem text_Read_eq (n:Nat) (s:List UInt8):text_Read (n+1) s =
 obind (text_lines n s) fun r0 =>
 obind (text_Read_s5 n r0 ([],((0:Int),()))) fun r1 =>
 some (r1.1,r1.2.1):=by kernel_rfl
theorem text_Read_s5_nil (n:Nat) (x:((List TRow)×(Int×Unit))):text_Read_s5 n [] x=some x:=by kernel_rfl
theorem text_Read_s5_cons (n:Nat) (y:(List UInt8×Unit)) (r:List (List UInt8×Unit)) (out:(List TRow)) (others:Int):text_Read_s5 n (y::r) (out,others,()) =
 obind (obind (text_Parse n y.1) fun r0 =>
 tif ((!(decide (r0.2=0)))) (
 some (out,((IntKind.wrap .i64 (others+1)),()))) (
 tif ((decide ((((List.length out)+1)*56)≤140737488355328))) (
 some ((out++(r0.1::[])),(others,()))) (
 none))) fun r1 =>
 text_Read_s5 n r r1:=by kernel_rfl
theorem r34_Read_eq (n:Nat) (text:List UInt8):r34_Read (n+1) text =
 obind (r34_Read_l4 n loopFuel (text,([],((0:Int),((0:Int),((0:Int),())))))) fun r0 =>
 selim (fun y1 =>
 some (y1.1,y1.2.1)) (fun z2 =>
 some z2) r0:=by kernel_rfl
theorem r34_Read_l4_eq (n f:Nat) (text:List UInt8) (out:(List TRow)) (others:Int) (from_:Int) (i:Int):r34_Read_l4 n (f+1) (text,out,others,from_,i,()) =
 tif ((decide (i≤(((List.length text):Nat):Int)))) (
 tif ((decide (i<(((List.length text):Nat):Int)))) (
 obind (at? text i) fun r0 =>
 tif ((!(decide ((((UInt8.toNat r0):Nat):Int)=10)))) (
 r34_Read_l4 n f (text,(out,(others,(from_,((IntKind.wrap .i64 (i+1)),())))))) (
 tif ((decide ((0:Int)≤from_))) (
 tif (((decide ((((Int.toNat from_):Nat):Int)≤i))&&(decide (i≤(((List.length text):Nat):Int))))) (
 tif (((List.drop (Int.toNat from_) (List.take (Int.toNat i) text))==[])) (
 r34_Read_l4 n f (text,(out,(others,((IntKind.wrap .i64 (i+1)),((IntKind.wrap .i64 (i+1)),())))))) (
 obind (at? (List.drop (Int.toNat from_) (List.take (Int.toNat i) text)) (0:Int)) fun r1 =>
 tif ((decide ((((UInt8.toNat r1):Nat):Int)=35))) (
 r34_Read_l4 n f (text,(out,(others,((IntKind.wrap .i64 (i+1)),((IntKind.wrap .i64 (i+1)),())))))) (
 obind (r34_Parse n (List.drop (Int.toNat from_) (List.take (Int.toNat i) text))) fun r2 =>
 tif ((decide (r2.2=0))) (
 tif ((decide ((((List.length out)+1)*56)≤140737488355328))) (
 r34_Read_l4 n f (text,((out++(r2.1::[])),(others,((IntKind.wrap .i64 (i+1)),((IntKind.wrap .i64 (i+1)),())))))) (
 none)) (
 r34_Read_l4 n f (text,(out,((IntKind.wrap .i64 (others+1)),((IntKind.wrap .i64 (i+1)),((IntKind.wrap .i64 (i+1)),()))))))))) (
 none)) (
 none))) (
 tif ((decide ((0:Int)≤from_))) (
 tif (((decide ((((Int.toNat from_):Nat):Int)≤i))&&(decide (i≤(((List.length text):Nat):Int))))) (
 tif (((List.drop (Int.toNat from_) (List.take (Int.toNat i) text))==[])) (
 r34_Read_l4 n f (text,(out,(others,((IntKind.wrap .i64 (i+1)),((IntKind.wrap .i64 (i+1)),())))))) (
 obind (at? (List.drop (Int.toNat from_) (List.take (Int.toNat i) text)) (0:Int)) fun r3 =>
 tif ((decide ((((UInt8.toNat r3):Nat):Int)=35))) (
 r34_Read_l4 n f (text,(out,(others,((IntKind.wrap .i64 (i+1)),((IntKind.wrap .i64 (i+1)),())))))) (
 obind (r34_Parse n (List.drop (Int.toNat from_) (List.take (Int.toNat i) text))) fun r4 =>
 tif ((decide (r4.2=0))) (
 tif ((decide ((((List.length out)+1)*56)≤140737488355328))) (
 r34_Read_l4 n f (text,((out++(r4.1::[])),(others,((IntKind.wrap .i64 (i+1)),((IntKind.wrap .i64 (i+1)),())))))) (
 none)) (
 r34_Read_l4 n f (text,(out,((IntKind.wrap .i64 (others+1)),((IntKind.wrap .i64 (i+1)),((IntKind.wrap .i64 (i+1)),()))))))))) (
 none)) (
 none))) (
 some (.inl (out,(others,())))):=by kernel_rfl
theorem r34_Same_eq (n:Nat) (a:TRow) (b:TRow):r34_Same (n+1) a b =
 obind (r05_Same n a.1 b.1) fun r0 =>
 tif (r0) (
 some ((decide (a.2.1=b.2.1))&&((decide (a.2.2.1=b.2.2.1))&&((decide (a.2.2.2.1=b.2.2.2.1))&&(a.2.2.2.2==b.2.2.2.2))))) (
 some false):=by kernel_rfl
theorem r34_SameList_eq (n:Nat) (a:(List TRow)) (b:(List TRow)):r34_SameList (n+1) a b =
 tif ((!(decide ((((List.length a):Nat):Int)=(((List.length b):Nat):Int))))) (
 some false) (
 obind (r34_SameList_l4 n loopFuel (a,(b,((((List.length a):Nat):Int),((0:Int),()))))) fun r0 =>
 selim (fun y1 =>
 some true) (fun z2 =>
 some z2) r0):=by kernel_rfl
theorem r34_SameList_l4_eq (n f:Nat) (a:(List TRow)) (b:(List TRow)) (s12:Int) (s13:Int):r34_SameList_l4 n (f+1) (a,b,s12,s13,()) =
 tif ((decide (s13<s12))) (
 obind (at? a s13) fun r0 =>
 obind (at? b s13) fun r1 =>
 obind (r34_Same n r0 r1) fun r2 =>
 tif ((!r2)) (
 some (.inr false)) (
 r34_SameList_l4 n f (a,(b,(s12,((IntKind.wrap .i64 (s13+1)),())))))) (
 some (.inl ())):=by kernel_rfl
theorem text_Line_eq (n:Nat) (r:TRow):text_Line (n+1) r =
 obind (label_Text n r.1) fun r0 =>
 tif ((!(decide (r0.2=0)))) (
 some ([],r0.2)) (
 obind (event_Check n r.2) fun r1 =>
 tif ((!(decide (r1=0)))) (
 some ([],r1)) (
 tif ((decide ((List.length r0.1)≤140737488355328))) (
 tif ((decide ((((List.length (List.map (fun y15=>(((UInt8.toNat y15):Nat):Int)) r0.1))+1)*1)≤140737488355328))) (
 tif (r.2.2.2.2) (
 tif ((decide ((((List.length ((List.map (fun y8=>(((UInt8.toNat y8):Nat):Int)) r0.1)++((32:Int)::[])))+5)*1)≤140737488355328))) (
 tif ((decide ((((List.length (((List.map (fun y7=>(((UInt8.toNat y7):Nat):Int)) r0.1)++((32:Int)::[]))++((115:Int)::((116:Int)::((97:Int)::((108:Int)::((101:Int)::[])))))))+1)*1)≤140737488355328))) (
 obind (strconv_AppendInt n ((((List.map (fun y2=>(((UInt8.toNat y2):Nat):Int)) r0.1)++((32:Int)::[]))++((115:Int)::((116:Int)::((97:Int)::((108:Int)::((101:Int)::[]))))))++((32:Int)::[])) r.2.1 (10:Int)) fun r3 =>
 tif ((decide ((0:Int)<r.2.2.2.1))) (
 tif ((decide ((((List.length r3)+1)*1)≤140737488355328))) (
 tif ((decide ((((List.length (r3++((32:Int)::[])))+1)*1)≤140737488355328))) (
 obind (strconv_AppendInt n ((r3++((32:Int)::[]))++((99:Int)::[])) r.2.2.2.1 (10:Int)) fun r4 =>
 some ((List.map (fun y5=>(UInt8.ofNat (Int.toNat y5))) r4),(0:Int))) (
 none)) (
 none)) (
 some ((List.map (fun y6=>(UInt8.ofNat (Int.toNat y6))) r3),(0:Int)))) (
 none)) (
 none)) (
 obind (strconv_AppendUint n ((List.map (fun y9=>(((UInt8.toNat y9):Nat):Int)) r0.1)++((32:Int)::[])) r.2.2.1 (10:Int)) fun r10 =>
 tif ((decide ((((List.length r10)+1)*1)≤140737488355328))) (
 obind (strconv_AppendInt n (r10++((32:Int)::[])) r.2.1 (10:Int)) fun r11 =>
 tif ((decide ((0:Int)<r.2.2.2.1))) (
 tif ((decide ((((List.length r11)+1)*1)≤140737488355328))) (
 tif ((decide ((((List.length (r11++((32:Int)::[])))+1)*1)≤140737488355328))) (
 obind (strconv_AppendInt n ((r11++((32:Int)::[]))++((99:Int)::[])) r.2.2.2.1 (10:Int)) fun r12 =>
 some ((List.map (fun y13=>(UInt8.ofNat (Int.toNat y13))) r12),(0:Int))) (
 none)) (
 none)) (
 some ((List.map (fun y14=>(UInt8.ofNat (Int.toNat y14))) r11),(0:Int)))) (
 none))) (
 none)) (
 none))):=by kernel_rfl
theorem r34_Line_eq (n:Nat) (r:TRow):r34_Line (n+1) r =
 obind (r05_Text n r.1) fun r0 =>
 tif ((!(decide (r0.2=0)))) (
 some ([],r0.2)) (
 obind (r07_Check n r.2) fun r1 =>
 tif ((!(decide (r1=0)))) (
 some ([],(2:Int))) (
 tif (r.2.2.2.2) (
 tif ((decide (((List.length r0.1)+6)≤9223372036854775807))) (
 obind (r34_num n (IntKind.wrap .u64 r.2.1)) fun r2 =>
 tif ((decide ((1+(List.length r2))≤9223372036854775807))) (
 tif ((decide (((List.length (r0.1++((32:UInt8)::((115:UInt8)::((116:UInt8)::((97:UInt8)::((108:UInt8)::((101:UInt8)::[]))))))))+(List.length (((32:UInt8)::[])++r2)))≤9223372036854775807))) (
 tif ((decide ((0:Int)<r.2.2.2.1))) (
 obind (r34_num n (IntKind.wrap .u64 r.2.2.2.1)) fun r3 =>
 tif ((decide ((2+(List.length r3))≤9223372036854775807))) (
 tif ((decide (((List.length ((r0.1++((32:UInt8)::((115:UInt8)::((116:UInt8)::((97:UInt8)::((108:UInt8)::((101:UInt8)::[])))))))++(((32:UInt8)::[])++r2)))+(List.length (((32:UInt8)::((99:UInt8)::[]))++r3)))≤9223372036854775807))) (
 some ((((r0.1++((32:UInt8)::((115:UInt8)::((116:UInt8)::((97:UInt8)::((108:UInt8)::((101:UInt8)::[])))))))++(((32:UInt8)::[])++r2))++(((32:UInt8)::((99:UInt8)::[]))++r3)),(0:Int))) (
 none)) (
 none)) (
 some (((r0.1++((32:UInt8)::((115:UInt8)::((116:UInt8)::((97:UInt8)::((108:UInt8)::((101:UInt8)::[])))))))++(((32:UInt8)::[])++r2)),(0:Int)))) (
 none)) (
 none)) (
 none)) (
 obind (r34_num n r.2.2.1) fun r4 =>
 tif ((decide ((1+(List.length r4))≤9223372036854775807))) (
 tif ((decide (((List.length r0.1)+(List.length (((32:UInt8)::[])++r4)))≤9223372036854775807))) (
 obind (r34_num n (IntKind.wrap .u64 r.2.1)) fun r5 =>
 tif ((decide ((1+(List.length r5))≤9223372036854775807))) (
 tif ((decide (((List.length (r0.1++(((32:UInt8)::[])++r4)))+(List.length (((32:UInt8)::[])++r5)))≤9223372036854775807))) (
 tif ((decide ((0:Int)<r.2.2.2.1))) (
 obind (r34_num n (IntKind.wrap .u64 r.2.2.2.1)) fun r6 =>
 tif ((decide ((2+(List.length r6))≤9223372036854775807))) (
 tif ((decide (((List.length ((r0.1++(((32:UInt8)::[])++r4))++(((32:UInt8)::[])++r5)))+(List.length (((32:UInt8)::((99:UInt8)::[]))++r6)))≤9223372036854775807))) (
 some ((((r0.1++(((32:UInt8)::[])++r4))++(((32:UInt8)::[])++r5))++(((32:UInt8)::((99:UInt8)::[]))++r6)),(0:Int))) (
 none)) (
 none)) (
 some (((r0.1++(((32:UInt8)::[])++r4))++(((32:UInt8)::[])++r5)),(0:Int)))) (
 none)) (
 none)) (
 none)) (
 none)))):=by kernel_rfl
theorem text_Same_eq (n:Nat) (a:TRow) (b:TRow):text_Same (n+1) a b =
 obind (label_Same n a.1 b.1) fun r0 =>
 tif (r0) (
 some ((decide (a.2.1=b.2.1))&&((decide (a.2.2.1=b.2.2.1))&&((decide (a.2.2.2.1=b.2.2.2.1))&&(a.2.2.2.2==b.2.2.2.2))))) (
 some false):=by kernel_rfl
theorem l05_Small_eq (n:Nat) (l:(List (List UInt8×List UInt8))):l05_Small (n+1) l =
 obind (l05_Small_l2 n loopFuel (l,((((List.length l):Nat):Int),((0:Int),())))) fun r0 =>
 selim (fun y1 =>
 some (1:Int)) (fun z2 =>
 some z2) r0:=by kernel_rfl
theorem l05_Small_l2_eq (n f:Nat) (s5:(List (List UInt8×List UInt8))) (s6:Int) (s7:Int):l05_Small_l2 n (f+1) (s5,s6,s7,()) =
 tif ((decide (s7<s6))) (
 obind (at? s5 s7) fun r0 =>
 tif ((decide (s7=40))) (
 some (.inr (0:Int))) (
 tif ((decide ((1000:Int)<(((List.length r0.1):Nat):Int)))) (
 some (.inr (0:Int))) (
 tif ((decide ((1000:Int)<(((List.length r0.2):Nat):Int)))) (
 some (.inr (0:Int))) (
 l05_Small_l2 n f (s5,(s6,((IntKind.wrap .i64 (s7+1)),()))))))) (
 some (.inl ())):=by kernel_rfl
theorem strings_LastIndexByte_eq (n:Nat) (s:List UInt8) (c:Int):strings_LastIndexByte (n+1) s c =
 obind (bytealg_LastIndexByteString n s c) fun r0 =>
 some r0:=by kernel_rfl
theorem label_Parse_eq (n:Nat) (s:List UInt8):label_Parse (n+1) s =
 obind (strings_CutPrefix n s ((123:UInt8)::[])) fun r0 =>
 obind (label_Parse_l3 n loopFuel (r0.1,(r0.2,([],())))) fun r1 =>
 selim (fun y2 =>
 tif ((!y2.2.1)) (
 some ([],(4:Int))) (
 tif ((!(y2.1==((125:UInt8)::[])))) (
 some ([],(4:Int))) (
 obind (label_Check n y2.2.2.1) fun r3 =>
 tif ((!(decide (r3=0)))) (
 some ([],(4:Int))) (
 some (y2.2.2.1,(0:Int)))))) (fun z4 =>
 some z4) r1:=by kernel_rfl
theorem label_Parse_l3_eq (n f:Nat) (rest:List UInt8) (ok:Bool) (out:(List (List UInt8×List UInt8))):label_Parse_l3 n (f+1) (rest,ok,out,()) =
 tif (ok) (
 tif ((!(rest==((125:UInt8)::[])))) (
 tif ((decide ((((List.length out):Nat):Int)≤16))) (
 tif ((decide ((0:Int)<(((List.length out):Nat):Int)))) (
 obind (strings_CutPrefix n rest ((44:UInt8)::[])) fun r0 =>
 tif ((!r0.2)) (
 some (.inl (r0.1,(r0.2,(out,()))))) (
 obind (strings_Cut n r0.1 ((61:UInt8)::((34:UInt8)::[]))) fun r1 =>
 obind (label_unquote n r1.2.1) fun r2 =>
 tif ((decide ((((List.length out)+1)*32)≤140737488355328))) (
 tif (r1.2.2) (
 label_Parse_l3 n f (r2.2.1,(r2.2.2,((out++((r1.1,r2.1)::[])),())))) (
 label_Parse_l3 n f (r2.2.1,(false,((out++((r1.1,r2.1)::[])),()))))) (
 none))) (
 obind (strings_Cut n rest ((61:UInt8)::((34:UInt8)::[]))) fun r3 =>
 obind (label_unquote n r3.2.1) fun r4 =>
 tif ((decide ((((List.length out)+1)*32)≤140737488355328))) (
 tif (r3.2.2) (
 label_Parse_l3 n f (r4.2.1,(r4.2.2,((out++((r3.1,r4.1)::[])),())))) (
 label_Parse_l3 n f (r4.2.1,(false,((out++((r3.1,r4.1)::[])),()))))) (
 none))) (
 some (.inl (rest,(ok,(out,())))))) (
 some (.inl (rest,(ok,(out,())))))) (
 some (.inl (rest,(ok,(out,()))))):=by kernel_rfl
theorem text_tail_eq (n:Nat) (s:List UInt8):text_tail (n+2) s =
 obind (strings_Split (n+1) s ((32:UInt8)::[])) fun r0 =>
 tif ((decide ((((List.length r0):Nat):Int)<3))) (
 some (((0:Int),((0:Int),((0:Int),false))),false)) (
 tif ((decide ((4:Int)<(((List.length r0):Nat):Int)))) (
 some (((0:Int),((0:Int),((0:Int),false))),false)) (
 obind (at? r0 (0:Int)) fun r1 =>
 tif ((!(r1==[]))) (
 some (((0:Int),((0:Int),((0:Int),false))),false)) (
 obind (at? r0 (1:Int)) fun r2 =>
 tif ((r2==((115:UInt8)::((116:UInt8)::((97:UInt8)::((108:UInt8)::((101:UInt8)::[]))))))) (
 obind (at? r0 (2:Int)) fun r3 =>
 obind (strconv_ParseInt n r3 (10:Int) (64:Int)) fun r4 =>
 tif ((decide ((((List.length r0):Nat):Int)=4))) (
 obind (at? r0 (3:Int)) fun r5 =>
 obind (strings_CutPrefix (n+1) r5 ((99:UInt8)::[])) fun r6 =>
 tif ((!r4.2)) (
 tif (r6.2) (
 obind (strconv_ParseInt n r6.1 (10:Int) (64:Int)) fun r7 =>
 some ((r4.1,((0:Int),(r7.1,true))),(!r7.2))) (
 some ((r4.1,((0:Int),((0:Int),true))),false))) (
 some ((r4.1,((0:Int),((0:Int),true))),false))) (
 some ((r4.1,((0:Int),((0:Int),true))),(!r4.2)))) (
 obind (strconv_ParseUint n r2 (10:Int) (64:Int)) fun r8 =>
 tif ((!r8.2)) (
 obind (at? r0 (2:Int)) fun r9 =>
 obind (strconv_ParseInt n r9 (10:Int) (64:Int)) fun r10 =>
 tif ((decide ((((List.length r0):Nat):Int)=4))) (
 obind (at? r0 (3:Int)) fun r11 =>
 obind (strings_CutPrefix (n+1) r11 ((99:UInt8)::[])) fun r12 =>
 tif ((!r10.2)) (
 tif (r12.2) (
 obind (strconv_ParseInt n r12.1 (10:Int) (64:Int)) fun r13 =>
 some ((r10.1,(r8.1,(r13.1,false))),(!r13.2))) (
 some ((r10.1,(r8.1,((0:Int),false))),false))) (
 some ((r10.1,(r8.1,((0:Int),false))),false))) (
 some ((r10.1,(r8.1,((0:Int),false))),(!r10.2)))) (
 tif ((decide ((((List.length r0):Nat):Int)=4))) (
 obind (at? r0 (3:Int)) fun r14 =>
 obind (strings_CutPrefix (n+1) r14 ((99:UInt8)::[])) fun r15 =>
 some (((0:Int),(r8.1,((0:Int),false))),false)) (
 some (((0:Int),(r8.1,((0:Int),false))),false))))))):=by kernel_rfl
theorem r05_Parse_eq (n:Nat) (s:List UInt8):r05_Parse (n+1) s =
 obind (r05_Parse_l3 n loopFuel (s,([],(s,())))) fun r0 =>
 selim (fun y1 =>
 obind (r05_Text n y1.2.1) fun r2 =>
 tif ((!(decide (r2.2=0)))) (
 some ([],(4:Int))) (
 tif ((!(r2.1==y1.1))) (
 some ([],(4:Int))) (
 some (y1.2.1,(0:Int))))) (fun z3 =>
 some z3) r0:=by kernel_rfl
theorem r05_Parse_l3_eq (n f:Nat) (s:List UInt8) (out:(List (List UInt8×List UInt8))) (rest:List UInt8):r05_Parse_l3 n (f+1) (s,out,rest,()) =
 tif ((decide ((((List.length out):Nat):Int)≤16))) (
 tif ((decide ((1:Int)<(((List.length rest):Nat):Int)))) (
 obind (r05_Parse_l5 n loopFuel (s,(out,(rest,((1:Int),()))))) fun r0 =>
 selim (fun y1 =>
 tif ((decide ((((List.length y1.2.2.1):Nat):Int)<(IntKind.wrap .i64 (y1.2.2.2.1+2))))) (
 some (.inr ([],(4:Int)))) (
 tif ((decide ((0:Int)≤(IntKind.wrap .i64 (y1.2.2.2.1+1))))) (
 tif ((decide ((Int.toNat (IntKind.wrap .i64 (y1.2.2.2.1+1)))≤(List.length y1.2.2.1)))) (
 tif (((List.drop (Int.toNat (IntKind.wrap .i64 (y1.2.2.2.1+1))) (List.take (List.length y1.2.2.1) y1.2.2.1))==[])) (
 some (.inr ([],(4:Int)))) (
 tif ((decide ((0:Int)≤(IntKind.wrap .i64 (y1.2.2.2.1+2))))) (
 tif ((decide ((Int.toNat (IntKind.wrap .i64 (y1.2.2.2.1+2)))≤(List.length y1.2.2.1)))) (
 obind (r05_value n (List.drop (Int.toNat (IntKind.wrap .i64 (y1.2.2.2.1+2))) (List.take (List.length y1.2.2.1) y1.2.2.1))) fun r2 =>
 tif ((decide (r2.2<0))) (
 some (.inr ([],(4:Int)))) (
 tif (((decide ((1:Int)≤y1.2.2.2.1))&&(decide (y1.2.2.2.1≤(((List.length y1.2.2.1):Nat):Int))))) (
 tif ((decide ((((List.length y1.2.1)+1)*32)≤140737488355328))) (
 tif ((decide ((0:Int)≤(IntKind.wrap .i64 ((IntKind.wrap .i64 (y1.2.2.2.1+2))+r2.2))))) (
 tif ((decide ((Int.toNat (IntKind.wrap .i64 ((IntKind.wrap .i64 (y1.2.2.2.1+2))+r2.2)))≤(List.length y1.2.2.1)))) (
 r05_Parse_l3 n f (y1.1,((y1.2.1++(((List.drop 1 (List.take (Int.toNat y1.2.2.2.1) y1.2.2.1)),r2.1)::[])),((List.drop (Int.toNat (IntKind.wrap .i64 ((IntKind.wrap .i64 (y1.2.2.2.1+2))+r2.2))) (List.take (List.length y1.2.2.1) y1.2.2.1)),())))) (
 none)) (
 none)) (
 none)) (
 none))) (
 none)) (
 none))) (
 none)) (
 none))) (fun z3 =>
 some (.inr z3)) r0) (
 some (.inl (s,(out,()))))) (
 some (.inl (s,(out,())))):=by kernel_rfl
theorem r05_Parse_l5_eq (n f:Nat) (s:List UInt8) (out:(List (List UInt8×List UInt8))) (rest:List UInt8) (at_:Int):r05_Parse_l5 n (f+1) (s,out,rest,at_,()) =
 tif ((decide (at_<(((List.length rest):Nat):Int)))) (
 obind (at? rest at_) fun r0 =>
 tif ((!(decide ((((UInt8.toNat r0):Nat):Int)=61)))) (
 r05_Parse_l5 n f (s,(out,(rest,((IntKind.wrap .i64 (at_+1)),()))))) (
 some (.inl (s,(out,(rest,(at_,()))))))) (
 some (.inl (s,(out,(rest,(at_,())))))):=by kernel_rfl
theorem r34_words_eq (n:Nat) (s:List UInt8):r34_words (n+1) s =
 obind (r34_words_l4 n loopFuel (s,([],((0:Int),((0:Int),()))))) fun r0 =>
 selim (fun y1 =>
 some y1.1) (fun z2 =>
 some z2) r0:=by kernel_rfl
theorem r34_words_l4_eq (n f:Nat) (s:List UInt8) (out:(List (List UInt8))) (from_:Int) (i:Int):r34_words_l4 n (f+1) (s,out,from_,i,()) =
 tif ((decide (i≤(((List.length s):Nat):Int)))) (
 tif ((decide (i=(((List.length s):Nat):Int)))) (
 tif ((decide ((0:Int)≤from_))) (
 tif (((decide ((((Int.toNat from_):Nat):Int)≤i))&&(decide (i≤(((List.length s):Nat):Int))))) (
 tif ((decide ((((List.length out)+1)*16)≤140737488355328))) (
 r34_words_l4 n f (s,((out++((List.drop (Int.toNat from_) (List.take (Int.toNat i) s))::[])),((IntKind.wrap .i64 (i+1)),((IntKind.wrap .i64 (i+1)),()))))) (
 none)) (
 none)) (
 none)) (
 obind (at? s i) fun r0 =>
 tif ((decide ((((UInt8.toNat r0):Nat):Int)=32))) (
 tif ((decide ((0:Int)≤from_))) (
 tif (((decide ((((Int.toNat from_):Nat):Int)≤i))&&(decide (i≤(((List.length s):Nat):Int))))) (
 tif ((decide ((((List.length out)+1)*16)≤140737488355328))) (
 r34_words_l4 n f (s,((out++((List.drop (Int.toNat from_) (List.take (Int.toNat i) s))::[])),((IntKind.wrap .i64 (i+1)),((IntKind.wrap .i64 (i+1)),()))))) (
 none)) (
 none)) (
 none)) (
 r34_words_l4 n f (s,(out,(from_,((IntKind.wrap .i64 (i+1)),()))))))) (
 some (.inl (out,()))):=by kernel_rfl
theorem r34_value_eq (n:Nat) (s:List UInt8):r34_value (n+1) s =
 obind (r34_value_l3 n loopFuel (s,((0:Int),((0:Int),())))) fun r0 =>
 selim (fun y1 =>
 some y1.1) (fun z2 =>
 some z2) r0:=by kernel_rfl
theorem r34_value_l3_eq (n f:Nat) (s:List UInt8) (n_:Int) (i:Int):r34_value_l3 n (f+1) (s,n_,i,()) =
 tif ((decide (i<(((List.length s):Nat):Int)))) (
 tif ((decide (i<20))) (
 obind (at? s i) fun r0 =>
 r34_value_l3 n f (s,((IntKind.wrap .u64 ((IntKind.wrap .u64 ((10:Int)*n_))+(IntKind.wrap .u64 (Int.tmod (IntKind.wrap .u8 ((((UInt8.toNat r0):Nat):Int)-48)) (10:Int))))),((IntKind.wrap .i64 (i+1)),())))) (
 some (.inl (n_,())))) (
 some (.inl (n_,()))):=by kernel_rfl
theorem r05_Same_eq (n:Nat) (a:(List (List UInt8×List UInt8))) (b:(List (List UInt8×List UInt8))):r05_Same (n+1) a b =
 tif ((!(decide ((((List.length a):Nat):Int)=(((List.length b):Nat):Int))))) (
 some false) (
 obind (r05_Same_l4 n loopFuel (a,(b,((((List.length a):Nat):Int),((0:Int),()))))) fun r0 =>
 selim (fun y1 =>
 some true) (fun z2 =>
 some z2) r0):=by kernel_rfl
theorem r05_Same_l4_eq (n f:Nat) (a:(List (List UInt8×List UInt8))) (b:(List (List UInt8×List UInt8))) (s12:Int) (s13:Int):r05_Same_l4 n (f+1) (a,b,s12,s13,()) =
 tif ((decide (s13<s12))) (
 obind (at? a s13) fun r0 =>
 obind (at? b s13) fun r1 =>
 tif ((!((r0.1==r1.1)&&(r0.2==r1.2)))) (
 some (.inr false)) (
 r05_Same_l4 n f (a,(b,(s12,((IntKind.wrap .i64 (s13+1)),())))))) (
 some (.inl ())):=by kernel_rfl
theorem label_Text_eq (n:Nat) (l:(List (List UInt8×List UInt8))):label_Text (n+1) l =
 obind (label_Check n l) fun r0 =>
 tif ((!(decide (r0=0)))) (
 some ([],r0)) (
 obind (label_Text_l7 n loopFuel ([],((123:Int),(l,((((List.length l):Nat):Int),((0:Int),())))))) fun r1 =>
 selim (fun y2 =>
 obind (strings_Builder_WriteByte n y2.1 (125:Int)) fun r3 =>
 obind (strings_Builder_String n r3.2) fun r4 =>
 some (r4.1,(0:Int))) (fun z5 =>
 some z5) r1):=by kernel_rfl
theorem label_Text_l7_eq (n f:Nat) (b:List UInt8) (ahead:Int) (s14:(List (List UInt8×List UInt8))) (s15:Int) (s16:Int):label_Text_l7 n (f+1) (b,ahead,s14,s15,s16,()) =
 tif ((decide (s16<s15))) (
 obind (at? s14 s16) fun r0 =>
 obind (strings_Builder_WriteByte n b ahead) fun r1 =>
 obind (strings_Builder_WriteString n r1.2 r0.1) fun r2 =>
 obind (strings_Builder_WriteByte n r2.2.2 (61:Int)) fun r3 =>
 obind (label_quote n r3.2 r0.2) fun r4 =>
 label_Text_l7 n f (r4,((44:Int),(s14,(s15,((IntKind.wrap .i64 (s16+1)),())))))) (
 some (.inl (b,()))):=by kernel_rfl
theorem event_Check_eq (n:Nat) (e:TEvent):event_Check (n+1) e =
 tif ((decide (e.1<0))) (
 some (2:Int)) (
 tif ((decide ((35184372088832:Int)≤e.1))) (
 some (2:Int)) (
 tif ((decide (e.2.2.1<0))) (
 some (2:Int)) (
 tif ((decide (e.1<e.2.2.1))) (
 some (2:Int)) (
 tif (e.2.2.2) (
 tif ((!((decide (e.1=e.1))&&((decide (e.2.1=0))&&((decide (e.2.2.1=0))&&(e.2.2.2==true)))))) (
 some (2:Int)) (
 some (0:Int))) (
 some (0:Int)))))):=by kernel_rfl
theorem strconv_AppendUint_eq (n:Nat) (dst:(List Int)) (i:Int) (base:Int):strconv_AppendUint (n+1) dst i base =
 obind (strconv_AppendUint_ n dst i base) fun r0 =>
 some r0:=by kernel_rfl
theorem strconv_AppendInt_eq (n:Nat) (dst:(List Int)) (i:Int) (base:Int):strconv_AppendInt (n+1) dst i base =
 obind (strconv_AppendInt_ n dst i base) fun r0 =>
 some r0:=by kernel_rfl
theorem r05_Text_eq (n:Nat) (l:(List (List UInt8×List UInt8))):r05_Text (n+1) l =
 obind (r05_Check n l) fun r0 =>
 tif ((!(decide (r0=0)))) (
 some ([],(8:Int))) (
 obind (r05_Text_l5 n loopFuel (((123:UInt8)::[]),(l,((((List.length l):Nat):Int),((0:Int),()))))) fun r1 =>
 selim (fun y2 =>
 tif ((decide (((List.length y2.1)+1)≤9223372036854775807))) (
 some ((y2.1++((125:UInt8)::[])),(0:Int))) (
 none)) (fun z3 =>
 some z3) r1):=by kernel_rfl
theorem r05_Text_l5_eq (n f:Nat) (s:List UInt8) (s10:(List (List UInt8×List UInt8))) (s11:Int) (s12:Int):r05_Text_l5 n (f+1) (s,s10,s11,s12,()) =
 tif ((decide (s12<s11))) (
 obind (at? s10 s12) fun r0 =>
 tif ((decide ((0:Int)<s12))) (
 tif ((decide (((List.length s)+1)≤9223372036854775807))) (
 tif ((decide (((List.length r0.1)+2)≤9223372036854775807))) (
 obind (r05_quote n r0.2) fun r1 =>
 tif ((decide (((List.length (r0.1++((61:UInt8)::((34:UInt8)::[]))))+(List.length r1))≤9223372036854775807))) (
 tif ((decide (((List.length ((r0.1++((61:UInt8)::((34:UInt8)::[])))++r1))+1)≤9223372036854775807))) (
 tif ((decide (((List.length (s++((44:UInt8)::[])))+(List.length (((r0.1++((61:UInt8)::((34:UInt8)::[])))++r1)++((34:UInt8)::[]))))≤9223372036854775807))) (
 r05_Text_l5 n f (((s++((44:UInt8)::[]))++(((r0.1++((61:UInt8)::((34:UInt8)::[])))++r1)++((34:UInt8)::[]))),(s10,(s11,((IntKind.wrap .i64 (s12+1)),()))))) (
 none)) (
 none)) (
 none)) (
 none)) (
 none)) (
 tif ((decide (((List.length r0.1)+2)≤9223372036854775807))) (
 obind (r05_quote n r0.2) fun r2 =>
 tif ((decide (((List.length (r0.1++((61:UInt8)::((34:UInt8)::[]))))+(List.length r2))≤9223372036854775807))) (
 tif ((decide (((List.length ((r0.1++((61:UInt8)::((34:UInt8)::[])))++r2))+1)≤9223372036854775807))) (
 tif ((decide (((List.length s)+(List.length (((r0.1++((61:UInt8)::((34:UInt8)::[])))++r2)++((34:UInt8)::[]))))≤9223372036854775807))) (
 r05_Text_l5 n f ((s++(((r0.1++((61:UInt8)::((34:UInt8)::[])))++r2)++((34:UInt8)::[]))),(s10,(s11,((IntKind.wrap .i64 (s12+1)),()))))) (
 none)) (
 none)) (
 none)) (
 none))) (
 some (.inl (s,()))):=by kernel_rfl
theorem r07_Check_eq (n:Nat) (e:TEvent):r07_Check (n+1) e =
 tif ((decide (e.1<0))) (
 some (2:Int)) (
 tif ((decide ((35184372088832:Int)≤e.1))) (
 some (2:Int)) (
 tif ((decide (e.2.2.1<0))) (
 some (2:Int)) (
 tif ((decide (e.1<e.2.2.1))) (
 some (2:Int)) (
 tif (e.2.2.2) (
 tif ((!(decide (e.2.1=0)))) (
 some (2:Int)) (
 tif ((!(decide (e.2.2.1=0)))) (
 some (2:Int)) (
 some (0:Int)))) (
 some (0:Int)))))):=by kernel_rfl
theorem r34_num_eq (n:Nat) (n_:Int):r34_num (n+1) n_ =
 obind (r01_Text n ((0:Int),n_)) fun r0 =>
 some r0:=by kernel_rfl
theorem label_Same_eq (n:Nat) (a:(List (List UInt8×List UInt8))) (b:(List (List UInt8×List UInt8))):label_Same (n+1) a b =
 obind (sl_Equal_Label n a b) fun r0 =>
 some r0:=by kernel_rfl
theorem bytealg_LastIndexByteString_eq (n:Nat) (s:List UInt8) (c:Int):bytealg_LastIndexByteString (n+1) s c =
 obind (bytealg_LastIndexByteString_l2 n loopFuel (s,(c,((IntKind.wrap .i64 ((((List.length s):Nat):Int)-1)),())))) fun r0 =>
 selim (fun y1 =>
 some ((-1):Int)) (fun z2 =>
 some z2) r0:=by kernel_rfl
theorem bytealg_LastIndexByteString_l2_eq (n f:Nat) (s:List UInt8) (c:Int) (i:Int):bytealg_LastIndexByteString_l2 n (f+1) (s,c,i,()) =
 tif ((decide ((0:Int)≤i))) (
 obind (at? s i) fun r0 =>
 tif ((decide ((((UInt8.toNat r0):Nat):Int)=c))) (
 some (.inr i)) (
 bytealg_LastIndexByteString_l2 n f (s,(c,((IntKind.wrap .i64 (i-1)),()))))) (
 some (.inl ())):=by kernel_rfl
theorem strings_CutPrefix_eq (n:Nat) (s:List UInt8) (prefix_:List UInt8):strings_CutPrefix (n+1) s prefix_ =
 obind (stringslite_CutPrefix n s prefix_) fun r0 =>
 some r0:=by kernel_rfl
theorem strings_Cut_eq (n:Nat) (s:List UInt8) (sep:List UInt8):strings_Cut (n+1) s sep =
 obind (stringslite_Cut n s sep) fun r0 =>
 some r0:=by kernel_rfl
theorem label_unquote_eq (n:Nat) (s:List UInt8):label_unquote (n+1) s =
 obind (label_unquote_l3 n loopFuel (s,([],((0:Int),())))) fun r0 =>
 selim (fun y1 =>
 some ([],([],false))) (fun z2 =>
 some z2) r0:=by kernel_rfl
theorem label_unquote_l3_eq (n f:Nat) (s:List UInt8) (b:(List Int)) (i:Int):label_unquote_l3 n (f+1) (s,b,i,()) =
 tif ((decide (i<(((List.length s):Nat):Int)))) (
 obind (at? s i) fun r0 =>
 tif ((decide ((((UInt8.toNat r0):Nat):Int)=34))) (
 tif ((decide ((0:Int)≤(IntKind.wrap .i64 (i+1))))) (
 tif ((decide ((Int.toNat (IntKind.wrap .i64 (i+1)))≤(List.length s)))) (
 some (.inr ((List.map (fun y1=>(UInt8.ofNat (Int.toNat y1))) b),((List.drop (Int.toNat (IntKind.wrap .i64 (i+1))) (List.take (List.length s) s)),true)))) (
 none)) (
 none)) (
 tif ((decide ((((UInt8.toNat r0):Nat):Int)=10))) (
 some (.inr ([],([],false)))) (
 tif ((!(decide ((((UInt8.toNat r0):Nat):Int)=92)))) (
 tif ((decide ((((List.length b)+1)*1)≤140737488355328))) (
 label_unquote_l3 n f (s,((b++((((UInt8.toNat r0):Nat):Int)::[])),((IntKind.wrap .i64 (i+1)),())))) (
 none)) (
 tif ((decide ((IntKind.wrap .i64 (i+1))=(((List.length s):Nat):Int)))) (
 some (.inr ([],([],false)))) (
 obind (at? s (IntKind.wrap .i64 (i+1))) fun r2 =>
 tif ((decide ((((UInt8.toNat r2):Nat):Int)=110))) (
 tif ((decide ((((List.length b)+1)*1)≤140737488355328))) (
 label_unquote_l3 n f (s,((b++((10:Int)::[])),((IntKind.wrap .i64 ((IntKind.wrap .i64 (i+1))+1)),())))) (
 none)) (
 tif ((decide ((((UInt8.toNat r2):Nat):Int)=34))) (
 tif ((decide ((((UInt8.toNat r2):Nat):Int)=34))) (
 obind (at? s (IntKind.wrap .i64 (i+1))) fun r3 =>
 tif ((decide ((((List.length b)+1)*1)≤140737488355328))) (
 label_unquote_l3 n f (s,((b++((((UInt8.toNat r3):Nat):Int)::[])),((IntKind.wrap .i64 ((IntKind.wrap .i64 (i+1))+1)),())))) (
 none)) (
 some (.inr ([],([],false))))) (
 tif ((decide ((((UInt8.toNat r2):Nat):Int)=92))) (
 obind (at? s (IntKind.wrap .i64 (i+1))) fun r4 =>
 tif ((decide ((((List.length b)+1)*1)≤140737488355328))) (
 label_unquote_l3 n f (s,((b++((((UInt8.toNat r4):Nat):Int)::[])),((IntKind.wrap .i64 ((IntKind.wrap .i64 (i+1))+1)),())))) (
 none)) (
 some (.inr ([],([],false))))))))))) (
 some (.inl ())):=by kernel_rfl
theorem label_Check_eq (n:Nat) (l:(List (List UInt8×List UInt8))):label_Check (n+1) l =
 tif ((decide ((((List.length l):Nat):Int)=0))) (
 some (8:Int)) (
 tif ((decide ((16:Int)<(((List.length l):Nat):Int)))) (
 some (8:Int)) (
 obind (label_Check_l5 n loopFuel (l,((256:Int),(l,((((List.length l):Nat):Int),((0:Int),())))))) fun r0 =>
 selim (fun y1 =>
 some (0:Int)) (fun z2 =>
 some z2) r0)):=by kernel_rfl
theorem label_Check_l5_eq (n f:Nat) (l:(List (List UInt8×List UInt8))) (left:Int) (s14:(List (List UInt8×List UInt8))) (s15:Int) (s16:Int):label_Check_l5 n (f+1) (l,left,s14,s15,s16,()) =
 tif ((decide (s16<s15))) (
 obind (at? s14 s16) fun r0 =>
 obind (label_name n r0.1) fun r1 =>
 tif ((!r1)) (
 some (.inr (8:Int))) (
 tif ((decide ((128:Int)<(((List.length r0.2):Nat):Int)))) (
 some (.inr (8:Int))) (
 tif ((decide ((IntKind.wrap .i64 (left-(IntKind.wrap .i64 ((((List.length r0.1):Nat):Int)+(((List.length r0.2):Nat):Int)))))<0))) (
 some (.inr (8:Int))) (
 tif ((decide ((0:Int)<s16))) (
 obind (at? l (IntKind.wrap .i64 (s16-1))) fun r2 =>
 tif ((!(Go.Op.bytesLess r2.1 r0.1))) (
 some (.inr (8:Int))) (
 label_Check_l5 n f (l,((IntKind.wrap .i64 (left-(IntKind.wrap .i64 ((((List.length r0.1):Nat):Int)+(((List.length r0.2):Nat):Int))))),(s14,(s15,((IntKind.wrap .i64 (s16+1)),()))))))) (
 label_Check_l5 n f (l,((IntKind.wrap .i64 (left-(IntKind.wrap .i64 ((((List.length r0.1):Nat):Int)+(((List.length r0.2):Nat):Int))))),(s14,(s15,((IntKind.wrap .i64 (s16+1)),())))))))))) (
 some (.inl ())):=by kernel_rfl
theorem strings_Split_eq (n:Nat) (s:List UInt8) (sep:List UInt8):strings_Split (n+1) s sep =
 obind (strings_genSplit n s sep (0:Int) ((-1):Int)) fun r0 =>
 some r0:=by kernel_rfl
theorem r05_value_eq (n:Nat) (s:List UInt8):r05_value (n+1) s =
 obind (r05_value_l3 n loopFuel (s,([],((0:Int),())))) fun r0 =>
 selim (fun y1 =>
 some ([],((-1):Int))) (fun z2 =>
 some z2) r0:=by kernel_rfl
theorem r05_value_l3_eq (n f:Nat) (s:List UInt8) (out:List UInt8) (i:Int):r05_value_l3 n (f+1) (s,out,i,()) =
 tif ((decide (i<(((List.length s):Nat):Int)))) (
 obind (at? s i) fun r0 =>
 tif ((decide ((((UInt8.toNat r0):Nat):Int)=34))) (
 some (.inr (out,(IntKind.wrap .i64 (i+1))))) (
 obind (at? s i) fun r1 =>
 tif ((!(decide ((((UInt8.toNat r1):Nat):Int)=92)))) (
 tif ((decide ((0:Int)≤i))) (
 tif (((decide ((((Int.toNat i):Nat):Int)≤(IntKind.wrap .i64 (i+1))))&&(decide ((IntKind.wrap .i64 (i+1))≤(((List.length s):Nat):Int))))) (
 tif ((decide (((List.length out)+(List.length (List.drop (Int.toNat i) (List.take (Int.toNat (IntKind.wrap .i64 (i+1))) s))))≤9223372036854775807))) (
 r05_value_l3 n f (s,((out++(List.drop (Int.toNat i) (List.take (Int.toNat (IntKind.wrap .i64 (i+1))) s))),((IntKind.wrap .i64 (i+1)),())))) (
 none)) (
 none)) (
 none)) (
 tif ((decide ((IntKind.wrap .i64 (i+1))<(((List.length s):Nat):Int)))) (
 obind (at? s (IntKind.wrap .i64 (i+1))) fun r2 =>
 tif ((decide ((((UInt8.toNat r2):Nat):Int)=110))) (
 tif ((decide (((List.length out)+1)≤9223372036854775807))) (
 r05_value_l3 n f (s,((out++((10:UInt8)::[])),((IntKind.wrap .i64 ((IntKind.wrap .i64 (i+1))+1)),())))) (
 none)) (
 tif ((decide ((IntKind.wrap .i64 (i+1))<(((List.length s):Nat):Int)))) (
 tif ((decide ((0:Int)≤(IntKind.wrap .i64 (i+1))))) (
 tif (((decide ((((Int.toNat (IntKind.wrap .i64 (i+1))):Nat):Int)≤(IntKind.wrap .i64 (i+2))))&&(decide ((IntKind.wrap .i64 (i+2))≤(((List.length s):Nat):Int))))) (
 tif ((decide (((List.length out)+(List.length (List.drop (Int.toNat (IntKind.wrap .i64 (i+1))) (List.take (Int.toNat (IntKind.wrap .i64 (i+2))) s))))≤9223372036854775807))) (
 r05_value_l3 n f (s,((out++(List.drop (Int.toNat (IntKind.wrap .i64 (i+1))) (List.take (Int.toNat (IntKind.wrap .i64 (i+2))) s))),((IntKind.wrap .i64 ((IntKind.wrap .i64 (i+1))+1)),())))) (
 none)) (
 none)) (
 none)) (
 some (.inr ([],((-1):Int)))))) (
 tif ((decide ((IntKind.wrap .i64 (i+1))<(((List.length s):Nat):Int)))) (
 tif ((decide ((0:Int)≤(IntKind.wrap .i64 (i+1))))) (
 tif (((decide ((((Int.toNat (IntKind.wrap .i64 (i+1))):Nat):Int)≤(IntKind.wrap .i64 (i+2))))&&(decide ((IntKind.wrap .i64 (i+2))≤(((List.length s):Nat):Int))))) (
 tif ((decide (((List.length out)+(List.length (List.drop (Int.toNat (IntKind.wrap .i64 (i+1))) (List.take (Int.toNat (IntKind.wrap .i64 (i+2))) s))))≤9223372036854775807))) (
 r05_value_l3 n f (s,((out++(List.drop (Int.toNat (IntKind.wrap .i64 (i+1))) (List.take (Int.toNat (IntKind.wrap .i64 (i+2))) s))),((IntKind.wrap .i64 ((IntKind.wrap .i64 (i+1))+1)),())))) (
 none)) (
 none)) (
 none)) (
 some (.inr ([],((-1):Int)))))))) (
 some (.inl ())):=by kernel_rfl
theorem label_quote_eq (n:Nat) (b:List UInt8) (s:List UInt8):label_quote (n+1) b s =
 obind (strings_Builder_WriteByte n b (34:Int)) fun r0 =>
 obind (label_quote_l2 n loopFuel (r0.2,((List.map (fun y1=>(((UInt8.toNat y1):Nat):Int)) s),((((List.length (List.map (fun y2=>(((UInt8.toNat y2):Nat):Int)) s)):Nat):Int),((0:Int),()))))) fun r3 =>
 selim (fun y4 =>
 obind (strings_Builder_WriteByte n y4.1 (34:Int)) fun r5 =>
 some r5.2) (fun z6 =>
 some z6) r3:=by kernel_rfl
theorem label_quote_l2_eq (n f:Nat) (b:List UInt8) (s9:(List Int)) (s10:Int) (s11:Int):label_quote_l2 n (f+1) (b,s9,s10,s11,()) =
 tif ((decide (s11<s10))) (
 obind (at? s9 s11) fun r0 =>
 tif ((decide (r0=10))) (
 obind (strings_Builder_WriteByte n b (92:Int)) fun r1 =>
 obind (strings_Builder_WriteByte n r1.2 (110:Int)) fun r2 =>
 label_quote_l2 n f (r2.2,(s9,(s10,((IntKind.wrap .i64 (s11+1)),()))))) (
 tif ((decide (r0=34))) (
 tif ((decide (r0=34))) (
 obind (strings_Builder_WriteByte n b (92:Int)) fun r3 =>
 obind (strings_Builder_WriteByte n r3.2 r0) fun r4 =>
 label_quote_l2 n f (r4.2,(s9,(s10,((IntKind.wrap .i64 (s11+1)),()))))) (
 obind (strings_Builder_WriteByte n b r0) fun r5 =>
 label_quote_l2 n f (r5.2,(s9,(s10,((IntKind.wrap .i64 (s11+1)),())))))) (
 tif ((decide (r0=92))) (
 obind (strings_Builder_WriteByte n b (92:Int)) fun r6 =>
 obind (strings_Builder_WriteByte n r6.2 r0) fun r7 =>
 label_quote_l2 n f (r7.2,(s9,(s10,((IntKind.wrap .i64 (s11+1)),()))))) (
 obind (strings_Builder_WriteByte n b r0) fun r8 =>
 label_quote_l2 n f (r8.2,(s9,(s10,((IntKind.wrap .i64 (s11+1)),())))))))) (
 some (.inl (b,()))):=by kernel_rfl
theorem strconv_AppendUint__eq (n:Nat) (dst:(List Int)) (i:Int) (base:Int):strconv_AppendUint_ (n+1) dst i base =
 tif ((decide (base=10))) (
 tif ((decide (i<100))) (
 obind (strconv_small n (IntKind.wrap .i64 i)) fun r0 =>
 tif ((decide ((((List.length dst)+(List.length (List.map (fun y2=>(((UInt8.toNat y2):Nat):Int)) r0)))*1)≤140737488355328))) (
 some (dst++(List.map (fun y1=>(((UInt8.toNat y1):Nat):Int)) r0))) (
 none)) (
 obind (strconv_numDigits n i) fun r3 =>
 tif (((decide ((0:Int)≤r3))&&(decide (r3≤24)))) (
 obind (strconv_formatBase10 n ((List.replicate 24 (0:Int)),(0,((Int.toNat r3)-0))) i) fun r4 =>
 tif (((decide ((List.length r4.1)=24))&&((decide (r4.2.1=0))&&true))) (
 tif ((decide ((List.length r4.1)=24))) (
 tif (((decide ((0:Int)≤r3))&&(decide (r3≤24)))) (
 tif ((decide ((((List.length dst)+(List.length (List.take ((Int.toNat r3)-0) (List.drop 0 r4.1))))*1)≤140737488355328))) (
 some (dst++(List.take ((Int.toNat r3)-0) (List.drop 0 r4.1)))) (
 none)) (
 none)) (
 none)) (
 none)) (
 none))) (
 none):=by kernel_rfl
theorem strconv_AppendInt__eq (n:Nat) (dst:(List Int)) (i:Int) (base:Int):strconv_AppendInt_ (n+1) dst i base =
 tif ((decide (i<0))) (
 tif ((decide ((((List.length dst)+1)*1)≤140737488355328))) (
 obind (strconv_AppendUint_ n (dst++((45:Int)::[])) (IntKind.wrap .u64 ((0:Int)-(IntKind.wrap .u64 i))) base) fun r0 =>
 some r0) (
 none)) (
 obind (strconv_AppendUint_ n dst (IntKind.wrap .u64 i) base) fun r1 =>
 some r1):=by kernel_rfl
theorem r05_Check_eq (n:Nat) (l:(List (List UInt8×List UInt8))):r05_Check (n+1) l =
 tif ((decide ((((List.length l):Nat):Int)<1))) (
 some (8:Int)) (
 tif ((decide ((16:Int)<(((List.length l):Nat):Int)))) (
 some (8:Int)) (
 obind (r05_Check_l5 n loopFuel (l,((0:Int),(l,((((List.length l):Nat):Int),((0:Int),())))))) fun r0 =>
 selim (fun y1 =>
 tif ((decide ((256:Int)<y1.1))) (
 some (8:Int)) (
 some (0:Int))) (fun z2 =>
 some z2) r0)):=by kernel_rfl
theorem r05_Check_l5_eq (n f:Nat) (l:(List (List UInt8×List UInt8))) (all:Int) (s14:(List (List UInt8×List UInt8))) (s15:Int) (s16:Int):r05_Check_l5 n (f+1) (l,all,s14,s15,s16,()) =
 tif ((decide (s16<s15))) (
 obind (at? s14 s16) fun r0 =>
 obind (r05_name n r0.1) fun r1 =>
 tif ((!r1)) (
 some (.inr (8:Int))) (
 tif ((decide ((128:Int)<(((List.length r0.2):Nat):Int)))) (
 some (.inr (8:Int))) (
 tif ((decide ((0:Int)<s16))) (
 obind (at? l (IntKind.wrap .i64 (s16-1))) fun r2 =>
 tif ((!(Go.Op.bytesLess r2.1 r0.1))) (
 some (.inr (8:Int))) (
 r05_Check_l5 n f (l,((IntKind.wrap .i64 (all+(IntKind.wrap .i64 ((((List.length r0.1):Nat):Int)+(((List.length r0.2):Nat):Int))))),(s14,(s15,((IntKind.wrap .i64 (s16+1)),()))))))) (
 r05_Check_l5 n f (l,((IntKind.wrap .i64 (all+(IntKind.wrap .i64 ((((List.length r0.1):Nat):Int)+(((List.length r0.2):Nat):Int))))),(s14,(s15,((IntKind.wrap .i64 (s16+1)),()))))))))) (
 some (.inl (all,()))):=by kernel_rfl
theorem r05_quote_eq (n:Nat) (s:List UInt8):r05_quote (n+1) s =
 obind (r05_quote_l3 n loopFuel (s,([],((0:Int),())))) fun r0 =>
 selim (fun y1 =>
 some y1.1) (fun z2 =>
 some z2) r0:=by kernel_rfl
theorem r05_quote_l3_eq (n f:Nat) (s:List UInt8) (out:List UInt8) (i:Int):r05_quote_l3 n (f+1) (s,out,i,()) =
 tif ((decide (i<(((List.length s):Nat):Int)))) (
 obind (at? s i) fun r0 =>
 tif ((decide ((((UInt8.toNat r0):Nat):Int)=34))) (
 tif ((decide ((((UInt8.toNat r0):Nat):Int)=34))) (
 tif ((decide ((0:Int)≤i))) (
 tif (((decide ((((Int.toNat i):Nat):Int)≤(IntKind.wrap .i64 (i+1))))&&(decide ((IntKind.wrap .i64 (i+1))≤(((List.length s):Nat):Int))))) (
 tif ((decide ((1+(List.length (List.drop (Int.toNat i) (List.take (Int.toNat (IntKind.wrap .i64 (i+1))) s))))≤9223372036854775807))) (
 tif ((decide (((List.length out)+(List.length (((92:UInt8)::[])++(List.drop (Int.toNat i) (List.take (Int.toNat (IntKind.wrap .i64 (i+1))) s)))))≤9223372036854775807))) (
 r05_quote_l3 n f (s,((out++(((92:UInt8)::[])++(List.drop (Int.toNat i) (List.take (Int.toNat (IntKind.wrap .i64 (i+1))) s)))),((IntKind.wrap .i64 (i+1)),())))) (
 none)) (
 none)) (
 none)) (
 none)) (
 tif ((decide ((((UInt8.toNat r0):Nat):Int)=10))) (
 tif ((decide (((List.length out)+2)≤9223372036854775807))) (
 r05_quote_l3 n f (s,((out++((92:UInt8)::((110:UInt8)::[]))),((IntKind.wrap .i64 (i+1)),())))) (
 none)) (
 tif ((decide ((0:Int)≤i))) (
 tif (((decide ((((Int.toNat i):Nat):Int)≤(IntKind.wrap .i64 (i+1))))&&(decide ((IntKind.wrap .i64 (i+1))≤(((List.length s):Nat):Int))))) (
 tif ((decide (((List.length out)+(List.length (List.drop (Int.toNat i) (List.take (Int.toNat (IntKind.wrap .i64 (i+1))) s))))≤9223372036854775807))) (
 r05_quote_l3 n f (s,((out++(List.drop (Int.toNat i) (List.take (Int.toNat (IntKind.wrap .i64 (i+1))) s))),((IntKind.wrap .i64 (i+1)),())))) (
 none)) (
 none)) (
 none)))) (
 tif ((decide ((((UInt8.toNat r0):Nat):Int)=92))) (
 tif ((decide ((0:Int)≤i))) (
 tif (((decide ((((Int.toNat i):Nat):Int)≤(IntKind.wrap .i64 (i+1))))&&(decide ((IntKind.wrap .i64 (i+1))≤(((List.length s):Nat):Int))))) (
 tif ((decide ((1+(List.length (List.drop (Int.toNat i) (List.take (Int.toNat (IntKind.wrap .i64 (i+1))) s))))≤9223372036854775807))) (
 tif ((decide (((List.length out)+(List.length (((92:UInt8)::[])++(List.drop (Int.toNat i) (List.take (Int.toNat (IntKind.wrap .i64 (i+1))) s)))))≤9223372036854775807))) (
 r05_quote_l3 n f (s,((out++(((92:UInt8)::[])++(List.drop (Int.toNat i) (List.take (Int.toNat (IntKind.wrap .i64 (i+1))) s)))),((IntKind.wrap .i64 (i+1)),())))) (
 none)) (
 none)) (
 none)) (
 none)) (
 tif ((decide ((((UInt8.toNat r0):Nat):Int)=10))) (
 tif ((decide (((List.length out)+2)≤9223372036854775807))) (
 r05_quote_l3 n f (s,((out++((92:UInt8)::((110:UInt8)::[]))),((IntKind.wrap .i64 (i+1)),())))) (
 none)) (
 tif ((decide ((0:Int)≤i))) (
 tif (((decide ((((Int.toNat i):Nat):Int)≤(IntKind.wrap .i64 (i+1))))&&(decide ((IntKind.wrap .i64 (i+1))≤(((List.length s):Nat):Int))))) (
 tif ((decide (((List.length out)+(List.length (List.drop (Int.toNat i) (List.take (Int.toNat (IntKind.wrap .i64 (i+1))) s))))≤9223372036854775807))) (
 r05_quote_l3 n f (s,((out++(List.drop (Int.toNat i) (List.take (Int.toNat (IntKind.wrap .i64 (i+1))) s))),((IntKind.wrap .i64 (i+1)),())))) (
 none)) (
 none)) (
 none))))) (
 some (.inl (out,()))):=by kernel_rfl
theorem r01_Text_eq (n:Nat) (a:(Int×Int)):r01_Text (n+1) a =
 obind (r01_Div n a (10:Int)) fun r0 =>
 tif (((decide (r0.1.1=0))&&(decide (r0.1.2=0)))) (
 some ((UInt8.ofNat (Int.toNat (IntKind.wrap .u8 (IntKind.wrap .u64 ((48:Int)+r0.2.1)))))::[])) (
 obind (r01_Text n r0.1) fun r1 =>
 tif ((decide (((List.length r1)+1)≤9223372036854775807))) (
 some (r1++((UInt8.ofNat (Int.toNat (IntKind.wrap .u8 (IntKind.wrap .u64 ((48:Int)+r0.2.1)))))::[]))) (
 none)):=by kernel_rfl
theorem sl_Equal_Label_eq (n:Nat) (s1:(List (List UInt8×List UInt8))) (s2:(List (List UInt8×List UInt8))):sl_Equal_Label (n+1) s1 s2 =
 tif ((!(decide ((((List.length s1):Nat):Int)=(((List.length s2):Nat):Int))))) (
 some false) (
 obind (sl_Equal_Label_l4 n loopFuel (s1,(s2,((((List.length s1):Nat):Int),((0:Int),()))))) fun r0 =>
 selim (fun y1 =>
 some true) (fun z2 =>
 some z2) r0):=by kernel_rfl
theorem sl_Equal_Label_l4_eq (n f:Nat) (s1:(List (List UInt8×List UInt8))) (s2:(List (List UInt8×List UInt8))) (s12:Int) (s13:Int):sl_Equal_Label_l4 n (f+1) (s1,s2,s12,s13,()) =
 tif ((decide (s13<s12))) (
 obind (at? s1 s13) fun r0 =>
 obind (at? s2 s13) fun r1 =>
 tif ((!((r0.1==r1.1)&&(r0.2==r1.2)))) (
 some (.inr false)) (
 sl_Equal_Label_l4 n f (s1,(s2,(s12,((IntKind.wrap .i64 (s13+1)),())))))) (
 some (.inl ())):=by kernel_rfl
theorem stringslite_CutPrefix_eq (n:Nat) (s:List UInt8) (prefix_:List UInt8):stringslite_CutPrefix (n+1) s prefix_ =
 obind (stringslite_HasPrefix n s prefix_) fun r0 =>
 tif ((!r0)) (
 some (s,false)) (
 tif ((decide ((0:Int)≤(((List.length prefix_):Nat):Int)))) (
 tif ((decide ((Int.toNat (((List.length prefix_):Nat):Int))≤(List.length s)))) (
 some ((List.drop (Int.toNat (((List.length prefix_):Nat):Int)) (List.take (List.length s) s)),true)) (
 none)) (
 none)):=by kernel_rfl
theorem stringslite_Cut_eq (n:Nat) (s:List UInt8) (sep:List UInt8):stringslite_Cut (n+1) s sep =
 obind (stringslite_Index n s sep) fun r0 =>
 tif ((decide ((0:Int)≤r0))) (
 tif (((decide ((0:Int)≤r0))&&(decide (r0≤(((List.length s):Nat):Int))))) (
 tif ((decide ((0:Int)≤(IntKind.wrap .i64 (r0+(((List.length sep):Nat):Int)))))) (
 tif ((decide ((Int.toNat (IntKind.wrap .i64 (r0+(((List.length sep):Nat):Int))))≤(List.length s)))) (
 some ((List.drop 0 (List.take (Int.toNat r0) s)),((List.drop (Int.toNat (IntKind.wrap .i64 (r0+(((List.length sep):Nat):Int)))) (List.take (List.length s) s)),true))) (
 none)) (
 none)) (
 none)) (
 some (s,([],false))):=by kernel_rfl
theorem label_name_eq (n:Nat) (s:List UInt8):label_name (n+1) s =
 tif ((s==[])) (
 some false) (
 tif ((decide ((64:Int)<(((List.length s):Nat):Int)))) (
 some false) (
 obind (at? s (0:Int)) fun r0 =>
 obind (label_digit n (((UInt8.toNat r0):Nat):Int)) fun r1 =>
 tif (r1) (
 some false) (
 obind (sl_ContainsFunc_byte n (List.map (fun y2=>(((UInt8.toNat y2):Nat):Int)) s) (fun y3=>label_name_1 n y3.1)) fun r4 =>
 some (!r4)))):=by kernel_rfl
theorem strings_genSplit_eq (n:Nat) (s:List UInt8) (sep:List UInt8) (sepSave:Int) (n_:Int):strings_genSplit (n+1) s sep sepSave n_ =
 tif ((decide (n_=0))) (
 some []) (
 tif ((sep==[])) (
 obind (strings_explode n s n_) fun r0 =>
 some r0) (
 tif ((decide (n_<0))) (
 obind (strings_Count n s sep) fun r1 =>
 tif (((decide ((0:Int)≤(if (IntKind.wrap .i64 ((((List.length s):Nat):Int)+1))<(IntKind.wrap .i64 (r1+1)) then (IntKind.wrap .i64 ((((List.length s):Nat):Int)+1)) else (IntKind.wrap .i64 (r1+1)))))&&((decide ((if (IntKind.wrap .i64 ((((List.length s):Nat):Int)+1))<(IntKind.wrap .i64 (r1+1)) then (IntKind.wrap .i64 ((((List.length s):Nat):Int)+1)) else (IntKind.wrap .i64 (r1+1)))≤(if (IntKind.wrap .i64 ((((List.length s):Nat):Int)+1))<(IntKind.wrap .i64 (r1+1)) then (IntKind.wrap .i64 ((((List.length s):Nat):Int)+1)) else (IntKind.wrap .i64 (r1+1)))))&&(decide (((if (IntKind.wrap .i64 ((((List.length s):Nat):Int)+1))<(IntKind.wrap .i64 (r1+1)) then (IntKind.wrap .i64 ((((List.length s):Nat):Int)+1)) else (IntKind.wrap .i64 (r1+1)))*16)≤140737488355328))))) (
 obind (strings_genSplit_l11 n loopFuel (s,(sep,(sepSave,((IntKind.wrap .i64 ((if (IntKind.wrap .i64 ((((List.length s):Nat):Int)+1))<(IntKind.wrap .i64 (r1+1)) then (IntKind.wrap .i64 ((((List.length s):Nat):Int)+1)) else (IntKind.wrap .i64 (r1+1)))-1)),((List.replicate (Int.toNat (if (IntKind.wrap .i64 ((((List.length s):Nat):Int)+1))<(IntKind.wrap .i64 (r1+1)) then (IntKind.wrap .i64 ((((List.length s):Nat):Int)+1)) else (IntKind.wrap .i64 (r1+1)))) ([]:List UInt8)),((0:Int),()))))))) fun r2 =>
 selim (fun y3 =>
 obind (at? y3.2.1 y3.2.2.1) fun r4 =>
 obind ((y3.2.1)[(Int.toNat y3.2.2.1)]?) fun r5 =>
 tif (((decide ((0:Int)≤(IntKind.wrap .i64 (y3.2.2.1+1))))&&(decide ((IntKind.wrap .i64 (y3.2.2.1+1))≤(((List.length (List.set y3.2.1 (Int.toNat y3.2.2.1) y3.1)):Nat):Int))))) (
 some (List.take ((Int.toNat (IntKind.wrap .i64 (y3.2.2.1+1)))-0) (List.drop 0 (List.set y3.2.1 (Int.toNat y3.2.2.1) y3.1)))) (
 none)) (fun z6 =>
 some z6) r2) (
 none)) (
 tif (((decide ((0:Int)≤(if (IntKind.wrap .i64 ((((List.length s):Nat):Int)+1))<n_ then (IntKind.wrap .i64 ((((List.length s):Nat):Int)+1)) else n_)))&&((decide ((if (IntKind.wrap .i64 ((((List.length s):Nat):Int)+1))<n_ then (IntKind.wrap .i64 ((((List.length s):Nat):Int)+1)) else n_)≤(if (IntKind.wrap .i64 ((((List.length s):Nat):Int)+1))<n_ then (IntKind.wrap .i64 ((((List.length s):Nat):Int)+1)) else n_)))&&(decide (((if (IntKind.wrap .i64 ((((List.length s):Nat):Int)+1))<n_ then (IntKind.wrap .i64 ((((List.length s):Nat):Int)+1)) else n_)*16)≤140737488355328))))) (
 obind (strings_genSplit_l11 n loopFuel (s,(sep,(sepSave,((IntKind.wrap .i64 ((if (IntKind.wrap .i64 ((((List.length s):Nat):Int)+1))<n_ then (IntKind.wrap .i64 ((((List.length s):Nat):Int)+1)) else n_)-1)),((List.replicate (Int.toNat (if (IntKind.wrap .i64 ((((List.length s):Nat):Int)+1))<n_ then (IntKind.wrap .i64 ((((List.length s):Nat):Int)+1)) else n_)) ([]:List UInt8)),((0:Int),()))))))) fun r7 =>
 selim (fun y8 =>
 obind (at? y8.2.1 y8.2.2.1) fun r9 =>
 obind ((y8.2.1)[(Int.toNat y8.2.2.1)]?) fun r10 =>
 tif (((decide ((0:Int)≤(IntKind.wrap .i64 (y8.2.2.1+1))))&&(decide ((IntKind.wrap .i64 (y8.2.2.1+1))≤(((List.length (List.set y8.2.1 (Int.toNat y8.2.2.1) y8.1)):Nat):Int))))) (
 some (List.take ((Int.toNat (IntKind.wrap .i64 (y8.2.2.1+1)))-0) (List.drop 0 (List.set y8.2.1 (Int.toNat y8.2.2.1) y8.1)))) (
 none)) (fun z11 =>
 some z11) r7) (
 none)))):=by kernel_rfl
theorem strings_genSplit_l11_eq (n f:Nat) (s:List UInt8) (sep:List UInt8) (sepSave:Int) (n_:Int) (a:(List (List UInt8))) (i:Int):strings_genSplit_l11 n (f+1) (s,sep,sepSave,n_,a,i,()) =
 tif ((decide (i<n_))) (
 obind (strings_Index n s sep) fun r0 =>
 tif ((decide (r0<0))) (
 some (.inl (s,(a,(i,()))))) (
 tif (((decide ((0:Int)≤(IntKind.wrap .i64 (r0+sepSave))))&&(decide ((IntKind.wrap .i64 (r0+sepSave))≤(((List.length s):Nat):Int))))) (
 obind (at? a i) fun r1 =>
 obind ((a)[(Int.toNat i)]?) fun r2 =>
 tif ((decide ((0:Int)≤(IntKind.wrap .i64 (r0+(((List.length sep):Nat):Int)))))) (
 tif ((decide ((Int.toNat (IntKind.wrap .i64 (r0+(((List.length sep):Nat):Int))))≤(List.length s)))) (
 strings_genSplit_l11 n f ((List.drop (Int.toNat (IntKind.wrap .i64 (r0+(((List.length sep):Nat):Int)))) (List.take (List.length s) s)),(sep,(sepSave,(n_,((List.set a (Int.toNat i) (List.drop 0 (List.take (Int.toNat (IntKind.wrap .i64 (r0+sepSave))) s))),((IntKind.wrap .i64 (i+1)),()))))))) (
 none)) (
 none)) (
 none))) (
 some (.inl (s,(a,(i,()))))):=by kernel_rfl
theorem stringslite_HasPrefix_eq (n:Nat) (s:List UInt8) (prefix_:List UInt8):stringslite_HasPrefix (n+1) s prefix_ =
 tif ((decide ((((List.length prefix_):Nat):Int)≤(((List.length s):Nat):Int)))) (
 tif (((decide ((0:Int)≤(((List.length prefix_):Nat):Int)))&&(decide ((((List.length prefix_):Nat):Int)≤(((List.length s):Nat):Int))))) (
 some ((List.drop 0 (List.take (Int.toNat (((List.length prefix_):Nat):Int)) s))==prefix_)) (
 none)) (
 some false):=by kernel_rfl
theorem strconv_numDigits_eq (n:Nat) (d:Int):strconv_numDigits (n+1) d =
 obind (math_bits_Len64 n d) fun r0 =>
 obind (strconv_log10Pow2 n r0) fun r1 =>
 obind (at? ((1:Int)::((10:Int)::((100:Int)::((1000:Int)::((10000:Int)::((100000:Int)::((1000000:Int)::((10000000:Int)::((100000000:Int)::((1000000000:Int)::((10000000000:Int)::((100000000000:Int)::((1000000000000:Int)::((10000000000000:Int)::((100000000000000:Int)::((1000000000000000:Int)::((10000000000000000:Int)::((100000000000000000:Int)::((1000000000000000000:Int)::((10000000000000000000:Int)::[])))))))))))))))))))) r1) fun r2 =>
 obind (strconv_bool2_int n (decide (r2≤d))) fun r3 =>
 some (IntKind.wrap .i64 (r1+r3)):=by kernel_rfl
theorem strconv_formatBase10_eq (n:Nat) (a:(List Int×(Nat×Nat))) (u:Int):strconv_formatBase10 (n+1) a u =
 obind (strconv_formatBase10_l1 n loopFuel (a,(u,(((a.2.2:Nat):Int),())))) fun r0 =>
 selim (fun y1 =>
 tif ((decide ((4:Int)≤y1.2.2.1))) (
 obind (at? bs_92989263 (IntKind.wrap .u32 ((IntKind.wrap .u32 ((Int.tmod (Int.tmod (IntKind.wrap .u32 y1.2.1) (10000:Int)) (100:Int))*2))+1))) fun r2 =>
 obind (at? bs_92989263 (IntKind.wrap .u32 ((Int.tmod (Int.tmod (IntKind.wrap .u32 y1.2.1) (10000:Int)) (100:Int))*2))) fun r3 =>
 obind (at? (List.take y1.1.2.2 (List.drop y1.1.2.1 y1.1.1)) (IntKind.wrap .i64 (y1.2.2.1-1))) fun r4 =>
 obind ((y1.1.1)[(y1.1.2.1+(Int.toNat (IntKind.wrap .i64 (y1.2.2.1-1))))]?) fun r5 =>
 obind (at? (List.take y1.1.2.2 (List.drop y1.1.2.1 (List.set y1.1.1 (y1.1.2.1+(Int.toNat (IntKind.wrap .i64 (y1.2.2.1-1)))) (((UInt8.toNat r2):Nat):Int)))) (IntKind.wrap .i64 (y1.2.2.1-2))) fun r6 =>
 obind (((List.set y1.1.1 (y1.1.2.1+(Int.toNat (IntKind.wrap .i64 (y1.2.2.1-1)))) (((UInt8.toNat r2):Nat):Int)))[(y1.1.2.1+(Int.toNat (IntKind.wrap .i64 (y1.2.2.1-2))))]?) fun r7 =>
 obind (at? bs_92989263 (IntKind.wrap .u32 ((IntKind.wrap .u32 ((IntKind.wrap .u32 (Int.tdiv (Int.tmod (IntKind.wrap .u32 y1.2.1) (10000:Int)) (100:Int)))*2))+1))) fun r8 =>
 obind (at? bs_92989263 (IntKind.wrap .u32 ((IntKind.wrap .u32 (Int.tdiv (Int.tmod (IntKind.wrap .u32 y1.2.1) (10000:Int)) (100:Int)))*2))) fun r9 =>
 obind (at? (List.take y1.1.2.2 (List.drop y1.1.2.1 (List.set (List.set y1.1.1 (y1.1.2.1+(Int.toNat (IntKind.wrap .i64 (y1.2.2.1-1)))) (((UInt8.toNat r2):Nat):Int)) (y1.1.2.1+(Int.toNat (IntKind.wrap .i64 (y1.2.2.1-2)))) (((UInt8.toNat r3):Nat):Int)))) (IntKind.wrap .i64 (y1.2.2.1-3))) fun r10 =>
 obind (((List.set (List.set y1.1.1 (y1.1.2.1+(Int.toNat (IntKind.wrap .i64 (y1.2.2.1-1)))) (((UInt8.toNat r2):Nat):Int)) (y1.1.2.1+(Int.toNat (IntKind.wrap .i64 (y1.2.2.1-2)))) (((UInt8.toNat r3):Nat):Int)))[(y1.1.2.1+(Int.toNat (IntKind.wrap .i64 (y1.2.2.1-3))))]?) fun r11 =>
 obind (at? (List.take y1.1.2.2 (List.drop y1.1.2.1 (List.set (List.set (List.set y1.1.1 (y1.1.2.1+(Int.toNat (IntKind.wrap .i64 (y1.2.2.1-1)))) (((UInt8.toNat r2):Nat):Int)) (y1.1.2.1+(Int.toNat (IntKind.wrap .i64 (y1.2.2.1-2)))) (((UInt8.toNat r3):Nat):Int)) (y1.1.2.1+(Int.toNat (IntKind.wrap .i64 (y1.2.2.1-3)))) (((UInt8.toNat r8):Nat):Int)))) (IntKind.wrap .i64 (y1.2.2.1-4))) fun r12 =>
 obind (((List.set (List.set (List.set y1.1.1 (y1.1.2.1+(Int.toNat (IntKind.wrap .i64 (y1.2.2.1-1)))) (((UInt8.toNat r2):Nat):Int)) (y1.1.2.1+(Int.toNat (IntKind.wrap .i64 (y1.2.2.1-2)))) (((UInt8.toNat r3):Nat):Int)) (y1.1.2.1+(Int.toNat (IntKind.wrap .i64 (y1.2.2.1-3)))) (((UInt8.toNat r8):Nat):Int)))[(y1.1.2.1+(Int.toNat (IntKind.wrap .i64 (y1.2.2.1-4))))]?) fun r13 =>
 tif ((decide ((2:Int)≤(IntKind.wrap .i64 (y1.2.2.1-4))))) (
 obind (at? bs_92989263 (IntKind.wrap .u32 ((IntKind.wrap .u32 ((Int.tmod (IntKind.wrap .u32 (Int.tdiv (IntKind.wrap .u32 y1.2.1) (10000:Int))) (100:Int))*2))+1))) fun r14 =>
 obind (at? bs_92989263 (IntKind.wrap .u32 ((Int.tmod (IntKind.wrap .u32 (Int.tdiv (IntKind.wrap .u32 y1.2.1) (10000:Int))) (100:Int))*2))) fun r15 =>
 obind (at? (List.take y1.1.2.2 (List.drop y1.1.2.1 (List.set (List.set (List.set (List.set y1.1.1 (y1.1.2.1+(Int.toNat (IntKind.wrap .i64 (y1.2.2.1-1)))) (((UInt8.toNat r2):Nat):Int)) (y1.1.2.1+(Int.toNat (IntKind.wrap .i64 (y1.2.2.1-2)))) (((UInt8.toNat r3):Nat):Int)) (y1.1.2.1+(Int.toNat (IntKind.wrap .i64 (y1.2.2.1-3)))) (((UInt8.toNat r8):Nat):Int)) (y1.1.2.1+(Int.toNat (IntKind.wrap .i64 (y1.2.2.1-4)))) (((UInt8.toNat r9):Nat):Int)))) (IntKind.wrap .i64 ((IntKind.wrap .i64 (y1.2.2.1-4))-1))) fun r16 =>
 obind (((List.set (List.set (List.set (List.set y1.1.1 (y1.1.2.1+(Int.toNat (IntKind.wrap .i64 (y1.2.2.1-1)))) (((UInt8.toNat r2):Nat):Int)) (y1.1.2.1+(Int.toNat (IntKind.wrap .i64 (y1.2.2.1-2)))) (((UInt8.toNat r3):Nat):Int)) (y1.1.2.1+(Int.toNat (IntKind.wrap .i64 (y1.2.2.1-3)))) (((UInt8.toNat r8):Nat):Int)) (y1.1.2.1+(Int.toNat (IntKind.wrap .i64 (y1.2.2.1-4)))) (((UInt8.toNat r9):Nat):Int)))[(y1.1.2.1+(Int.toNat (IntKind.wrap .i64 ((IntKind.wrap .i64 (y1.2.2.1-4))-1))))]?) fun r17 =>
 obind (at? (List.take y1.1.2.2 (List.drop y1.1.2.1 (List.set (List.set (List.set (List.set (List.set y1.1.1 (y1.1.2.1+(Int.toNat (IntKind.wrap .i64 (y1.2.2.1-1)))) (((UInt8.toNat r2):Nat):Int)) (y1.1.2.1+(Int.toNat (IntKind.wrap .i64 (y1.2.2.1-2)))) (((UInt8.toNat r3):Nat):Int)) (y1.1.2.1+(Int.toNat (IntKind.wrap .i64 (y1.2.2.1-3)))) (((UInt8.toNat r8):Nat):Int)) (y1.1.2.1+(Int.toNat (IntKind.wrap .i64 (y1.2.2.1-4)))) (((UInt8.toNat r9):Nat):Int)) (y1.1.2.1+(Int.toNat (IntKind.wrap .i64 ((IntKind.wrap .i64 (y1.2.2.1-4))-1)))) (((UInt8.toNat r14):Nat):Int)))) (IntKind.wrap .i64 ((IntKind.wrap .i64 (y1.2.2.1-4))-2))) fun r18 =>
 obind (((List.set (List.set (List.set (List.set (List.set y1.1.1 (y1.1.2.1+(Int.toNat (IntKind.wrap .i64 (y1.2.2.1-1)))) (((UInt8.toNat r2):Nat):Int)) (y1.1.2.1+(Int.toNat (IntKind.wrap .i64 (y1.2.2.1-2)))) (((UInt8.toNat r3):Nat):Int)) (y1.1.2.1+(Int.toNat (IntKind.wrap .i64 (y1.2.2.1-3)))) (((UInt8.toNat r8):Nat):Int)) (y1.1.2.1+(Int.toNat (IntKind.wrap .i64 (y1.2.2.1-4)))) (((UInt8.toNat r9):Nat):Int)) (y1.1.2.1+(Int.toNat (IntKind.wrap .i64 ((IntKind.wrap .i64 (y1.2.2.1-4))-1)))) (((UInt8.toNat r14):Nat):Int)))[(y1.1.2.1+(Int.toNat (IntKind.wrap .i64 ((IntKind.wrap .i64 (y1.2.2.1-4))-2))))]?) fun r19 =>
 tif ((decide ((0:Int)<(IntKind.wrap .i64 ((IntKind.wrap .i64 (y1.2.2.1-4))-2))))) (
 obind (at? (List.take y1.1.2.2 (List.drop y1.1.2.1 (List.set (List.set (List.set (List.set (List.set (List.set y1.1.1 (y1.1.2.1+(Int.toNat (IntKind.wrap .i64 (y1.2.2.1-1)))) (((UInt8.toNat r2):Nat):Int)) (y1.1.2.1+(Int.toNat (IntKind.wrap .i64 (y1.2.2.1-2)))) (((UInt8.toNat r3):Nat):Int)) (y1.1.2.1+(Int.toNat (IntKind.wrap .i64 (y1.2.2.1-3)))) (((UInt8.toNat r8):Nat):Int)) (y1.1.2.1+(Int.toNat (IntKind.wrap .i64 (y1.2.2.1-4)))) (((UInt8.toNat r9):Nat):Int)) (y1.1.2.1+(Int.toNat (IntKind.wrap .i64 ((IntKind.wrap .i64 (y1.2.2.1-4))-1)))) (((UInt8.toNat r14):Nat):Int)) (y1.1.2.1+(Int.toNat (IntKind.wrap .i64 ((IntKind.wrap .i64 (y1.2.2.1-4))-2)))) (((UInt8.toNat r15):Nat):Int)))) (0:Int)) fun r20 =>
 obind (((List.set (List.set (List.set (List.set (List.set (List.set y1.1.1 (y1.1.2.1+(Int.toNat (IntKind.wrap .i64 (y1.2.2.1-1)))) (((UInt8.toNat r2):Nat):Int)) (y1.1.2.1+(Int.toNat (IntKind.wrap .i64 (y1.2.2.1-2)))) (((UInt8.toNat r3):Nat):Int)) (y1.1.2.1+(Int.toNat (IntKind.wrap .i64 (y1.2.2.1-3)))) (((UInt8.toNat r8):Nat):Int)) (y1.1.2.1+(Int.toNat (IntKind.wrap .i64 (y1.2.2.1-4)))) (((UInt8.toNat r9):Nat):Int)) (y1.1.2.1+(Int.toNat (IntKind.wrap .i64 ((IntKind.wrap .i64 (y1.2.2.1-4))-1)))) (((UInt8.toNat r14):Nat):Int)) (y1.1.2.1+(Int.toNat (IntKind.wrap .i64 ((IntKind.wrap .i64 (y1.2.2.1-4))-2)))) (((UInt8.toNat r15):Nat):Int)))[(y1.1.2.1+0)]?) fun r21 =>
 some ((List.set (List.set (List.set (List.set (List.set (List.set (List.set y1.1.1 (y1.1.2.1+(Int.toNat (IntKind.wrap .i64 (y1.2.2.1-1)))) (((UInt8.toNat r2):Nat):Int)) (y1.1.2.1+(Int.toNat (IntKind.wrap .i64 (y1.2.2.1-2)))) (((UInt8.toNat r3):Nat):Int)) (y1.1.2.1+(Int.toNat (IntKind.wrap .i64 (y1.2.2.1-3)))) (((UInt8.toNat r8):Nat):Int)) (y1.1.2.1+(Int.toNat (IntKind.wrap .i64 (y1.2.2.1-4)))) (((UInt8.toNat r9):Nat):Int)) (y1.1.2.1+(Int.toNat (IntKind.wrap .i64 ((IntKind.wrap .i64 (y1.2.2.1-4))-1)))) (((UInt8.toNat r14):Nat):Int)) (y1.1.2.1+(Int.toNat (IntKind.wrap .i64 ((IntKind.wrap .i64 (y1.2.2.1-4))-2)))) (((UInt8.toNat r15):Nat):Int)) (y1.1.2.1+0) (IntKind.wrap .u8 (IntKind.wrap .u32 ((48:Int)+(IntKind.wrap .u32 (Int.tdiv (IntKind.wrap .u32 (Int.tdiv (IntKind.wrap .u32 y1.2.1) (10000:Int))) (100:Int))))))),y1.1.2)) (
 some ((List.set (List.set (List.set (List.set (List.set (List.set y1.1.1 (y1.1.2.1+(Int.toNat (IntKind.wrap .i64 (y1.2.2.1-1)))) (((UInt8.toNat r2):Nat):Int)) (y1.1.2.1+(Int.toNat (IntKind.wrap .i64 (y1.2.2.1-2)))) (((UInt8.toNat r3):Nat):Int)) (y1.1.2.1+(Int.toNat (IntKind.wrap .i64 (y1.2.2.1-3)))) (((UInt8.toNat r8):Nat):Int)) (y1.1.2.1+(Int.toNat (IntKind.wrap .i64 (y1.2.2.1-4)))) (((UInt8.toNat r9):Nat):Int)) (y1.1.2.1+(Int.toNat (IntKind.wrap .i64 ((IntKind.wrap .i64 (y1.2.2.1-4))-1)))) (((UInt8.toNat r14):Nat):Int)) (y1.1.2.1+(Int.toNat (IntKind.wrap .i64 ((IntKind.wrap .i64 (y1.2.2.1-4))-2)))) (((UInt8.toNat r15):Nat):Int)),y1.1.2))) (
 tif ((decide ((0:Int)<(IntKind.wrap .i64 (y1.2.2.1-4))))) (
 obind (at? (List.take y1.1.2.2 (List.drop y1.1.2.1 (List.set (List.set (List.set (List.set y1.1.1 (y1.1.2.1+(Int.toNat (IntKind.wrap .i64 (y1.2.2.1-1)))) (((UInt8.toNat r2):Nat):Int)) (y1.1.2.1+(Int.toNat (IntKind.wrap .i64 (y1.2.2.1-2)))) (((UInt8.toNat r3):Nat):Int)) (y1.1.2.1+(Int.toNat (IntKind.wrap .i64 (y1.2.2.1-3)))) (((UInt8.toNat r8):Nat):Int)) (y1.1.2.1+(Int.toNat (IntKind.wrap .i64 (y1.2.2.1-4)))) (((UInt8.toNat r9):Nat):Int)))) (0:Int)) fun r22 =>
 obind (((List.set (List.set (List.set (List.set y1.1.1 (y1.1.2.1+(Int.toNat (IntKind.wrap .i64 (y1.2.2.1-1)))) (((UInt8.toNat r2):Nat):Int)) (y1.1.2.1+(Int.toNat (IntKind.wrap .i64 (y1.2.2.1-2)))) (((UInt8.toNat r3):Nat):Int)) (y1.1.2.1+(Int.toNat (IntKind.wrap .i64 (y1.2.2.1-3)))) (((UInt8.toNat r8):Nat):Int)) (y1.1.2.1+(Int.toNat (IntKind.wrap .i64 (y1.2.2.1-4)))) (((UInt8.toNat r9):Nat):Int)))[(y1.1.2.1+0)]?) fun r23 =>
 some ((List.set (List.set (List.set (List.set (List.set y1.1.1 (y1.1.2.1+(Int.toNat (IntKind.wrap .i64 (y1.2.2.1-1)))) (((UInt8.toNat r2):Nat):Int)) (y1.1.2.1+(Int.toNat (IntKind.wrap .i64 (y1.2.2.1-2)))) (((UInt8.toNat r3):Nat):Int)) (y1.1.2.1+(Int.toNat (IntKind.wrap .i64 (y1.2.2.1-3)))) (((UInt8.toNat r8):Nat):Int)) (y1.1.2.1+(Int.toNat (IntKind.wrap .i64 (y1.2.2.1-4)))) (((UInt8.toNat r9):Nat):Int)) (y1.1.2.1+0) (IntKind.wrap .u8 (IntKind.wrap .u32 ((48:Int)+(IntKind.wrap .u32 (Int.tdiv (IntKind.wrap .u32 y1.2.1) (10000:Int))))))),y1.1.2)) (
 some ((List.set (List.set (List.set (List.set y1.1.1 (y1.1.2.1+(Int.toNat (IntKind.wrap .i64 (y1.2.2.1-1)))) (((UInt8.toNat r2):Nat):Int)) (y1.1.2.1+(Int.toNat (IntKind.wrap .i64 (y1.2.2.1-2)))) (((UInt8.toNat r3):Nat):Int)) (y1.1.2.1+(Int.toNat (IntKind.wrap .i64 (y1.2.2.1-3)))) (((UInt8.toNat r8):Nat):Int)) (y1.1.2.1+(Int.toNat (IntKind.wrap .i64 (y1.2.2.1-4)))) (((UInt8.toNat r9):Nat):Int)),y1.1.2)))) (
 tif ((decide ((2:Int)≤y1.2.2.1))) (
 obind (at? bs_92989263 (IntKind.wrap .u32 ((IntKind.wrap .u32 ((Int.tmod (IntKind.wrap .u32 y1.2.1) (100:Int))*2))+1))) fun r24 =>
 obind (at? bs_92989263 (IntKind.wrap .u32 ((Int.tmod (IntKind.wrap .u32 y1.2.1) (100:Int))*2))) fun r25 =>
 obind (at? (List.take y1.1.2.2 (List.drop y1.1.2.1 y1.1.1)) (IntKind.wrap .i64 (y1.2.2.1-1))) fun r26 =>
 obind ((y1.1.1)[(y1.1.2.1+(Int.toNat (IntKind.wrap .i64 (y1.2.2.1-1))))]?) fun r27 =>
 obind (at? (List.take y1.1.2.2 (List.drop y1.1.2.1 (List.set y1.1.1 (y1.1.2.1+(Int.toNat (IntKind.wrap .i64 (y1.2.2.1-1)))) (((UInt8.toNat r24):Nat):Int)))) (IntKind.wrap .i64 (y1.2.2.1-2))) fun r28 =>
 obind (((List.set y1.1.1 (y1.1.2.1+(Int.toNat (IntKind.wrap .i64 (y1.2.2.1-1)))) (((UInt8.toNat r24):Nat):Int)))[(y1.1.2.1+(Int.toNat (IntKind.wrap .i64 (y1.2.2.1-2))))]?) fun r29 =>
 tif ((decide ((0:Int)<(IntKind.wrap .i64 (y1.2.2.1-2))))) (
 obind (at? (List.take y1.1.2.2 (List.drop y1.1.2.1 (List.set (List.set y1.1.1 (y1.1.2.1+(Int.toNat (IntKind.wrap .i64 (y1.2.2.1-1)))) (((UInt8.toNat r24):Nat):Int)) (y1.1.2.1+(Int.toNat (IntKind.wrap .i64 (y1.2.2.1-2)))) (((UInt8.toNat r25):Nat):Int)))) (0:Int)) fun r30 =>
 obind (((List.set (List.set y1.1.1 (y1.1.2.1+(Int.toNat (IntKind.wrap .i64 (y1.2.2.1-1)))) (((UInt8.toNat r24):Nat):Int)) (y1.1.2.1+(Int.toNat (IntKind.wrap .i64 (y1.2.2.1-2)))) (((UInt8.toNat r25):Nat):Int)))[(y1.1.2.1+0)]?) fun r31 =>
 some ((List.set (List.set (List.set y1.1.1 (y1.1.2.1+(Int.toNat (IntKind.wrap .i64 (y1.2.2.1-1)))) (((UInt8.toNat r24):Nat):Int)) (y1.1.2.1+(Int.toNat (IntKind.wrap .i64 (y1.2.2.1-2)))) (((UInt8.toNat r25):Nat):Int)) (y1.1.2.1+0) (IntKind.wrap .u8 (IntKind.wrap .u32 ((48:Int)+(IntKind.wrap .u32 (Int.tdiv (IntKind.wrap .u32 y1.2.1) (100:Int))))))),y1.1.2)) (
 some ((List.set (List.set y1.1.1 (y1.1.2.1+(Int.toNat (IntKind.wrap .i64 (y1.2.2.1-1)))) (((UInt8.toNat r24):Nat):Int)) (y1.1.2.1+(Int.toNat (IntKind.wrap .i64 (y1.2.2.1-2)))) (((UInt8.toNat r25):Nat):Int)),y1.1.2))) (
 tif ((decide ((0:Int)<y1.2.2.1))) (
 obind (at? (List.take y1.1.2.2 (List.drop y1.1.2.1 y1.1.1)) (0:Int)) fun r32 =>
 obind ((y1.1.1)[(y1.1.2.1+0)]?) fun r33 =>
 some ((List.set y1.1.1 (y1.1.2.1+0) (IntKind.wrap .u8 (IntKind.wrap .u32 ((48:Int)+(IntKind.wrap .u32 y1.2.1))))),y1.1.2)) (
 some y1.1)))) (fun z34 =>
 some z34) r0:=by kernel_rfl
theorem strconv_formatBase10_l1_eq (n f:Nat) (a:(List Int×(Nat×Nat))) (u:Int) (nd:Int):strconv_formatBase10_l1 n (f+1) (a,u,nd,()) =
 tif ((decide ((8:Int)≤nd))) (
 obind (at? bs_92989263 (IntKind.wrap .u32 ((IntKind.wrap .u32 ((Int.tmod (Int.tmod (IntKind.wrap .u32 (Int.tmod u (100000000:Int))) (10000:Int)) (100:Int))*2))+1))) fun r0 =>
 obind (at? bs_92989263 (IntKind.wrap .u32 ((Int.tmod (Int.tmod (IntKind.wrap .u32 (Int.tmod u (100000000:Int))) (10000:Int)) (100:Int))*2))) fun r1 =>
 obind (at? (List.take a.2.2 (List.drop a.2.1 a.1)) (IntKind.wrap .i64 (nd-1))) fun r2 =>
 obind ((a.1)[(a.2.1+(Int.toNat (IntKind.wrap .i64 (nd-1))))]?) fun r3 =>
 obind (at? (List.take a.2.2 (List.drop a.2.1 (List.set a.1 (a.2.1+(Int.toNat (IntKind.wrap .i64 (nd-1)))) (((UInt8.toNat r0):Nat):Int)))) (IntKind.wrap .i64 (nd-2))) fun r4 =>
 obind (((List.set a.1 (a.2.1+(Int.toNat (IntKind.wrap .i64 (nd-1)))) (((UInt8.toNat r0):Nat):Int)))[(a.2.1+(Int.toNat (IntKind.wrap .i64 (nd-2))))]?) fun r5 =>
 obind (at? bs_92989263 (IntKind.wrap .u32 ((IntKind.wrap .u32 ((IntKind.wrap .u32 (Int.tdiv (Int.tmod (IntKind.wrap .u32 (Int.tmod u (100000000:Int))) (10000:Int)) (100:Int)))*2))+1))) fun r6 =>
 obind (at? bs_92989263 (IntKind.wrap .u32 ((IntKind.wrap .u32 (Int.tdiv (Int.tmod (IntKind.wrap .u32 (Int.tmod u (100000000:Int))) (10000:Int)) (100:Int)))*2))) fun r7 =>
 obind (at? (List.take a.2.2 (List.drop a.2.1 (List.set (List.set a.1 (a.2.1+(Int.toNat (IntKind.wrap .i64 (nd-1)))) (((UInt8.toNat r0):Nat):Int)) (a.2.1+(Int.toNat (IntKind.wrap .i64 (nd-2)))) (((UInt8.toNat r1):Nat):Int)))) (IntKind.wrap .i64 (nd-3))) fun r8 =>
 obind (((List.set (List.set a.1 (a.2.1+(Int.toNat (IntKind.wrap .i64 (nd-1)))) (((UInt8.toNat r0):Nat):Int)) (a.2.1+(Int.toNat (IntKind.wrap .i64 (nd-2)))) (((UInt8.toNat r1):Nat):Int)))[(a.2.1+(Int.toNat (IntKind.wrap .i64 (nd-3))))]?) fun r9 =>
 obind (at? (List.take a.2.2 (List.drop a.2.1 (List.set (List.set (List.set a.1 (a.2.1+(Int.toNat (IntKind.wrap .i64 (nd-1)))) (((UInt8.toNat r0):Nat):Int)) (a.2.1+(Int.toNat (IntKind.wrap .i64 (nd-2)))) (((UInt8.toNat r1):Nat):Int)) (a.2.1+(Int.toNat (IntKind.wrap .i64 (nd-3)))) (((UInt8.toNat r6):Nat):Int)))) (IntKind.wrap .i64 (nd-4))) fun r10 =>
 obind (((List.set (List.set (List.set a.1 (a.2.1+(Int.toNat (IntKind.wrap .i64 (nd-1)))) (((UInt8.toNat r0):Nat):Int)) (a.2.1+(Int.toNat (IntKind.wrap .i64 (nd-2)))) (((UInt8.toNat r1):Nat):Int)) (a.2.1+(Int.toNat (IntKind.wrap .i64 (nd-3)))) (((UInt8.toNat r6):Nat):Int)))[(a.2.1+(Int.toNat (IntKind.wrap .i64 (nd-4))))]?) fun r11 =>
 obind (at? bs_92989263 (IntKind.wrap .u32 ((IntKind.wrap .u32 ((Int.tmod (IntKind.wrap .u32 (Int.tdiv (IntKind.wrap .u32 (Int.tmod u (100000000:Int))) (10000:Int))) (100:Int))*2))+1))) fun r12 =>
 obind (at? bs_92989263 (IntKind.wrap .u32 ((Int.tmod (IntKind.wrap .u32 (Int.tdiv (IntKind.wrap .u32 (Int.tmod u (100000000:Int))) (10000:Int))) (100:Int))*2))) fun r13 =>
 obind (at? (List.take a.2.2 (List.drop a.2.1 (List.set (List.set (List.set (List.set a.1 (a.2.1+(Int.toNat (IntKind.wrap .i64 (nd-1)))) (((UInt8.toNat r0):Nat):Int)) (a.2.1+(Int.toNat (IntKind.wrap .i64 (nd-2)))) (((UInt8.toNat r1):Nat):Int)) (a.2.1+(Int.toNat (IntKind.wrap .i64 (nd-3)))) (((UInt8.toNat r6):Nat):Int)) (a.2.1+(Int.toNat (IntKind.wrap .i64 (nd-4)))) (((UInt8.toNat r7):Nat):Int)))) (IntKind.wrap .i64 (nd-5))) fun r14 =>
 obind (((List.set (List.set (List.set (List.set a.1 (a.2.1+(Int.toNat (IntKind.wrap .i64 (nd-1)))) (((UInt8.toNat r0):Nat):Int)) (a.2.1+(Int.toNat (IntKind.wrap .i64 (nd-2)))) (((UInt8.toNat r1):Nat):Int)) (a.2.1+(Int.toNat (IntKind.wrap .i64 (nd-3)))) (((UInt8.toNat r6):Nat):Int)) (a.2.1+(Int.toNat (IntKind.wrap .i64 (nd-4)))) (((UInt8.toNat r7):Nat):Int)))[(a.2.1+(Int.toNat (IntKind.wrap .i64 (nd-5))))]?) fun r15 =>
 obind (at? (List.take a.2.2 (List.drop a.2.1 (List.set (List.set (List.set (List.set (List.set a.1 (a.2.1+(Int.toNat (IntKind.wrap .i64 (nd-1)))) (((UInt8.toNat r0):Nat):Int)) (a.2.1+(Int.toNat (IntKind.wrap .i64 (nd-2)))) (((UInt8.toNat r1):Nat):Int)) (a.2.1+(Int.toNat (IntKind.wrap .i64 (nd-3)))) (((UInt8.toNat r6):Nat):Int)) (a.2.1+(Int.toNat (IntKind.wrap .i64 (nd-4)))) (((UInt8.toNat r7):Nat):Int)) (a.2.1+(Int.toNat (IntKind.wrap .i64 (nd-5)))) (((UInt8.toNat r12):Nat):Int)))) (IntKind.wrap .i64 (nd-6))) fun r16 =>
 obind (((List.set (List.set (List.set (List.set (List.set a.1 (a.2.1+(Int.toNat (IntKind.wrap .i64 (nd-1)))) (((UInt8.toNat r0):Nat):Int)) (a.2.1+(Int.toNat (IntKind.wrap .i64 (nd-2)))) (((UInt8.toNat r1):Nat):Int)) (a.2.1+(Int.toNat (IntKind.wrap .i64 (nd-3)))) (((UInt8.toNat r6):Nat):Int)) (a.2.1+(Int.toNat (IntKind.wrap .i64 (nd-4)))) (((UInt8.toNat r7):Nat):Int)) (a.2.1+(Int.toNat (IntKind.wrap .i64 (nd-5)))) (((UInt8.toNat r12):Nat):Int)))[(a.2.1+(Int.toNat (IntKind.wrap .i64 (nd-6))))]?) fun r17 =>
 obind (at? bs_92989263 (IntKind.wrap .u32 ((IntKind.wrap .u32 ((IntKind.wrap .u32 (Int.tdiv (IntKind.wrap .u32 (Int.tdiv (IntKind.wrap .u32 (Int.tmod u (100000000:Int))) (10000:Int))) (100:Int)))*2))+1))) fun r18 =>
 obind (at? bs_92989263 (IntKind.wrap .u32 ((IntKind.wrap .u32 (Int.tdiv (IntKind.wrap .u32 (Int.tdiv (IntKind.wrap .u32 (Int.tmod u (100000000:Int))) (10000:Int))) (100:Int)))*2))) fun r19 =>
 obind (at? (List.take a.2.2 (List.drop a.2.1 (List.set (List.set (List.set (List.set (List.set (List.set a.1 (a.2.1+(Int.toNat (IntKind.wrap .i64 (nd-1)))) (((UInt8.toNat r0):Nat):Int)) (a.2.1+(Int.toNat (IntKind.wrap .i64 (nd-2)))) (((UInt8.toNat r1):Nat):Int)) (a.2.1+(Int.toNat (IntKind.wrap .i64 (nd-3)))) (((UInt8.toNat r6):Nat):Int)) (a.2.1+(Int.toNat (IntKind.wrap .i64 (nd-4)))) (((UInt8.toNat r7):Nat):Int)) (a.2.1+(Int.toNat (IntKind.wrap .i64 (nd-5)))) (((UInt8.toNat r12):Nat):Int)) (a.2.1+(Int.toNat (IntKind.wrap .i64 (nd-6)))) (((UInt8.toNat r13):Nat):Int)))) (IntKind.wrap .i64 (nd-7))) fun r20 =>
 obind (((List.set (List.set (List.set (List.set (List.set (List.set a.1 (a.2.1+(Int.toNat (IntKind.wrap .i64 (nd-1)))) (((UInt8.toNat r0):Nat):Int)) (a.2.1+(Int.toNat (IntKind.wrap .i64 (nd-2)))) (((UInt8.toNat r1):Nat):Int)) (a.2.1+(Int.toNat (IntKind.wrap .i64 (nd-3)))) (((UInt8.toNat r6):Nat):Int)) (a.2.1+(Int.toNat (IntKind.wrap .i64 (nd-4)))) (((UInt8.toNat r7):Nat):Int)) (a.2.1+(Int.toNat (IntKind.wrap .i64 (nd-5)))) (((UInt8.toNat r12):Nat):Int)) (a.2.1+(Int.toNat (IntKind.wrap .i64 (nd-6)))) (((UInt8.toNat r13):Nat):Int)))[(a.2.1+(Int.toNat (IntKind.wrap .i64 (nd-7))))]?) fun r21 =>
 obind (at? (List.take a.2.2 (List.drop a.2.1 (List.set (List.set (List.set (List.set (List.set (List.set (List.set a.1 (a.2.1+(Int.toNat (IntKind.wrap .i64 (nd-1)))) (((UInt8.toNat r0):Nat):Int)) (a.2.1+(Int.toNat (IntKind.wrap .i64 (nd-2)))) (((UInt8.toNat r1):Nat):Int)) (a.2.1+(Int.toNat (IntKind.wrap .i64 (nd-3)))) (((UInt8.toNat r6):Nat):Int)) (a.2.1+(Int.toNat (IntKind.wrap .i64 (nd-4)))) (((UInt8.toNat r7):Nat):Int)) (a.2.1+(Int.toNat (IntKind.wrap .i64 (nd-5)))) (((UInt8.toNat r12):Nat):Int)) (a.2.1+(Int.toNat (IntKind.wrap .i64 (nd-6)))) (((UInt8.toNat r13):Nat):Int)) (a.2.1+(Int.toNat (IntKind.wrap .i64 (nd-7)))) (((UInt8.toNat r18):Nat):Int)))) (IntKind.wrap .i64 (nd-8))) fun r22 =>
 obind (((List.set (List.set (List.set (List.set (List.set (List.set (List.set a.1 (a.2.1+(Int.toNat (IntKind.wrap .i64 (nd-1)))) (((UInt8.toNat r0):Nat):Int)) (a.2.1+(Int.toNat (IntKind.wrap .i64 (nd-2)))) (((UInt8.toNat r1):Nat):Int)) (a.2.1+(Int.toNat (IntKind.wrap .i64 (nd-3)))) (((UInt8.toNat r6):Nat):Int)) (a.2.1+(Int.toNat (IntKind.wrap .i64 (nd-4)))) (((UInt8.toNat r7):Nat):Int)) (a.2.1+(Int.toNat (IntKind.wrap .i64 (nd-5)))) (((UInt8.toNat r12):Nat):Int)) (a.2.1+(Int.toNat (IntKind.wrap .i64 (nd-6)))) (((UInt8.toNat r13):Nat):Int)) (a.2.1+(Int.toNat (IntKind.wrap .i64 (nd-7)))) (((UInt8.toNat r18):Nat):Int)))[(a.2.1+(Int.toNat (IntKind.wrap .i64 (nd-8))))]?) fun r23 =>
 strconv_formatBase10_l1 n f (((List.set (List.set (List.set (List.set (List.set (List.set (List.set (List.set a.1 (a.2.1+(Int.toNat (IntKind.wrap .i64 (nd-1)))) (((UInt8.toNat r0):Nat):Int)) (a.2.1+(Int.toNat (IntKind.wrap .i64 (nd-2)))) (((UInt8.toNat r1):Nat):Int)) (a.2.1+(Int.toNat (IntKind.wrap .i64 (nd-3)))) (((UInt8.toNat r6):Nat):Int)) (a.2.1+(Int.toNat (IntKind.wrap .i64 (nd-4)))) (((UInt8.toNat r7):Nat):Int)) (a.2.1+(Int.toNat (IntKind.wrap .i64 (nd-5)))) (((UInt8.toNat r12):Nat):Int)) (a.2.1+(Int.toNat (IntKind.wrap .i64 (nd-6)))) (((UInt8.toNat r13):Nat):Int)) (a.2.1+(Int.toNat (IntKind.wrap .i64 (nd-7)))) (((UInt8.toNat r18):Nat):Int)) (a.2.1+(Int.toNat (IntKind.wrap .i64 (nd-8)))) (((UInt8.toNat r19):Nat):Int)),a.2),((IntKind.wrap .u64 (Int.tdiv u (100000000:Int))),((IntKind.wrap .i64 (nd-8)),())))) (
 some (.inl (a,(u,(nd,()))))):=by kernel_rfl
end Go.Proofs.YtjionkknnajjgaaGreatDoor
