/- Trees, printed by program. -/
import Derived.Test.YtgcaeappeolhjaaDoorTr0
import Derived.KernelRfl
set_option linter.unusedVariables false
namespace Go.Proofs.YtgcaeappeolhjaaDoor
open Go.Flat
theorem l29_ScriptBack_eq (n:Nat) (a:TAct) (text:List UInt8):l29_ScriptBack (n+1) a text =
 obind (l29_lives n ) fun r0 =>
 tif ((!r0)) (
 some false) (
 obind (l05_Small n a.2.1) fun r1 =>
 tif ((decide (r1=0))) (
 some true) (
 tif ((decide ((32768:Int)<(((List.length text):Nat):Int)))) (
 some true) (
 obind (script_Line n a) fun r2 =>
 obind (script_Parse n r2.1) fun r3 =>
 tif ((decide (r2.2=0))) (
 tif ((!(decide (r3.2=0)))) (
 some false) (
 obind (r29_Same n a r3.1) fun r4 =>
 tif ((!r4)) (
 some false) (
 obind (script_Get n text) fun r5 =>
 tif ((!(decide (r5.2.2=0)))) (
 tif ((decide ((((List.length r5.1):Nat):Int)=0))) (
 some (decide ((1:Int)≤r5.2.1))) (
 some false)) (
 obind (script_Put n r5.1) fun r6 =>
 tif ((decide (r6.2=0))) (
 tif ((r6.1==text)) (
 some (decide (r5.2.1=0))) (
 some false)) (
 some false))))) (
 obind (script_Get n text) fun r7 =>
 tif ((!(decide (r7.2.2=0)))) (
 tif ((decide ((((List.length r7.1):Nat):Int)=0))) (
 some (decide ((1:Int)≤r7.2.1))) (
 some false)) (
 obind (script_Put n r7.1) fun r8 =>
 tif ((decide (r8.2=0))) (
 tif ((r8.1==text)) (
 some (decide (r7.2.1=0))) (
 some false)) (
 some false)))))):=by kernel_rfl
theorem l05_Small_eq (n:Nat) (l:(List (List UInt8×List UInt8))):l05_Small (n+1) l =
 obind (l05_Small_l2 n loopFuel (l,((((List.length l):Nat):Int),((0:Int),())))) fun r0 =>
 selim (fun y1 =>
 some (1:Int)) (fun z2 =>
 some z2) r0:=by kernel_rfl
theorem l05_Small_l2_eq (n f:Nat) (s5:(List (List UInt8×List UInt8))) (s6:Int) (s7:Int):l05_Small_l2 n (f+1) (s5,s6,s7,()) =
 tif ((decide (s7<s6))) (
 obind (at? s5 s7) fun r0 =>
 tif ((decide (s7=40))) (
 some (.inr (0:Int))) (
 tif ((decide ((1000:Int)<(((List.length r0.1):Nat):Int)))) (
 some (.inr (0:Int))) (
 tif ((decide ((1000:Int)<(((List.length r0.2):Nat):Int)))) (
 some (.inr (0:Int))) (
 l05_Small_l2 n f (s5,(s6,((IntKind.wrap .i64 (s7+1)),()))))))) (
 some (.inl ())):=by kernel_rfl
theorem script_Line_eq (n:Nat) (a:TAct):script_Line (n+1) a =
 obind (script_writer_act n ([],(false,((0:Int),([],(((0:Int),((0:Int),((0:Int),false))),((0:Int),((0:Int),((0:Int),(0:Int))))))))) a) fun r0 =>
 tif (r0.2.1) (
 some ([],(2:Int))) (
 tif ((decide ((4096:Int)<(((List.length r0.1):Nat):Int)))) (
 some ([],(2:Int))) (
 obind (script_Same n a r0.2.2) fun r1 =>
 tif ((!r1)) (
 some ([],(2:Int))) (
 some ((List.map (fun y2=>(UInt8.ofNat (Int.toNat y2))) r0.1),(0:Int))))):=by kernel_rfl
theorem script_Parse_eq (n:Nat) (line:List UInt8):script_Parse (n+1) line =
 tif ((decide ((4096:Int)<(((List.length line):Nat):Int)))) (
 some (((0:Int),([],(((0:Int),((0:Int),((0:Int),false))),((0:Int),((0:Int),((0:Int),(0:Int))))))),(4:Int))) (
 obind (script_reader_act n (line,false)) fun r0 =>
 obind (script_Line n r0.1) fun r1 =>
 tif (r0.2.2) (
 some (((0:Int),([],(((0:Int),((0:Int),((0:Int),false))),((0:Int),((0:Int),((0:Int),(0:Int))))))),(4:Int))) (
 tif ((!(decide (r1.2=0)))) (
 some (((0:Int),([],(((0:Int),((0:Int),((0:Int),false))),((0:Int),((0:Int),((0:Int),(0:Int))))))),(4:Int))) (
 tif ((!(r1.1==line))) (
 some (((0:Int),([],(((0:Int),((0:Int),((0:Int),false))),((0:Int),((0:Int),((0:Int),(0:Int))))))),(4:Int))) (
 some (r0.1,(0:Int)))))):=by kernel_rfl
theorem r29_Same_eq (n:Nat) (a:TAct) (b:TAct):r29_Same (n+1) a b =
 tif ((decide (a.1=b.1))) (
 obind (r05_Same n a.2.1 b.2.1) fun r0 =>
 tif (r0) (
 tif (((decide (a.2.2.1.1=b.2.2.1.1))&&((decide (a.2.2.1.2.1=b.2.2.1.2.1))&&((decide (a.2.2.1.2.2.1=b.2.2.1.2.2.1))&&(a.2.2.1.2.2.2==b.2.2.1.2.2.2))))) (
 tif ((decide (a.2.2.2.1=b.2.2.2.1))) (
 tif ((decide (a.2.2.2.2.1=b.2.2.2.2.1))) (
 tif ((decide (a.2.2.2.2.2.1=b.2.2.2.2.2.1))) (
 some (decide (a.2.2.2.2.2.2=b.2.2.2.2.2.2))) (
 some false)) (
 some false)) (
 some false)) (
 some false)) (
 some false)) (
 some false):=by kernel_rfl
theorem script_Get_eq (n:Nat) (text:List UInt8):script_Get (n+1) text =
 obind (script_Get_l2 n loopFuel (text,([],()))) fun r0 =>
 selim (fun y1 =>
 some (y1.1,((0:Int),(0:Int)))) (fun z2 =>
 some z2) r0:=by kernel_rfl
theorem script_Get_l2_eq (n f:Nat) (text:List UInt8) (out:(List TAct)):script_Get_l2 n (f+1) (text,out,()) =
 tif ((!(text==[]))) (
 obind (strings_Cut n text ((10:UInt8)::[])) fun r0 =>
 obind (script_Parse n r0.1) fun r1 =>
 tif ((!(decide (r1.2=0)))) (
 some (.inr ([],((IntKind.wrap .i64 ((((List.length out):Nat):Int)+1)),(4:Int))))) (
 tif ((!r0.2.2)) (
 some (.inr ([],((IntKind.wrap .i64 ((((List.length out):Nat):Int)+1)),(4:Int))))) (
 tif ((decide ((((List.length out):Nat):Int)=4096))) (
 some (.inr ([],((IntKind.wrap .i64 ((((List.length out):Nat):Int)+1)),(4:Int))))) (
 tif ((decide ((((List.length out)+1)*96)≤140737488355328))) (
 script_Get_l2 n f (r0.2.1,((out++(r1.1::[])),()))) (
 none))))) (
 some (.inl (out,()))):=by kernel_rfl
theorem script_Put_eq (n:Nat) (acts:(List TAct)):script_Put (n+1) acts =
 tif ((decide ((4096:Int)<(((List.length acts):Nat):Int)))) (
 some ([],(6:Int))) (
 obind (script_Put_l5 n loopFuel ([],(acts,((((List.length acts):Nat):Int),((0:Int),()))))) fun r0 =>
 selim (fun y1 =>
 obind (strings_Builder_String n y1.1) fun r2 =>
 some (r2.1,(0:Int))) (fun z3 =>
 some z3) r0):=by kernel_rfl
theorem script_Put_l5_eq (n f:Nat) (b:List UInt8) (s12:(List TAct)) (s13:Int) (s14:Int):script_Put_l5 n (f+1) (b,s12,s13,s14,()) =
 tif ((decide (s14<s13))) (
 obind (at? s12 s14) fun r0 =>
 obind (script_Line n r0) fun r1 =>
 tif ((!(decide (r1.2=0)))) (
 some (.inr ([],r1.2))) (
 obind (strings_Builder_WriteString n b r1.1) fun r2 =>
 obind (strings_Builder_WriteByte n r2.2.2 (10:Int)) fun r3 =>
 script_Put_l5 n f (r3.2,(s12,(s13,((IntKind.wrap .i64 (s14+1)),())))))) (
 some (.inl (b,()))):=by kernel_rfl
theorem script_Same_eq (n:Nat) (a:TAct) (b:TAct):script_Same (n+1) a b =
 tif ((decide (a.1=b.1))) (
 obind (label_Same n a.2.1 b.2.1) fun r0 =>
 tif (r0) (
 tif (((decide (a.2.2.1.1=b.2.2.1.1))&&((decide (a.2.2.1.2.1=b.2.2.1.2.1))&&((decide (a.2.2.1.2.2.1=b.2.2.1.2.2.1))&&(a.2.2.1.2.2.2==b.2.2.1.2.2.2))))) (
 tif ((decide (a.2.2.2.1=b.2.2.2.1))) (
 tif ((decide (a.2.2.2.2.1=b.2.2.2.2.1))) (
 tif ((decide (a.2.2.2.2.2.1=b.2.2.2.2.2.1))) (
 some (decide (a.2.2.2.2.2.2=b.2.2.2.2.2.2))) (
 some false)) (
 some false)) (
 some false)) (
 some false)) (
 some false)) (
 some false):=by kernel_rfl
theorem script_writer_act_eq (n:Nat) (w:Tscript_writer) (a:TAct):script_writer_act (n+1) w a =
 tif ((decide (a.1=1))) (
 obind (script_writer_event n (w.1,(w.2.1,(a.1,w.2.2.2))) a.2.2.1) fun r0 =>
 obind (script_writer_labels n r0 a.2.1) fun r1 =>
 some r1) (
 tif ((decide (a.1=5))) (
 obind (script_writer_word n (w.1,(w.2.1,(a.1,w.2.2.2))) ((97:UInt8)::((115:UInt8)::((107:UInt8)::[])))) fun r2 =>
 obind (script_writer_span n r2 a) fun r3 =>
 obind (script_writer_labels n r3 a.2.1) fun r4 =>
 some r4) (
 tif ((decide (a.1=6))) (
 obind (script_writer_word n (w.1,(w.2.1,(a.1,w.2.2.2))) ((116:UInt8)::((111:UInt8)::((116:UInt8)::((97:UInt8)::((108:UInt8)::[])))))) fun r5 =>
 obind (script_writer_span n r5 a) fun r6 =>
 some r6) (
 obind (script_plain n a.1) fun r7 =>
 obind (script_writer_word n (w.1,(w.2.1,(a.1,w.2.2.2))) r7.1) fun r8 =>
 tif (r8.2.1) (
 tif (r7.2) (
 obind (script_writer_nums n (r8.1,(true,r8.2.2)) (a.2.2.2.2.2.2::[])) fun r9 =>
 some (r9.1,(r9.2.1,(r9.2.2.1,(r9.2.2.2.1,(r9.2.2.2.2.1,(r9.2.2.2.2.2.1,(r9.2.2.2.2.2.2.1,(r9.2.2.2.2.2.2.2.1,a.2.2.2.2.2.2))))))))) (
 some (r8.1,(true,r8.2.2)))) (
 tif (r7.2) (
 obind (script_writer_nums n (r8.1,((r7.1==[]),r8.2.2)) (a.2.2.2.2.2.2::[])) fun r10 =>
 some (r10.1,(r10.2.1,(r10.2.2.1,(r10.2.2.2.1,(r10.2.2.2.2.1,(r10.2.2.2.2.2.1,(r10.2.2.2.2.2.2.1,(r10.2.2.2.2.2.2.2.1,a.2.2.2.2.2.2))))))))) (
 some (r8.1,((r7.1==[]),r8.2.2))))))):=by kernel_rfl
theorem script_reader_act_eq (n:Nat) (r:(List UInt8×Bool)):script_reader_act (n+1) r =
 obind (script_reader_word n r) fun r0 =>
 tif ((r0.1==((119:UInt8)::((114:UInt8)::((105:UInt8)::((116:UInt8)::((101:UInt8)::[]))))))) (
 obind (script_reader_big n r0.2 (64:Int)) fun r1 =>
 obind (script_reader_num n r1.2) fun r2 =>
 obind (script_reader_num n r2.2) fun r3 =>
 obind (script_reader_labels n r3.2) fun r4 =>
 some (((1:Int),(r4.1,((r2.1,(r1.1,(r3.1,false))),((0:Int),((0:Int),((0:Int),(0:Int))))))),r4.2)) (
 tif ((r0.1==((115:UInt8)::((116:UInt8)::((97:UInt8)::((108:UInt8)::((101:UInt8)::[]))))))) (
 obind (script_reader_num n r0.2) fun r5 =>
 obind (script_reader_labels n r5.2) fun r6 =>
 some (((1:Int),(r6.1,((r5.1,((0:Int),((0:Int),true))),((0:Int),((0:Int),((0:Int),(0:Int))))))),r6.2)) (
 tif ((r0.1==((97:UInt8)::((115:UInt8)::((107:UInt8)::[]))))) (
 obind (script_reader_num n r0.2) fun r7 =>
 obind (script_reader_num n r7.2) fun r8 =>
 obind (script_reader_num n r8.2) fun r9 =>
 obind (script_reader_labels n r9.2) fun r10 =>
 some (((5:Int),(r10.1,(((0:Int),((0:Int),((0:Int),false))),(r7.1,(r8.1,(r9.1,(0:Int))))))),r10.2)) (
 tif ((r0.1==((116:UInt8)::((111:UInt8)::((116:UInt8)::((97:UInt8)::((108:UInt8)::[]))))))) (
 obind (script_reader_num n r0.2) fun r11 =>
 obind (script_reader_num n r11.2) fun r12 =>
 obind (script_reader_num n r12.2) fun r13 =>
 some (((6:Int),([],(((0:Int),((0:Int),((0:Int),false))),(r11.1,(r12.1,(r13.1,(0:Int))))))),r13.2)) (
 tif ((r0.1==((116:UInt8)::((105:UInt8)::((99:UInt8)::((107:UInt8)::[])))))) (
 obind (script_reader_num n r0.2) fun r14 =>
 some (((2:Int),([],(((0:Int),((0:Int),((0:Int),false))),((0:Int),((0:Int),((0:Int),r14.1)))))),r14.2)) (
 tif ((r0.1==((97:UInt8)::((114:UInt8)::((109:UInt8)::[]))))) (
 obind (script_reader_num n r0.2) fun r15 =>
 some (((8:Int),([],(((0:Int),((0:Int),((0:Int),false))),((0:Int),((0:Int),((0:Int),r15.1)))))),r15.2)) (
 tif ((r0.1==((108:UInt8)::((111:UInt8)::((97:UInt8)::((100:UInt8)::[])))))) (
 obind (script_reader_num n r0.2) fun r16 =>
 some (((9:Int),([],(((0:Int),((0:Int),((0:Int),false))),((0:Int),((0:Int),((0:Int),r16.1)))))),r16.2)) (
 tif ((r0.1==((115:UInt8)::((119:UInt8)::((101:UInt8)::((101:UInt8)::((112:UInt8)::[]))))))) (
 some (((3:Int),([],(((0:Int),((0:Int),((0:Int),false))),((0:Int),((0:Int),((0:Int),(0:Int))))))),r0.2)) (
 tif ((r0.1==((102:UInt8)::((108:UInt8)::((117:UInt8)::((115:UInt8)::((104:UInt8)::[]))))))) (
 some (((4:Int),([],(((0:Int),((0:Int),((0:Int),false))),((0:Int),((0:Int),((0:Int),(0:Int))))))),r0.2)) (
 tif ((r0.1==((100:UInt8)::((117:UInt8)::((109:UInt8)::((112:UInt8)::[])))))) (
 some (((7:Int),([],(((0:Int),((0:Int),((0:Int),false))),((0:Int),((0:Int),((0:Int),(0:Int))))))),r0.2)) (
 some (((0:Int),([],(((0:Int),((0:Int),((0:Int),false))),((0:Int),((0:Int),((0:Int),(0:Int))))))),(r0.2.1,true)))))))))))):=by kernel_rfl
theorem r05_Same_eq (n:Nat) (a:(List (List UInt8×List UInt8))) (b:(List (List UInt8×List UInt8))):r05_Same (n+1) a b =
 tif ((!(decide ((((List.length a):Nat):Int)=(((List.length b):Nat):Int))))) (
 some false) (
 obind (r05_Same_l4 n loopFuel (a,(b,((((List.length a):Nat):Int),((0:Int),()))))) fun r0 =>
 selim (fun y1 =>
 some true) (fun z2 =>
 some z2) r0):=by kernel_rfl
theorem r05_Same_l4_eq (n f:Nat) (a:(List (List UInt8×List UInt8))) (b:(List (List UInt8×List UInt8))) (s12:Int) (s13:Int):r05_Same_l4 n (f+1) (a,b,s12,s13,()) =
 tif ((decide (s13<s12))) (
 obind (at? a s13) fun r0 =>
 obind (at? b s13) fun r1 =>
 tif ((!((r0.1==r1.1)&&(r0.2==r1.2)))) (
 some (.inr false)) (
 r05_Same_l4 n f (a,(b,(s12,((IntKind.wrap .i64 (s13+1)),())))))) (
 some (.inl ())):=by kernel_rfl
theorem strings_Cut_eq (n:Nat) (s:List UInt8) (sep:List UInt8):strings_Cut (n+1) s sep =
 obind (stringslite_Cut n s sep) fun r0 =>
 some r0:=by kernel_rfl
theorem label_Parse_eq (n:Nat) (s:List UInt8):label_Parse (n+1) s =
 obind (strings_CutPrefix n s ((123:UInt8)::[])) fun r0 =>
 obind (label_Parse_l3 n loopFuel (r0.1,(r0.2,([],())))) fun r1 =>
 selim (fun y2 =>
 tif ((!y2.2.1)) (
 some ([],(4:Int))) (
 tif ((!(y2.1==((125:UInt8)::[])))) (
 some ([],(4:Int))) (
 obind (label_Check n y2.2.2.1) fun r3 =>
 tif ((!(decide (r3=0)))) (
 some ([],(4:Int))) (
 some (y2.2.2.1,(0:Int)))))) (fun z4 =>
 some z4) r1:=by kernel_rfl
theorem label_Parse_l3_eq (n f:Nat) (rest:List UInt8) (ok:Bool) (out:(List (List UInt8×List UInt8))):label_Parse_l3 n (f+1) (rest,ok,out,()) =
 tif (ok) (
 tif ((!(rest==((125:UInt8)::[])))) (
 tif ((decide ((((List.length out):Nat):Int)≤16))) (
 tif ((decide ((0:Int)<(((List.length out):Nat):Int)))) (
 obind (strings_CutPrefix n rest ((44:UInt8)::[])) fun r0 =>
 tif ((!r0.2)) (
 some (.inl (r0.1,(r0.2,(out,()))))) (
 obind (strings_Cut n r0.1 ((61:UInt8)::((34:UInt8)::[]))) fun r1 =>
 obind (label_unquote n r1.2.1) fun r2 =>
 tif ((decide ((((List.length out)+1)*32)≤140737488355328))) (
 tif (r1.2.2) (
 label_Parse_l3 n f (r2.2.1,(r2.2.2,((out++((r1.1,r2.1)::[])),())))) (
 label_Parse_l3 n f (r2.2.1,(false,((out++((r1.1,r2.1)::[])),()))))) (
 none))) (
 obind (strings_Cut n rest ((61:UInt8)::((34:UInt8)::[]))) fun r3 =>
 obind (label_unquote n r3.2.1) fun r4 =>
 tif ((decide ((((List.length out)+1)*32)≤140737488355328))) (
 tif (r3.2.2) (
 label_Parse_l3 n f (r4.2.1,(r4.2.2,((out++((r3.1,r4.1)::[])),())))) (
 label_Parse_l3 n f (r4.2.1,(false,((out++((r3.1,r4.1)::[])),()))))) (
 none))) (
 some (.inl (rest,(ok,(out,())))))) (
 some (.inl (rest,(ok,(out,())))))) (
 some (.inl (rest,(ok,(out,()))))):=by kernel_rfl
theorem label_Text_eq (n:Nat) (l:(List (List UInt8×List UInt8))):label_Text (n+1) l =
 obind (label_Check n l) fun r0 =>
 tif ((!(decide (r0=0)))) (
 some ([],r0)) (
 obind (label_Text_l7 n loopFuel ([],((123:Int),(l,((((List.length l):Nat):Int),((0:Int),())))))) fun r1 =>
 selim (fun y2 =>
 obind (strings_Builder_WriteByte n y2.1 (125:Int)) fun r3 =>
 obind (strings_Builder_String n r3.2) fun r4 =>
 some (r4.1,(0:Int))) (fun z5 =>
 some z5) r1):=by kernel_rfl
theorem label_Text_l7_eq (n f:Nat) (b:List UInt8) (ahead:Int) (s14:(List (List UInt8×List UInt8))) (s15:Int) (s16:Int):label_Text_l7 n (f+1) (b,ahead,s14,s15,s16,()) =
 tif ((decide (s16<s15))) (
 obind (at? s14 s16) fun r0 =>
 obind (strings_Builder_WriteByte n b ahead) fun r1 =>
 obind (strings_Builder_WriteString n r1.2 r0.1) fun r2 =>
 obind (strings_Builder_WriteByte n r2.2.2 (61:Int)) fun r3 =>
 obind (label_quote n r3.2 r0.2) fun r4 =>
 label_Text_l7 n f (r4,((44:Int),(s14,(s15,((IntKind.wrap .i64 (s16+1)),())))))) (
 some (.inl (b,()))):=by kernel_rfl
theorem strconv_AppendUint_eq (n:Nat) (dst:(List Int)) (i:Int) (base:Int):strconv_AppendUint (n+1) dst i base =
 obind (strconv_AppendUint_ n dst i base) fun r0 =>
 some r0:=by kernel_rfl
theorem strconv_AppendInt_eq (n:Nat) (dst:(List Int)) (i:Int) (base:Int):strconv_AppendInt (n+1) dst i base =
 obind (strconv_AppendInt_ n dst i base) fun r0 =>
 some r0:=by kernel_rfl
theorem label_Same_eq (n:Nat) (a:(List (List UInt8×List UInt8))) (b:(List (List UInt8×List UInt8))):label_Same (n+1) a b =
 obind (sl_Equal_Label n a b) fun r0 =>
 some r0:=by kernel_rfl
theorem script_writer_event_eq (n:Nat) (w:Tscript_writer) (e:TEvent):script_writer_event (n+1) w e =
 tif (e.2.2.2) (
 obind (script_writer_word n (w.1,(w.2.1,(w.2.2.1,(w.2.2.2.1,((e.1,((0:Int),((0:Int),true))),w.2.2.2.2.2))))) ((115:UInt8)::((116:UInt8)::((97:UInt8)::((108:UInt8)::((101:UInt8)::[])))))) fun r0 =>
 obind (script_writer_nums n r0 (e.1::[])) fun r1 =>
 some r1) (
 obind (script_writer_word n (w.1,(w.2.1,(w.2.2.1,(w.2.2.2.1,(e,w.2.2.2.2.2))))) ((119:UInt8)::((114:UInt8)::((105:UInt8)::((116:UInt8)::((101:UInt8)::[])))))) fun r2 =>
 obind (strconv_AppendUint n [] e.2.1 (10:Int)) fun r3 =>
 obind (script_writer_word n r2 (List.map (fun y4=>(UInt8.ofNat (Int.toNat y4))) r3)) fun r5 =>
 obind (script_writer_nums n r5 (e.1::(e.2.2.1::[]))) fun r6 =>
 some r6):=by kernel_rfl
theorem script_writer_labels_eq (n:Nat) (w:Tscript_writer) (l:(List (List UInt8×List UInt8))):script_writer_labels (n+1) w l =
 obind (label_Text n l) fun r0 =>
 tif (w.2.1) (
 obind (script_writer_word n (w.1,(true,w.2.2)) r0.1) fun r1 =>
 some (r1.1,(r1.2.1,(r1.2.2.1,(l,r1.2.2.2.2))))) (
 obind (script_writer_word n (w.1,((!(decide (r0.2=0))),w.2.2)) r0.1) fun r2 =>
 some (r2.1,(r2.2.1,(r2.2.2.1,(l,r2.2.2.2.2))))):=by kernel_rfl
theorem script_writer_word_eq (n:Nat) (w:Tscript_writer) (s:List UInt8):script_writer_word (n+1) w s =
 tif ((decide ((0:Int)<(((List.length w.1):Nat):Int)))) (
 tif ((decide ((((List.length w.1)+1)*1)≤140737488355328))) (
 tif ((decide ((((List.length (w.1++((32:Int)::[])))+(List.length (List.map (fun y1=>(((UInt8.toNat y1):Nat):Int)) s)))*1)≤140737488355328))) (
 some (((w.1++((32:Int)::[]))++(List.map (fun y0=>(((UInt8.toNat y0):Nat):Int)) s)),w.2)) (
 none)) (
 none)) (
 tif ((decide ((((List.length w.1)+(List.length (List.map (fun y3=>(((UInt8.toNat y3):Nat):Int)) s)))*1)≤140737488355328))) (
 some ((w.1++(List.map (fun y2=>(((UInt8.toNat y2):Nat):Int)) s)),w.2)) (
 none)):=by kernel_rfl
theorem script_writer_span_eq (n:Nat) (w:Tscript_writer) (a:TAct):script_writer_span (n+1) w a =
 obind (script_writer_nums n w (a.2.2.2.1::(a.2.2.2.2.1::(a.2.2.2.2.2.1::[])))) fun r0 =>
 some (r0.1,(r0.2.1,(r0.2.2.1,(r0.2.2.2.1,(r0.2.2.2.2.1,(a.2.2.2.1,(a.2.2.2.2.1,(a.2.2.2.2.2.1,r0.2.2.2.2.2.2.2.2)))))))):=by kernel_rfl
theorem script_plain_eq (n:Nat) (k:Int):script_plain (n+1) k =
 tif ((decide (k=2))) (
 some (((116:UInt8)::((105:UInt8)::((99:UInt8)::((107:UInt8)::[])))),true)) (
 tif ((decide (k=8))) (
 some (((97:UInt8)::((114:UInt8)::((109:UInt8)::[]))),true)) (
 tif ((decide (k=9))) (
 some (((108:UInt8)::((111:UInt8)::((97:UInt8)::((100:UInt8)::[])))),true)) (
 tif ((decide (k=3))) (
 some (((115:UInt8)::((119:UInt8)::((101:UInt8)::((101:UInt8)::((112:UInt8)::[]))))),false)) (
 tif ((decide (k=4))) (
 some (((102:UInt8)::((108:UInt8)::((117:UInt8)::((115:UInt8)::((104:UInt8)::[]))))),false)) (
 tif ((decide (k=7))) (
 some (((100:UInt8)::((117:UInt8)::((109:UInt8)::((112:UInt8)::[])))),false)) (
 some ([],false))))))):=by kernel_rfl
theorem script_writer_nums_eq (n:Nat) (w:Tscript_writer) (l:(List Int)):script_writer_nums (n+1) w l =
 obind (script_writer_nums_l1 n loopFuel (w,(l,((((List.length l):Nat):Int),((0:Int),()))))) fun r0 =>
 selim (fun y1 =>
 some y1.1) (fun z2 =>
 some z2) r0:=by kernel_rfl
theorem script_writer_nums_l1_eq (n f:Nat) (w:Tscript_writer) (s6:(List Int)) (s7:Int) (s8:Int):script_writer_nums_l1 n (f+1) (w,s6,s7,s8,()) =
 tif ((decide (s8<s7))) (
 obind (at? s6 s8) fun r0 =>
 tif (w.2.1) (
 obind (strconv_AppendInt n [] r0 (10:Int)) fun r1 =>
 obind (script_writer_word n (w.1,(true,w.2.2)) (List.map (fun y2=>(UInt8.ofNat (Int.toNat y2))) r1)) fun r3 =>
 script_writer_nums_l1 n f (r3,(s6,(s7,((IntKind.wrap .i64 (s8+1)),()))))) (
 obind (strconv_AppendInt n [] r0 (10:Int)) fun r4 =>
 obind (script_writer_word n (w.1,((decide (r0<0)),w.2.2)) (List.map (fun y5=>(UInt8.ofNat (Int.toNat y5))) r4)) fun r6 =>
 script_writer_nums_l1 n f (r6,(s6,(s7,((IntKind.wrap .i64 (s8+1)),())))))) (
 some (.inl (w,()))):=by kernel_rfl
theorem script_reader_word_eq (n:Nat) (r:(List UInt8×Bool)):script_reader_word (n+1) r =
 obind (strings_Cut n r.1 ((32:UInt8)::[])) fun r0 =>
 some (r0.1,(r0.2.1,r.2)):=by kernel_rfl
theorem script_reader_big_eq (n:Nat) (r:(List UInt8×Bool)) (bits:Int):script_reader_big (n+1) r bits =
 obind (script_reader_word n r) fun r0 =>
 obind (strconv_ParseUint n r0.1 (10:Int) bits) fun r1 =>
 tif (r0.2.2) (
 some (r1.1,(r0.2.1,true))) (
 some (r1.1,(r0.2.1,r1.2))):=by kernel_rfl
theorem script_reader_num_eq (n:Nat) (r:(List UInt8×Bool)):script_reader_num (n+1) r =
 obind (script_reader_big n r (63:Int)) fun r0 =>
 some ((IntKind.wrap .i64 r0.1),r0.2):=by kernel_rfl
theorem script_reader_labels_eq (n:Nat) (r:(List UInt8×Bool)):script_reader_labels (n+1) r =
 obind (label_Parse n r.1) fun r0 =>
 tif (r.2) (
 some (r0.1,(r.1,true))) (
 some (r0.1,(r.1,(!(decide (r0.2=0)))))):=by kernel_rfl
theorem stringslite_Cut_eq (n:Nat) (s:List UInt8) (sep:List UInt8):stringslite_Cut (n+1) s sep =
 obind (stringslite_Index n s sep) fun r0 =>
 tif ((decide ((0:Int)≤r0))) (
 tif (((decide ((0:Int)≤r0))&&(decide (r0≤(((List.length s):Nat):Int))))) (
 tif ((decide ((0:Int)≤(IntKind.wrap .i64 (r0+(((List.length sep):Nat):Int)))))) (
 tif ((decide ((Int.toNat (IntKind.wrap .i64 (r0+(((List.length sep):Nat):Int))))≤(List.length s)))) (
 some ((List.drop 0 (List.take (Int.toNat r0) s)),((List.drop (Int.toNat (IntKind.wrap .i64 (r0+(((List.length sep):Nat):Int)))) (List.take (List.length s) s)),true))) (
 none)) (
 none)) (
 none)) (
 some (s,([],false))):=by kernel_rfl
theorem strings_CutPrefix_eq (n:Nat) (s:List UInt8) (prefix_:List UInt8):strings_CutPrefix (n+1) s prefix_ =
 obind (stringslite_CutPrefix n s prefix_) fun r0 =>
 some r0:=by kernel_rfl
theorem label_unquote_eq (n:Nat) (s:List UInt8):label_unquote (n+1) s =
 obind (label_unquote_l3 n loopFuel (s,([],((0:Int),())))) fun r0 =>
 selim (fun y1 =>
 some ([],([],false))) (fun z2 =>
 some z2) r0:=by kernel_rfl
theorem label_unquote_l3_eq (n f:Nat) (s:List UInt8) (b:(List Int)) (i:Int):label_unquote_l3 n (f+1) (s,b,i,()) =
 tif ((decide (i<(((List.length s):Nat):Int)))) (
 obind (at? s i) fun r0 =>
 tif ((decide ((((UInt8.toNat r0):Nat):Int)=34))) (
 tif ((decide ((0:Int)≤(IntKind.wrap .i64 (i+1))))) (
 tif ((decide ((Int.toNat (IntKind.wrap .i64 (i+1)))≤(List.length s)))) (
 some (.inr ((List.map (fun y1=>(UInt8.ofNat (Int.toNat y1))) b),((List.drop (Int.toNat (IntKind.wrap .i64 (i+1))) (List.take (List.length s) s)),true)))) (
 none)) (
 none)) (
 tif ((decide ((((UInt8.toNat r0):Nat):Int)=10))) (
 some (.inr ([],([],false)))) (
 tif ((!(decide ((((UInt8.toNat r0):Nat):Int)=92)))) (
 tif ((decide ((((List.length b)+1)*1)≤140737488355328))) (
 label_unquote_l3 n f (s,((b++((((UInt8.toNat r0):Nat):Int)::[])),((IntKind.wrap .i64 (i+1)),())))) (
 none)) (
 tif ((decide ((IntKind.wrap .i64 (i+1))=(((List.length s):Nat):Int)))) (
 some (.inr ([],([],false)))) (
 obind (at? s (IntKind.wrap .i64 (i+1))) fun r2 =>
 tif ((decide ((((UInt8.toNat r2):Nat):Int)=110))) (
 tif ((decide ((((List.length b)+1)*1)≤140737488355328))) (
 label_unquote_l3 n f (s,((b++((10:Int)::[])),((IntKind.wrap .i64 ((IntKind.wrap .i64 (i+1))+1)),())))) (
 none)) (
 tif ((decide ((((UInt8.toNat r2):Nat):Int)=34))) (
 tif ((decide ((((UInt8.toNat r2):Nat):Int)=34))) (
 obind (at? s (IntKind.wrap .i64 (i+1))) fun r3 =>
 tif ((decide ((((List.length b)+1)*1)≤140737488355328))) (
 label_unquote_l3 n f (s,((b++((((UInt8.toNat r3):Nat):Int)::[])),((IntKind.wrap .i64 ((IntKind.wrap .i64 (i+1))+1)),())))) (
 none)) (
 some (.inr ([],([],false))))) (
 tif ((decide ((((UInt8.toNat r2):Nat):Int)=92))) (
 obind (at? s (IntKind.wrap .i64 (i+1))) fun r4 =>
 tif ((decide ((((List.length b)+1)*1)≤140737488355328))) (
 label_unquote_l3 n f (s,((b++((((UInt8.toNat r4):Nat):Int)::[])),((IntKind.wrap .i64 ((IntKind.wrap .i64 (i+1))+1)),())))) (
 none)) (
 some (.inr ([],([],false))))))))))) (
 some (.inl ())):=by kernel_rfl
theorem label_Check_eq (n:Nat) (l:(List (List UInt8×List UInt8))):label_Check (n+1) l =
 tif ((decide ((((List.length l):Nat):Int)=0))) (
 some (8:Int)) (
 tif ((decide ((16:Int)<(((List.length l):Nat):Int)))) (
 some (8:Int)) (
 obind (label_Check_l5 n loopFuel (l,((256:Int),(l,((((List.length l):Nat):Int),((0:Int),())))))) fun r0 =>
 selim (fun y1 =>
 some (0:Int)) (fun z2 =>
 some z2) r0)):=by kernel_rfl
theorem label_Check_l5_eq (n f:Nat) (l:(List (List UInt8×List UInt8))) (left:Int) (s14:(List (List UInt8×List UInt8))) (s15:Int) (s16:Int):label_Check_l5 n (f+1) (l,left,s14,s15,s16,()) =
 tif ((decide (s16<s15))) (
 obind (at? s14 s16) fun r0 =>
 obind (label_name n r0.1) fun r1 =>
 tif ((!r1)) (
 some (.inr (8:Int))) (
 tif ((decide ((128:Int)<(((List.length r0.2):Nat):Int)))) (
 some (.inr (8:Int))) (
 tif ((decide ((IntKind.wrap .i64 (left-(IntKind.wrap .i64 ((((List.length r0.1):Nat):Int)+(((List.length r0.2):Nat):Int)))))<0))) (
 some (.inr (8:Int))) (
 tif ((decide ((0:Int)<s16))) (
 obind (at? l (IntKind.wrap .i64 (s16-1))) fun r2 =>
 tif ((!(Go.Op.bytesLess r2.1 r0.1))) (
 some (.inr (8:Int))) (
 label_Check_l5 n f (l,((IntKind.wrap .i64 (left-(IntKind.wrap .i64 ((((List.length r0.1):Nat):Int)+(((List.length r0.2):Nat):Int))))),(s14,(s15,((IntKind.wrap .i64 (s16+1)),()))))))) (
 label_Check_l5 n f (l,((IntKind.wrap .i64 (left-(IntKind.wrap .i64 ((((List.length r0.1):Nat):Int)+(((List.length r0.2):Nat):Int))))),(s14,(s15,((IntKind.wrap .i64 (s16+1)),())))))))))) (
 some (.inl ())):=by kernel_rfl
theorem label_quote_eq (n:Nat) (b:List UInt8) (s:List UInt8):label_quote (n+1) b s =
 obind (strings_Builder_WriteByte n b (34:Int)) fun r0 =>
 obind (label_quote_l2 n loopFuel (r0.2,((List.map (fun y1=>(((UInt8.toNat y1):Nat):Int)) s),((((List.length (List.map (fun y2=>(((UInt8.toNat y2):Nat):Int)) s)):Nat):Int),((0:Int),()))))) fun r3 =>
 selim (fun y4 =>
 obind (strings_Builder_WriteByte n y4.1 (34:Int)) fun r5 =>
 some r5.2) (fun z6 =>
 some z6) r3:=by kernel_rfl
theorem label_quote_l2_eq (n f:Nat) (b:List UInt8) (s9:(List Int)) (s10:Int) (s11:Int):label_quote_l2 n (f+1) (b,s9,s10,s11,()) =
 tif ((decide (s11<s10))) (
 obind (at? s9 s11) fun r0 =>
 tif ((decide (r0=10))) (
 obind (strings_Builder_WriteByte n b (92:Int)) fun r1 =>
 obind (strings_Builder_WriteByte n r1.2 (110:Int)) fun r2 =>
 label_quote_l2 n f (r2.2,(s9,(s10,((IntKind.wrap .i64 (s11+1)),()))))) (
 tif ((decide (r0=34))) (
 tif ((decide (r0=34))) (
 obind (strings_Builder_WriteByte n b (92:Int)) fun r3 =>
 obind (strings_Builder_WriteByte n r3.2 r0) fun r4 =>
 label_quote_l2 n f (r4.2,(s9,(s10,((IntKind.wrap .i64 (s11+1)),()))))) (
 obind (strings_Builder_WriteByte n b r0) fun r5 =>
 label_quote_l2 n f (r5.2,(s9,(s10,((IntKind.wrap .i64 (s11+1)),())))))) (
 tif ((decide (r0=92))) (
 obind (strings_Builder_WriteByte n b (92:Int)) fun r6 =>
 obind (strings_Builder_WriteByte n r6.2 r0) fun r7 =>
 label_quote_l2 n f (r7.2,(s9,(s10,((IntKind.wrap .i64 (s11+1)),()))))) (
 obind (strings_Builder_WriteByte n b r0) fun r8 =>
 label_quote_l2 n f (r8.2,(s9,(s10,((IntKind.wrap .i64 (s11+1)),())))))))) (
 some (.inl (b,()))):=by kernel_rfl
theorem strconv_AppendUint__eq (n:Nat) (dst:(List Int)) (i:Int) (base:Int):strconv_AppendUint_ (n+1) dst i base =
 tif ((decide (base=10))) (
 tif ((decide (i<100))) (
 obind (strconv_small n (IntKind.wrap .i64 i)) fun r0 =>
 tif ((decide ((((List.length dst)+(List.length (List.map (fun y2=>(((UInt8.toNat y2):Nat):Int)) r0)))*1)≤140737488355328))) (
 some (dst++(List.map (fun y1=>(((UInt8.toNat y1):Nat):Int)) r0))) (
 none)) (
 obind (strconv_numDigits n i) fun r3 =>
 tif (((decide ((0:Int)≤r3))&&(decide (r3≤24)))) (
 obind (strconv_formatBase10 n ((List.replicate 24 (0:Int)),(0,((Int.toNat r3)-0))) i) fun r4 =>
 tif (((decide ((List.length r4.1)=24))&&((decide (r4.2.1=0))&&true))) (
 tif ((decide ((List.length r4.1)=24))) (
 tif (((decide ((0:Int)≤r3))&&(decide (r3≤24)))) (
 tif ((decide ((((List.length dst)+(List.length (List.take ((Int.toNat r3)-0) (List.drop 0 r4.1))))*1)≤140737488355328))) (
 some (dst++(List.take ((Int.toNat r3)-0) (List.drop 0 r4.1)))) (
 none)) (
 none)) (
 none)) (
 none)) (
 none))) (
 none):=by kernel_rfl
theorem strconv_AppendInt__eq (n:Nat) (dst:(List Int)) (i:Int) (base:Int):strconv_AppendInt_ (n+1) dst i base =
 tif ((decide (i<0))) (
 tif ((decide ((((List.length dst)+1)*1)≤140737488355328))) (
 obind (strconv_AppendUint_ n (dst++((45:Int)::[])) (IntKind.wrap .u64 ((0:Int)-(IntKind.wrap .u64 i))) base) fun r0 =>
 some r0) (
 none)) (
 obind (strconv_AppendUint_ n dst (IntKind.wrap .u64 i) base) fun r1 =>
 some r1):=by kernel_rfl
theorem sl_Equal_Label_eq (n:Nat) (s1:(List (List UInt8×List UInt8))) (s2:(List (List UInt8×List UInt8))):sl_Equal_Label (n+1) s1 s2 =
 tif ((!(decide ((((List.length s1):Nat):Int)=(((List.length s2):Nat):Int))))) (
 some false) (
 obind (sl_Equal_Label_l4 n loopFuel (s1,(s2,((((List.length s1):Nat):Int),((0:Int),()))))) fun r0 =>
 selim (fun y1 =>
 some true) (fun z2 =>
 some z2) r0):=by kernel_rfl
theorem sl_Equal_Label_l4_eq (n f:Nat) (s1:(List (List UInt8×List UInt8))) (s2:(List (List UInt8×List UInt8))) (s12:Int) (s13:Int):sl_Equal_Label_l4 n (f+1) (s1,s2,s12,s13,()) =
 tif ((decide (s13<s12))) (
 obind (at? s1 s13) fun r0 =>
 obind (at? s2 s13) fun r1 =>
 tif ((!((r0.1==r1.1)&&(r0.2==r1.2)))) (
 some (.inr false)) (
 sl_Equal_Label_l4 n f (s1,(s2,(s12,((IntKind.wrap .i64 (s13+1)),())))))) (
 some (.inl ())):=by kernel_rfl
theorem stringslite_CutPrefix_eq (n:Nat) (s:List UInt8) (prefix_:List UInt8):stringslite_CutPrefix (n+1) s prefix_ =
 obind (stringslite_HasPrefix n s prefix_) fun r0 =>
 tif ((!r0)) (
 some (s,false)) (
 tif ((decide ((0:Int)≤(((List.length prefix_):Nat):Int)))) (
 tif ((decide ((Int.toNat (((List.length prefix_):Nat):Int))≤(List.length s)))) (
 some ((List.drop (Int.toNat (((List.length prefix_):Nat):Int)) (List.take (List.length s) s)),true)) (
 none)) (
 none)):=by kernel_rfl
theorem label_name_eq (n:Nat) (s:List UInt8):label_name (n+1) s =
 tif ((s==[])) (
 some false) (
 tif ((decide ((64:Int)<(((List.length s):Nat):Int)))) (
 some false) (
 obind (at? s (0:Int)) fun r0 =>
 obind (label_digit n (((UInt8.toNat r0):Nat):Int)) fun r1 =>
 tif (r1) (
 some false) (
 obind (sl_ContainsFunc_byte n (List.map (fun y2=>(((UInt8.toNat y2):Nat):Int)) s) (fun y3=>label_name_1 n y3.1)) fun r4 =>
 some (!r4)))):=by kernel_rfl
theorem strconv_numDigits_eq (n:Nat) (d:Int):strconv_numDigits (n+1) d =
 obind (math_bits_Len64 n d) fun r0 =>
 obind (strconv_log10Pow2 n r0) fun r1 =>
 obind (at? ((1:Int)::((10:Int)::((100:Int)::((1000:Int)::((10000:Int)::((100000:Int)::((1000000:Int)::((10000000:Int)::((100000000:Int)::((1000000000:Int)::((10000000000:Int)::((100000000000:Int)::((1000000000000:Int)::((10000000000000:Int)::((100000000000000:Int)::((1000000000000000:Int)::((10000000000000000:Int)::((100000000000000000:Int)::((1000000000000000000:Int)::((10000000000000000000:Int)::[])))))))))))))))))))) r1) fun r2 =>
 obind (strconv_bool2_int n (decide (r2≤d))) fun r3 =>
 some (IntKind.wrap .i64 (r1+r3)):=by kernel_rfl
theorem strconv_formatBase10_eq (n:Nat) (a:(List Int×(Nat×Nat))) (u:Int):strconv_formatBase10 (n+1) a u =
 obind (strconv_formatBase10_l1 n loopFuel (a,(u,(((a.2.2:Nat):Int),())))) fun r0 =>
 selim (fun y1 =>
 tif ((decide ((4:Int)≤y1.2.2.1))) (
 obind (at? bs_92989263 (IntKind.wrap .u32 ((IntKind.wrap .u32 ((Int.tmod (Int.tmod (IntKind.wrap .u32 y1.2.1) (10000:Int)) (100:Int))*2))+1))) fun r2 =>
 obind (at? bs_92989263 (IntKind.wrap .u32 ((Int.tmod (Int.tmod (IntKind.wrap .u32 y1.2.1) (10000:Int)) (100:Int))*2))) fun r3 =>
 obind (at? (List.take y1.1.2.2 (List.drop y1.1.2.1 y1.1.1)) (IntKind.wrap .i64 (y1.2.2.1-1))) fun r4 =>
 obind ((y1.1.1)[(y1.1.2.1+(Int.toNat (IntKind.wrap .i64 (y1.2.2.1-1))))]?) fun r5 =>
 obind (at? (List.take y1.1.2.2 (List.drop y1.1.2.1 (List.set y1.1.1 (y1.1.2.1+(Int.toNat (IntKind.wrap .i64 (y1.2.2.1-1)))) (((UInt8.toNat r2):Nat):Int)))) (IntKind.wrap .i64 (y1.2.2.1-2))) fun r6 =>
 obind (((List.set y1.1.1 (y1.1.2.1+(Int.toNat (IntKind.wrap .i64 (y1.2.2.1-1)))) (((UInt8.toNat r2):Nat):Int)))[(y1.1.2.1+(Int.toNat (IntKind.wrap .i64 (y1.2.2.1-2))))]?) fun r7 =>
 obind (at? bs_92989263 (IntKind.wrap .u32 ((IntKind.wrap .u32 ((IntKind.wrap .u32 (Int.tdiv (Int.tmod (IntKind.wrap .u32 y1.2.1) (10000:Int)) (100:Int)))*2))+1))) fun r8 =>
 obind (at? bs_92989263 (IntKind.wrap .u32 ((IntKind.wrap .u32 (Int.tdiv (Int.tmod (IntKind.wrap .u32 y1.2.1) (10000:Int)) (100:Int)))*2))) fun r9 =>
 obind (at? (List.take y1.1.2.2 (List.drop y1.1.2.1 (List.set (List.set y1.1.1 (y1.1.2.1+(Int.toNat (IntKind.wrap .i64 (y1.2.2.1-1)))) (((UInt8.toNat r2):Nat):Int)) (y1.1.2.1+(Int.toNat (IntKind.wrap .i64 (y1.2.2.1-2)))) (((UInt8.toNat r3):Nat):Int)))) (IntKind.wrap .i64 (y1.2.2.1-3))) fun r10 =>
 obind (((List.set (List.set y1.1.1 (y1.1.2.1+(Int.toNat (IntKind.wrap .i64 (y1.2.2.1-1)))) (((UInt8.toNat r2):Nat):Int)) (y1.1.2.1+(Int.toNat (IntKind.wrap .i64 (y1.2.2.1-2)))) (((UInt8.toNat r3):Nat):Int)))[(y1.1.2.1+(Int.toNat (IntKind.wrap .i64 (y1.2.2.1-3))))]?) fun r11 =>
 obind (at? (List.take y1.1.2.2 (List.drop y1.1.2.1 (List.set (List.set (List.set y1.1.1 (y1.1.2.1+(Int.toNat (IntKind.wrap .i64 (y1.2.2.1-1)))) (((UInt8.toNat r2):Nat):Int)) (y1.1.2.1+(Int.toNat (IntKind.wrap .i64 (y1.2.2.1-2)))) (((UInt8.toNat r3):Nat):Int)) (y1.1.2.1+(Int.toNat (IntKind.wrap .i64 (y1.2.2.1-3)))) (((UInt8.toNat r8):Nat):Int)))) (IntKind.wrap .i64 (y1.2.2.1-4))) fun r12 =>
 obind (((List.set (List.set (List.set y1.1.1 (y1.1.2.1+(Int.toNat (IntKind.wrap .i64 (y1.2.2.1-1)))) (((UInt8.toNat r2):Nat):Int)) (y1.1.2.1+(Int.toNat (IntKind.wrap .i64 (y1.2.2.1-2)))) (((UInt8.toNat r3):Nat):Int)) (y1.1.2.1+(Int.toNat (IntKind.wrap .i64 (y1.2.2.1-3)))) (((UInt8.toNat r8):Nat):Int)))[(y1.1.2.1+(Int.toNat (IntKind.wrap .i64 (y1.2.2.1-4))))]?) fun r13 =>
 tif ((decide ((2:Int)≤(IntKind.wrap .i64 (y1.2.2.1-4))))) (
 obind (at? bs_92989263 (IntKind.wrap .u32 ((IntKind.wrap .u32 ((Int.tmod (IntKind.wrap .u32 (Int.tdiv (IntKind.wrap .u32 y1.2.1) (10000:Int))) (100:Int))*2))+1))) fun r14 =>
 obind (at? bs_92989263 (IntKind.wrap .u32 ((Int.tmod (IntKind.wrap .u32 (Int.tdiv (IntKind.wrap .u32 y1.2.1) (10000:Int))) (100:Int))*2))) fun r15 =>
 obind (at? (List.take y1.1.2.2 (List.drop y1.1.2.1 (List.set (List.set (List.set (List.set y1.1.1 (y1.1.2.1+(Int.toNat (IntKind.wrap .i64 (y1.2.2.1-1)))) (((UInt8.toNat r2):Nat):Int)) (y1.1.2.1+(Int.toNat (IntKind.wrap .i64 (y1.2.2.1-2)))) (((UInt8.toNat r3):Nat):Int)) (y1.1.2.1+(Int.toNat (IntKind.wrap .i64 (y1.2.2.1-3)))) (((UInt8.toNat r8):Nat):Int)) (y1.1.2.1+(Int.toNat (IntKind.wrap .i64 (y1.2.2.1-4)))) (((UInt8.toNat r9):Nat):Int)))) (IntKind.wrap .i64 ((IntKind.wrap .i64 (y1.2.2.1-4))-1))) fun r16 =>
 obind (((List.set (List.set (List.set (List.set y1.1.1 (y1.1.2.1+(Int.toNat (IntKind.wrap .i64 (y1.2.2.1-1)))) (((UInt8.toNat r2):Nat):Int)) (y1.1.2.1+(Int.toNat (IntKind.wrap .i64 (y1.2.2.1-2)))) (((UInt8.toNat r3):Nat):Int)) (y1.1.2.1+(Int.toNat (IntKind.wrap .i64 (y1.2.2.1-3)))) (((UInt8.toNat r8):Nat):Int)) (y1.1.2.1+(Int.toNat (IntKind.wrap .i64 (y1.2.2.1-4)))) (((UInt8.toNat r9):Nat):Int)))[(y1.1.2.1+(Int.toNat (IntKind.wrap .i64 ((IntKind.wrap .i64 (y1.2.2.1-4))-1))))]?) fun r17 =>
 obind (at? (List.take y1.1.2.2 (List.drop y1.1.2.1 (List.set (List.set (List.set (List.set (List.set y1.1.1 (y1.1.2.1+(Int.toNat (IntKind.wrap .i64 (y1.2.2.1-1)))) (((UInt8.toNat r2):Nat):Int)) (y1.1.2.1+(Int.toNat (IntKind.wrap .i64 (y1.2.2.1-2)))) (((UInt8.toNat r3):Nat):Int)) (y1.1.2.1+(Int.toNat (IntKind.wrap .i64 (y1.2.2.1-3)))) (((UInt8.toNat r8):Nat):Int)) (y1.1.2.1+(Int.toNat (IntKind.wrap .i64 (y1.2.2.1-4)))) (((UInt8.toNat r9):Nat):Int)) (y1.1.2.1+(Int.toNat (IntKind.wrap .i64 ((IntKind.wrap .i64 (y1.2.2.1-4))-1)))) (((UInt8.toNat r14):Nat):Int)))) (IntKind.wrap .i64 ((IntKind.wrap .i64 (y1.2.2.1-4))-2))) fun r18 =>
 obind (((List.set (List.set (List.set (List.set (List.set y1.1.1 (y1.1.2.1+(Int.toNat (IntKind.wrap .i64 (y1.2.2.1-1)))) (((UInt8.toNat r2):Nat):Int)) (y1.1.2.1+(Int.toNat (IntKind.wrap .i64 (y1.2.2.1-2)))) (((UInt8.toNat r3):Nat):Int)) (y1.1.2.1+(Int.toNat (IntKind.wrap .i64 (y1.2.2.1-3)))) (((UInt8.toNat r8):Nat):Int)) (y1.1.2.1+(Int.toNat (IntKind.wrap .i64 (y1.2.2.1-4)))) (((UInt8.toNat r9):Nat):Int)) (y1.1.2.1+(Int.toNat (IntKind.wrap .i64 ((IntKind.wrap .i64 (y1.2.2.1-4))-1)))) (((UInt8.toNat r14):Nat):Int)))[(y1.1.2.1+(Int.toNat (IntKind.wrap .i64 ((IntKind.wrap .i64 (y1.2.2.1-4))-2))))]?) fun r19 =>
 tif ((decide ((0:Int)<(IntKind.wrap .i64 ((IntKind.wrap .i64 (y1.2.2.1-4))-2))))) (
 obind (at? (List.take y1.1.2.2 (List.drop y1.1.2.1 (List.set (List.set (List.set (List.set (List.set (List.set y1.1.1 (y1.1.2.1+(Int.toNat (IntKind.wrap .i64 (y1.2.2.1-1)))) (((UInt8.toNat r2):Nat):Int)) (y1.1.2.1+(Int.toNat (IntKind.wrap .i64 (y1.2.2.1-2)))) (((UInt8.toNat r3):Nat):Int)) (y1.1.2.1+(Int.toNat (IntKind.wrap .i64 (y1.2.2.1-3)))) (((UInt8.toNat r8):Nat):Int)) (y1.1.2.1+(Int.toNat (IntKind.wrap .i64 (y1.2.2.1-4)))) (((UInt8.toNat r9):Nat):Int)) (y1.1.2.1+(Int.toNat (IntKind.wrap .i64 ((IntKind.wrap .i64 (y1.2.2.1-4))-1)))) (((UInt8.toNat r14):Nat):Int)) (y1.1.2.1+(Int.toNat (IntKind.wrap .i64 ((IntKind.wrap .i64 (y1.2.2.1-4))-2)))) (((UInt8.toNat r15):Nat):Int)))) (0:Int)) fun r20 =>
 obind (((List.set (List.set (List.set (List.set (List.set (List.set y1.1.1 (y1.1.2.1+(Int.toNat (IntKind.wrap .i64 (y1.2.2.1-1)))) (((UInt8.toNat r2):Nat):Int)) (y1.1.2.1+(Int.toNat (IntKind.wrap .i64 (y1.2.2.1-2)))) (((UInt8.toNat r3):Nat):Int)) (y1.1.2.1+(Int.toNat (IntKind.wrap .i64 (y1.2.2.1-3)))) (((UInt8.toNat r8):Nat):Int)) (y1.1.2.1+(Int.toNat (IntKind.wrap .i64 (y1.2.2.1-4)))) (((UInt8.toNat r9):Nat):Int)) (y1.1.2.1+(Int.toNat (IntKind.wrap .i64 ((IntKind.wrap .i64 (y1.2.2.1-4))-1)))) (((UInt8.toNat r14):Nat):Int)) (y1.1.2.1+(Int.toNat (IntKind.wrap .i64 ((IntKind.wrap .i64 (y1.2.2.1-4))-2)))) (((UInt8.toNat r15):Nat):Int)))[(y1.1.2.1+0)]?) fun r21 =>
 some ((List.set (List.set (List.set (List.set (List.set (List.set (List.set y1.1.1 (y1.1.2.1+(Int.toNat (IntKind.wrap .i64 (y1.2.2.1-1)))) (((UInt8.toNat r2):Nat):Int)) (y1.1.2.1+(Int.toNat (IntKind.wrap .i64 (y1.2.2.1-2)))) (((UInt8.toNat r3):Nat):Int)) (y1.1.2.1+(Int.toNat (IntKind.wrap .i64 (y1.2.2.1-3)))) (((UInt8.toNat r8):Nat):Int)) (y1.1.2.1+(Int.toNat (IntKind.wrap .i64 (y1.2.2.1-4)))) (((UInt8.toNat r9):Nat):Int)) (y1.1.2.1+(Int.toNat (IntKind.wrap .i64 ((IntKind.wrap .i64 (y1.2.2.1-4))-1)))) (((UInt8.toNat r14):Nat):Int)) (y1.1.2.1+(Int.toNat (IntKind.wrap .i64 ((IntKind.wrap .i64 (y1.2.2.1-4))-2)))) (((UInt8.toNat r15):Nat):Int)) (y1.1.2.1+0) (IntKind.wrap .u8 (IntKind.wrap .u32 ((48:Int)+(IntKind.wrap .u32 (Int.tdiv (IntKind.wrap .u32 (Int.tdiv (IntKind.wrap .u32 y1.2.1) (10000:Int))) (100:Int))))))),y1.1.2)) (
 some ((List.set (List.set (List.set (List.set (List.set (List.set y1.1.1 (y1.1.2.1+(Int.toNat (IntKind.wrap .i64 (y1.2.2.1-1)))) (((UInt8.toNat r2):Nat):Int)) (y1.1.2.1+(Int.toNat (IntKind.wrap .i64 (y1.2.2.1-2)))) (((UInt8.toNat r3):Nat):Int)) (y1.1.2.1+(Int.toNat (IntKind.wrap .i64 (y1.2.2.1-3)))) (((UInt8.toNat r8):Nat):Int)) (y1.1.2.1+(Int.toNat (IntKind.wrap .i64 (y1.2.2.1-4)))) (((UInt8.toNat r9):Nat):Int)) (y1.1.2.1+(Int.toNat (IntKind.wrap .i64 ((IntKind.wrap .i64 (y1.2.2.1-4))-1)))) (((UInt8.toNat r14):Nat):Int)) (y1.1.2.1+(Int.toNat (IntKind.wrap .i64 ((IntKind.wrap .i64 (y1.2.2.1-4))-2)))) (((UInt8.toNat r15):Nat):Int)),y1.1.2))) (
 tif ((decide ((0:Int)<(IntKind.wrap .i64 (y1.2.2.1-4))))) (
 obind (at? (List.take y1.1.2.2 (List.drop y1.1.2.1 (List.set (List.set (List.set (List.set y1.1.1 (y1.1.2.1+(Int.toNat (IntKind.wrap .i64 (y1.2.2.1-1)))) (((UInt8.toNat r2):Nat):Int)) (y1.1.2.1+(Int.toNat (IntKind.wrap .i64 (y1.2.2.1-2)))) (((UInt8.toNat r3):Nat):Int)) (y1.1.2.1+(Int.toNat (IntKind.wrap .i64 (y1.2.2.1-3)))) (((UInt8.toNat r8):Nat):Int)) (y1.1.2.1+(Int.toNat (IntKind.wrap .i64 (y1.2.2.1-4)))) (((UInt8.toNat r9):Nat):Int)))) (0:Int)) fun r22 =>
 obind (((List.set (List.set (List.set (List.set y1.1.1 (y1.1.2.1+(Int.toNat (IntKind.wrap .i64 (y1.2.2.1-1)))) (((UInt8.toNat r2):Nat):Int)) (y1.1.2.1+(Int.toNat (IntKind.wrap .i64 (y1.2.2.1-2)))) (((UInt8.toNat r3):Nat):Int)) (y1.1.2.1+(Int.toNat (IntKind.wrap .i64 (y1.2.2.1-3)))) (((UInt8.toNat r8):Nat):Int)) (y1.1.2.1+(Int.toNat (IntKind.wrap .i64 (y1.2.2.1-4)))) (((UInt8.toNat r9):Nat):Int)))[(y1.1.2.1+0)]?) fun r23 =>
 some ((List.set (List.set (List.set (List.set (List.set y1.1.1 (y1.1.2.1+(Int.toNat (IntKind.wrap .i64 (y1.2.2.1-1)))) (((UInt8.toNat r2):Nat):Int)) (y1.1.2.1+(Int.toNat (IntKind.wrap .i64 (y1.2.2.1-2)))) (((UInt8.toNat r3):Nat):Int)) (y1.1.2.1+(Int.toNat (IntKind.wrap .i64 (y1.2.2.1-3)))) (((UInt8.toNat r8):Nat):Int)) (y1.1.2.1+(Int.toNat (IntKind.wrap .i64 (y1.2.2.1-4)))) (((UInt8.toNat r9):Nat):Int)) (y1.1.2.1+0) (IntKind.wrap .u8 (IntKind.wrap .u32 ((48:Int)+(IntKind.wrap .u32 (Int.tdiv (IntKind.wrap .u32 y1.2.1) (10000:Int))))))),y1.1.2)) (
 some ((List.set (List.set (List.set (List.set y1.1.1 (y1.1.2.1+(Int.toNat (IntKind.wrap .i64 (y1.2.2.1-1)))) (((UInt8.toNat r2):Nat):Int)) (y1.1.2.1+(Int.toNat (IntKind.wrap .i64 (y1.2.2.1-2)))) (((UInt8.toNat r3):Nat):Int)) (y1.1.2.1+(Int.toNat (IntKind.wrap .i64 (y1.2.2.1-3)))) (((UInt8.toNat r8):Nat):Int)) (y1.1.2.1+(Int.toNat (IntKind.wrap .i64 (y1.2.2.1-4)))) (((UInt8.toNat r9):Nat):Int)),y1.1.2)))) (
 tif ((decide ((2:Int)≤y1.2.2.1))) (
 obind (at? bs_92989263 (IntKind.wrap .u32 ((IntKind.wrap .u32 ((Int.tmod (IntKind.wrap .u32 y1.2.1) (100:Int))*2))+1))) fun r24 =>
 obind (at? bs_92989263 (IntKind.wrap .u32 ((Int.tmod (IntKind.wrap .u32 y1.2.1) (100:Int))*2))) fun r25 =>
 obind (at? (List.take y1.1.2.2 (List.drop y1.1.2.1 y1.1.1)) (IntKind.wrap .i64 (y1.2.2.1-1))) fun r26 =>
 obind ((y1.1.1)[(y1.1.2.1+(Int.toNat (IntKind.wrap .i64 (y1.2.2.1-1))))]?) fun r27 =>
 obind (at? (List.take y1.1.2.2 (List.drop y1.1.2.1 (List.set y1.1.1 (y1.1.2.1+(Int.toNat (IntKind.wrap .i64 (y1.2.2.1-1)))) (((UInt8.toNat r24):Nat):Int)))) (IntKind.wrap .i64 (y1.2.2.1-2))) fun r28 =>
 obind (((List.set y1.1.1 (y1.1.2.1+(Int.toNat (IntKind.wrap .i64 (y1.2.2.1-1)))) (((UInt8.toNat r24):Nat):Int)))[(y1.1.2.1+(Int.toNat (IntKind.wrap .i64 (y1.2.2.1-2))))]?) fun r29 =>
 tif ((decide ((0:Int)<(IntKind.wrap .i64 (y1.2.2.1-2))))) (
 obind (at? (List.take y1.1.2.2 (List.drop y1.1.2.1 (List.set (List.set y1.1.1 (y1.1.2.1+(Int.toNat (IntKind.wrap .i64 (y1.2.2.1-1)))) (((UInt8.toNat r24):Nat):Int)) (y1.1.2.1+(Int.toNat (IntKind.wrap .i64 (y1.2.2.1-2)))) (((UInt8.toNat r25):Nat):Int)))) (0:Int)) fun r30 =>
 obind (((List.set (List.set y1.1.1 (y1.1.2.1+(Int.toNat (IntKind.wrap .i64 (y1.2.2.1-1)))) (((UInt8.toNat r24):Nat):Int)) (y1.1.2.1+(Int.toNat (IntKind.wrap .i64 (y1.2.2.1-2)))) (((UInt8.toNat r25):Nat):Int)))[(y1.1.2.1+0)]?) fun r31 =>
 some ((List.set (List.set (List.set y1.1.1 (y1.1.2.1+(Int.toNat (IntKind.wrap .i64 (y1.2.2.1-1)))) (((UInt8.toNat r24):Nat):Int)) (y1.1.2.1+(Int.toNat (IntKind.wrap .i64 (y1.2.2.1-2)))) (((UInt8.toNat r25):Nat):Int)) (y1.1.2.1+0) (IntKind.wrap .u8 (IntKind.wrap .u32 ((48:Int)+(IntKind.wrap .u32 (Int.tdiv (IntKind.wrap .u32 y1.2.1) (100:Int))))))),y1.1.2)) (
 some ((List.set (List.set y1.1.1 (y1.1.2.1+(Int.toNat (IntKind.wrap .i64 (y1.2.2.1-1)))) (((UInt8.toNat r24):Nat):Int)) (y1.1.2.1+(Int.toNat (IntKind.wrap .i64 (y1.2.2.1-2)))) (((UInt8.toNat r25):Nat):Int)),y1.1.2))) (
 tif ((decide ((0:Int)<y1.2.2.1))) (
 obind (at? (List.take y1.1.2.2 (List.drop y1.1.2.1 y1.1.1)) (0:Int)) fun r32 =>
 obind ((y1.1.1)[(y1.1.2.1+0)]?) fun r33 =>
 some ((List.set y1.1.1 (y1.1.2.1+0) (IntKind.wrap .u8 (IntKind.wrap .u32 ((48:Int)+(IntKind.wrap .u32 y1.2.1))))),y1.1.2)) (
 some y1.1)))) (fun z34 =>
 some z34) r0:=by kernel_rfl
theorem strconv_formatBase10_l1_eq (n f:Nat) (a:(List Int×(Nat×Nat))) (u:Int) (nd:Int):strconv_formatBase10_l1 n (f+1) (a,u,nd,()) =
 tif ((decide ((8:Int)≤nd))) (
 obind (at? bs_92989263 (IntKind.wrap .u32 ((IntKind.wrap .u32 ((Int.tmod (Int.tmod (IntKind.wrap .u32 (Int.tmod u (100000000:Int))) (10000:Int)) (100:Int))*2))+1))) fun r0 =>
 obind (at? bs_92989263 (IntKind.wrap .u32 ((Int.tmod (Int.tmod (IntKind.wrap .u32 (Int.tmod u (100000000:Int))) (10000:Int)) (100:Int))*2))) fun r1 =>
 obind (at? (List.take a.2.2 (List.drop a.2.1 a.1)) (IntKind.wrap .i64 (nd-1))) fun r2 =>
 obind ((a.1)[(a.2.1+(Int.toNat (IntKind.wrap .i64 (nd-1))))]?) fun r3 =>
 obind (at? (List.take a.2.2 (List.drop a.2.1 (List.set a.1 (a.2.1+(Int.toNat (IntKind.wrap .i64 (nd-1)))) (((UInt8.toNat r0):Nat):Int)))) (IntKind.wrap .i64 (nd-2))) fun r4 =>
 obind (((List.set a.1 (a.2.1+(Int.toNat (IntKind.wrap .i64 (nd-1)))) (((UInt8.toNat r0):Nat):Int)))[(a.2.1+(Int.toNat (IntKind.wrap .i64 (nd-2))))]?) fun r5 =>
 obind (at? bs_92989263 (IntKind.wrap .u32 ((IntKind.wrap .u32 ((IntKind.wrap .u32 (Int.tdiv (Int.tmod (IntKind.wrap .u32 (Int.tmod u (100000000:Int))) (10000:Int)) (100:Int)))*2))+1))) fun r6 =>
 obind (at? bs_92989263 (IntKind.wrap .u32 ((IntKind.wrap .u32 (Int.tdiv (Int.tmod (IntKind.wrap .u32 (Int.tmod u (100000000:Int))) (10000:Int)) (100:Int)))*2))) fun r7 =>
 obind (at? (List.take a.2.2 (List.drop a.2.1 (List.set (List.set a.1 (a.2.1+(Int.toNat (IntKind.wrap .i64 (nd-1)))) (((UInt8.toNat r0):Nat):Int)) (a.2.1+(Int.toNat (IntKind.wrap .i64 (nd-2)))) (((UInt8.toNat r1):Nat):Int)))) (IntKind.wrap .i64 (nd-3))) fun r8 =>
 obind (((List.set (List.set a.1 (a.2.1+(Int.toNat (IntKind.wrap .i64 (nd-1)))) (((UInt8.toNat r0):Nat):Int)) (a.2.1+(Int.toNat (IntKind.wrap .i64 (nd-2)))) (((UInt8.toNat r1):Nat):Int)))[(a.2.1+(Int.toNat (IntKind.wrap .i64 (nd-3))))]?) fun r9 =>
 obind (at? (List.take a.2.2 (List.drop a.2.1 (List.set (List.set (List.set a.1 (a.2.1+(Int.toNat (IntKind.wrap .i64 (nd-1)))) (((UInt8.toNat r0):Nat):Int)) (a.2.1+(Int.toNat (IntKind.wrap .i64 (nd-2)))) (((UInt8.toNat r1):Nat):Int)) (a.2.1+(Int.toNat (IntKind.wrap .i64 (nd-3)))) (((UInt8.toNat r6):Nat):Int)))) (IntKind.wrap .i64 (nd-4))) fun r10 =>
 obind (((List.set (List.set (List.set a.1 (a.2.1+(Int.toNat (IntKind.wrap .i64 (nd-1)))) (((UInt8.toNat r0):Nat):Int)) (a.2.1+(Int.toNat (IntKind.wrap .i64 (nd-2)))) (((UInt8.toNat r1):Nat):Int)) (a.2.1+(Int.toNat (IntKind.wrap .i64 (nd-3)))) (((UInt8.toNat r6):Nat):Int)))[(a.2.1+(Int.toNat (IntKind.wrap .i64 (nd-4))))]?) fun r11 =>
 obind (at? bs_92989263 (IntKind.wrap .u32 ((IntKind.wrap .u32 ((Int.tmod (IntKind.wrap .u32 (Int.tdiv (IntKind.wrap .u32 (Int.tmod u (100000000:Int))) (10000:Int))) (100:Int))*2))+1))) fun r12 =>
 obind (at? bs_92989263 (IntKind.wrap .u32 ((Int.tmod (IntKind.wrap .u32 (Int.tdiv (IntKind.wrap .u32 (Int.tmod u (100000000:Int))) (10000:Int))) (100:Int))*2))) fun r13 =>
 obind (at? (List.take a.2.2 (List.drop a.2.1 (List.set (List.set (List.set (List.set a.1 (a.2.1+(Int.toNat (IntKind.wrap .i64 (nd-1)))) (((UInt8.toNat r0):Nat):Int)) (a.2.1+(Int.toNat (IntKind.wrap .i64 (nd-2)))) (((UInt8.toNat r1):Nat):Int)) (a.2.1+(Int.toNat (IntKind.wrap .i64 (nd-3)))) (((UInt8.toNat r6):Nat):Int)) (a.2.1+(Int.toNat (IntKind.wrap .i64 (nd-4)))) (((UInt8.toNat r7):Nat):Int)))) (IntKind.wrap .i64 (nd-5))) fun r14 =>
 obind (((List.set (List.set (List.set (List.set a.1 (a.2.1+(Int.toNat (IntKind.wrap .i64 (nd-1)))) (((UInt8.toNat r0):Nat):Int)) (a.2.1+(Int.toNat (IntKind.wrap .i64 (nd-2)))) (((UInt8.toNat r1):Nat):Int)) (a.2.1+(Int.toNat (IntKind.wrap .i64 (nd-3)))) (((UInt8.toNat r6):Nat):Int)) (a.2.1+(Int.toNat (IntKind.wrap .i64 (nd-4)))) (((UInt8.toNat r7):Nat):Int)))[(a.2.1+(Int.toNat (IntKind.wrap .i64 (nd-5))))]?) fun r15 =>
 obind (at? (List.take a.2.2 (List.drop a.2.1 (List.set (List.set (List.set (List.set (List.set a.1 (a.2.1+(Int.toNat (IntKind.wrap .i64 (nd-1)))) (((UInt8.toNat r0):Nat):Int)) (a.2.1+(Int.toNat (IntKind.wrap .i64 (nd-2)))) (((UInt8.toNat r1):Nat):Int)) (a.2.1+(Int.toNat (IntKind.wrap .i64 (nd-3)))) (((UInt8.toNat r6):Nat):Int)) (a.2.1+(Int.toNat (IntKind.wrap .i64 (nd-4)))) (((UInt8.toNat r7):Nat):Int)) (a.2.1+(Int.toNat (IntKind.wrap .i64 (nd-5)))) (((UInt8.toNat r12):Nat):Int)))) (IntKind.wrap .i64 (nd-6))) fun r16 =>
 obind (((List.set (List.set (List.set (List.set (List.set a.1 (a.2.1+(Int.toNat (IntKind.wrap .i64 (nd-1)))) (((UInt8.toNat r0):Nat):Int)) (a.2.1+(Int.toNat (IntKind.wrap .i64 (nd-2)))) (((UInt8.toNat r1):Nat):Int)) (a.2.1+(Int.toNat (IntKind.wrap .i64 (nd-3)))) (((UInt8.toNat r6):Nat):Int)) (a.2.1+(Int.toNat (IntKind.wrap .i64 (nd-4)))) (((UInt8.toNat r7):Nat):Int)) (a.2.1+(Int.toNat (IntKind.wrap .i64 (nd-5)))) (((UInt8.toNat r12):Nat):Int)))[(a.2.1+(Int.toNat (IntKind.wrap .i64 (nd-6))))]?) fun r17 =>
 obind (at? bs_92989263 (IntKind.wrap .u32 ((IntKind.wrap .u32 ((IntKind.wrap .u32 (Int.tdiv (IntKind.wrap .u32 (Int.tdiv (IntKind.wrap .u32 (Int.tmod u (100000000:Int))) (10000:Int))) (100:Int)))*2))+1))) fun r18 =>
 obind (at? bs_92989263 (IntKind.wrap .u32 ((IntKind.wrap .u32 (Int.tdiv (IntKind.wrap .u32 (Int.tdiv (IntKind.wrap .u32 (Int.tmod u (100000000:Int))) (10000:Int))) (100:Int)))*2))) fun r19 =>
 obind (at? (List.take a.2.2 (List.drop a.2.1 (List.set (List.set (List.set (List.set (List.set (List.set a.1 (a.2.1+(Int.toNat (IntKind.wrap .i64 (nd-1)))) (((UInt8.toNat r0):Nat):Int)) (a.2.1+(Int.toNat (IntKind.wrap .i64 (nd-2)))) (((UInt8.toNat r1):Nat):Int)) (a.2.1+(Int.toNat (IntKind.wrap .i64 (nd-3)))) (((UInt8.toNat r6):Nat):Int)) (a.2.1+(Int.toNat (IntKind.wrap .i64 (nd-4)))) (((UInt8.toNat r7):Nat):Int)) (a.2.1+(Int.toNat (IntKind.wrap .i64 (nd-5)))) (((UInt8.toNat r12):Nat):Int)) (a.2.1+(Int.toNat (IntKind.wrap .i64 (nd-6)))) (((UInt8.toNat r13):Nat):Int)))) (IntKind.wrap .i64 (nd-7))) fun r20 =>
 obind (((List.set (List.set (List.set (List.set (List.set (List.set a.1 (a.2.1+(Int.toNat (IntKind.wrap .i64 (nd-1)))) (((UInt8.toNat r0):Nat):Int)) (a.2.1+(Int.toNat (IntKind.wrap .i64 (nd-2)))) (((UInt8.toNat r1):Nat):Int)) (a.2.1+(Int.toNat (IntKind.wrap .i64 (nd-3)))) (((UInt8.toNat r6):Nat):Int)) (a.2.1+(Int.toNat (IntKind.wrap .i64 (nd-4)))) (((UInt8.toNat r7):Nat):Int)) (a.2.1+(Int.toNat (IntKind.wrap .i64 (nd-5)))) (((UInt8.toNat r12):Nat):Int)) (a.2.1+(Int.toNat (IntKind.wrap .i64 (nd-6)))) (((UInt8.toNat r13):Nat):Int)))[(a.2.1+(Int.toNat (IntKind.wrap .i64 (nd-7))))]?) fun r21 =>
 obind (at? (List.take a.2.2 (List.drop a.2.1 (List.set (List.set (List.set (List.set (List.set (List.set (List.set a.1 (a.2.1+(Int.toNat (IntKind.wrap .i64 (nd-1)))) (((UInt8.toNat r0):Nat):Int)) (a.2.1+(Int.toNat (IntKind.wrap .i64 (nd-2)))) (((UInt8.toNat r1):Nat):Int)) (a.2.1+(Int.toNat (IntKind.wrap .i64 (nd-3)))) (((UInt8.toNat r6):Nat):Int)) (a.2.1+(Int.toNat (IntKind.wrap .i64 (nd-4)))) (((UInt8.toNat r7):Nat):Int)) (a.2.1+(Int.toNat (IntKind.wrap .i64 (nd-5)))) (((UInt8.toNat r12):Nat):Int)) (a.2.1+(Int.toNat (IntKind.wrap .i64 (nd-6)))) (((UInt8.toNat r13):Nat):Int)) (a.2.1+(Int.toNat (IntKind.wrap .i64 (nd-7)))) (((UInt8.toNat r18):Nat):Int)))) (IntKind.wrap .i64 (nd-8))) fun r22 =>
 obind (((List.set (List.set (List.set (List.set (List.set (List.set (List.set a.1 (a.2.1+(Int.toNat (IntKind.wrap .i64 (nd-1)))) (((UInt8.toNat r0):Nat):Int)) (a.2.1+(Int.toNat (IntKind.wrap .i64 (nd-2)))) (((UInt8.toNat r1):Nat):Int)) (a.2.1+(Int.toNat (IntKind.wrap .i64 (nd-3)))) (((UInt8.toNat r6):Nat):Int)) (a.2.1+(Int.toNat (IntKind.wrap .i64 (nd-4)))) (((UInt8.toNat r7):Nat):Int)) (a.2.1+(Int.toNat (IntKind.wrap .i64 (nd-5)))) (((UInt8.toNat r12):Nat):Int)) (a.2.1+(Int.toNat (IntKind.wrap .i64 (nd-6)))) (((UInt8.toNat r13):Nat):Int)) (a.2.1+(Int.toNat (IntKind.wrap .i64 (nd-7)))) (((UInt8.toNat r18):Nat):Int)))[(a.2.1+(Int.toNat (IntKind.wrap .i64 (nd-8))))]?) fun r23 =>
 strconv_formatBase10_l1 n f (((List.set (List.set (List.set (List.set (List.set (List.set (List.set (List.set a.1 (a.2.1+(Int.toNat (IntKind.wrap .i64 (nd-1)))) (((UInt8.toNat r0):Nat):Int)) (a.2.1+(Int.toNat (IntKind.wrap .i64 (nd-2)))) (((UInt8.toNat r1):Nat):Int)) (a.2.1+(Int.toNat (IntKind.wrap .i64 (nd-3)))) (((UInt8.toNat r6):Nat):Int)) (a.2.1+(Int.toNat (IntKind.wrap .i64 (nd-4)))) (((UInt8.toNat r7):Nat):Int)) (a.2.1+(Int.toNat (IntKind.wrap .i64 (nd-5)))) (((UInt8.toNat r12):Nat):Int)) (a.2.1+(Int.toNat (IntKind.wrap .i64 (nd-6)))) (((UInt8.toNat r13):Nat):Int)) (a.2.1+(Int.toNat (IntKind.wrap .i64 (nd-7)))) (((UInt8.toNat r18):Nat):Int)) (a.2.1+(Int.toNat (IntKind.wrap .i64 (nd-8)))) (((UInt8.toNat r19):Nat):Int)),a.2),((IntKind.wrap .u64 (Int.tdiv u (100000000:Int))),((IntKind.wrap .i64 (nd-8)),())))) (
 some (.inl (a,(u,(nd,()))))):=by kernel_rfl
theorem stringslite_HasPrefix_eq (n:Nat) (s:List UInt8) (prefix_:List UInt8):stringslite_HasPrefix (n+1) s prefix_ =
 tif ((decide ((((List.length prefix_):Nat):Int)≤(((List.length s):Nat):Int)))) (
 tif (((decide ((0:Int)≤(((List.length prefix_):Nat):Int)))&&(decide ((((List.length prefix_):Nat):Int)≤(((List.length s):Nat):Int))))) (
 some ((List.drop 0 (List.take (Int.toNat (((List.length prefix_):Nat):Int)) s))==prefix_)) (
 none)) (
 some false):=by kernel_rfl
theorem label_digit_eq (n:Nat) (c:Int):label_digit (n+1) c =
 tif ((decide ((48:Int)≤c))) (
 some (decide (c≤57))) (
 some false):=by kernel_rfl
theorem sl_ContainsFunc_byte_eq (n:Nat) (s:(List Int)) (f_:((Int×Unit)→Option Bool)):sl_ContainsFunc_byte (n+1) s f_ =
 obind (sl_IndexFunc_byte n s f_) fun r0 =>
 some (decide ((0:Int)≤r0)):=by kernel_rfl
theorem label_name_1_eq (n:Nat) (c:Int):label_name_1 (n+1) c =
 obind (label_sign n c) fun r0 =>
 some (!r0):=by kernel_rfl
theorem label_sign_eq (n:Nat) (c:Int):label_sign (n+1) c =
 obind (label_digit n c) fun r0 =>
 tif (r0) (
 some true) (
 tif ((decide (c=95))) (
 some true) (
 tif ((decide ((97:Int)≤(orI .u8 c (32:Int))))) (
 some (decide ((orI .u8 c (32:Int))≤122))) (
 some false))):=by kernel_rfl
theorem strconv_log10Pow2_eq (n:Nat) (x:Int):strconv_log10Pow2 (n+1) x =
 some (shrI .i64 (IntKind.wrap .i64 (x*78913)) (18:Int)):=by kernel_rfl
theorem math_bits_Len64_eq (n:Nat) (x:Int):math_bits_Len64 (n+1) x =
 tif ((decide ((4294967296:Int)≤x))) (
 tif ((decide ((65536:Int)≤(shrI .u64 x (32:Int))))) (
 tif ((decide ((256:Int)≤(shrI .u64 (shrI .u64 x (32:Int)) (16:Int))))) (
 obind (at? bs_2753755 (IntKind.wrap .u8 (shrI .u64 (shrI .u64 (shrI .u64 x (32:Int)) (16:Int)) (8:Int)))) fun r0 =>
 some (IntKind.wrap .i64 ((56:Int)+(IntKind.wrap .i64 (((UInt8.toNat r0):Nat):Int))))) (
 obind (at? bs_2753755 (IntKind.wrap .u8 (shrI .u64 (shrI .u64 x (32:Int)) (16:Int)))) fun r1 =>
 some (IntKind.wrap .i64 ((48:Int)+(IntKind.wrap .i64 (((UInt8.toNat r1):Nat):Int)))))) (
 tif ((decide ((256:Int)≤(shrI .u64 x (32:Int))))) (
 obind (at? bs_2753755 (IntKind.wrap .u8 (shrI .u64 (shrI .u64 x (32:Int)) (8:Int)))) fun r2 =>
 some (IntKind.wrap .i64 ((40:Int)+(IntKind.wrap .i64 (((UInt8.toNat r2):Nat):Int))))) (
 obind (at? bs_2753755 (IntKind.wrap .u8 (shrI .u64 x (32:Int)))) fun r3 =>
 some (IntKind.wrap .i64 ((32:Int)+(IntKind.wrap .i64 (((UInt8.toNat r3):Nat):Int))))))) (
 tif ((decide ((65536:Int)≤x))) (
 tif ((decide ((256:Int)≤(shrI .u64 x (16:Int))))) (
 obind (at? bs_2753755 (IntKind.wrap .u8 (shrI .u64 (shrI .u64 x (16:Int)) (8:Int)))) fun r4 =>
 some (IntKind.wrap .i64 ((24:Int)+(IntKind.wrap .i64 (((UInt8.toNat r4):Nat):Int))))) (
 obind (at? bs_2753755 (IntKind.wrap .u8 (shrI .u64 x (16:Int)))) fun r5 =>
 some (IntKind.wrap .i64 ((16:Int)+(IntKind.wrap .i64 (((UInt8.toNat r5):Nat):Int)))))) (
 tif ((decide ((256:Int)≤x))) (
 obind (at? bs_2753755 (IntKind.wrap .u8 (shrI .u64 x (8:Int)))) fun r6 =>
 some (IntKind.wrap .i64 ((8:Int)+(IntKind.wrap .i64 (((UInt8.toNat r6):Nat):Int))))) (
 obind (at? bs_2753755 (IntKind.wrap .u8 x)) fun r7 =>
 some (IntKind.wrap .i64 ((0:Int)+(IntKind.wrap .i64 (((UInt8.toNat r7):Nat):Int))))))):=by kernel_rfl
theorem strconv_bool2_int_eq (n:Nat) (b:Bool):strconv_bool2_int (n+1) b =
 tif (b) (
 some (1:Int)) (
 some (0:Int)):=by kernel_rfl
theorem sl_IndexFunc_byte_eq (n:Nat) (s:(List Int)) (f_:((Int×Unit)→Option Bool)):sl_IndexFunc_byte (n+1) s f_ =
 obind (sl_IndexFunc_byte_l2 n loopFuel (s,(f_,((((List.length s):Nat):Int),((0:Int),()))))) fun r0 =>
 selim (fun y1 =>
 some ((-1):Int)) (fun z2 =>
 some z2) r0:=by kernel_rfl
theorem sl_IndexFunc_byte_l2_eq (n f:Nat) (s:(List Int)) (f_:((Int×Unit)→Option Bool)) (s7:Int) (s8:Int):sl_IndexFunc_byte_l2 n (f+1) (s,f_,s7,s8,()) =
 tif ((decide (s8<s7))) (
 obind (at? s s8) fun r0 =>
 obind (f_ (r0,())) fun r1 =>
 tif (r1) (
 some (.inr s8)) (
 sl_IndexFunc_byte_l2 n f (s,(f_,(s7,((IntKind.wrap .i64 (s8+1)),())))))) (
 some (.inl ())):=by kernel_rfl
theorem strings_Builder_WriteString_eq (n:Nat) (x0:List UInt8) (x1:List UInt8):strings_Builder_WriteString (n+1) x0 x1=gWriteString x0 x1:=by
    have h:strings_Builder_WriteString (n+1) x0 x1=Option.bind (gWriteString x0 x1) (fun z=>some z):=by kernel_rfl
    rw[h];cases gWriteString x0 x1<;>rfl
theorem strings_Builder_WriteByte_eq (n:Nat) (x0:List UInt8) (x1:Int):strings_Builder_WriteByte (n+1) x0 x1=gWriteByte x0 x1:=by
    have h:strings_Builder_WriteByte (n+1) x0 x1=Option.bind (gWriteByte x0 x1) (fun z=>some z):=by kernel_rfl
    rw[h];cases gWriteByte x0 x1<;>rfl
theorem strings_Builder_String_eq (n:Nat) (x0:List UInt8):strings_Builder_String (n+1) x0=some (x0,x0):=by kernel_rfl
theorem strconv_ParseUint_eq (n:Nat) (x0:List UInt8) (x1:Int) (x2:Int):strconv_ParseUint (n+1) x0 x1 x2=gParseUint x0 x1 x2:=by
    have h:strconv_ParseUint (n+1) x0 x1 x2=Option.bind (gParseUint x0 x1 x2) (fun z=>some z):=by kernel_rfl
    rw[h];cases gParseUint x0 x1 x2<;>rfl
theorem stringslite_Index_eq (n:Nat) (x0:List UInt8) (x1:List UInt8):stringslite_Index (n+1) x0 x1=gIndex x0 x1:=by
    have h:stringslite_Index (n+1) x0 x1=Option.bind (gIndex x0 x1) (fun z=>some z):=by kernel_rfl
    rw[h];cases gIndex x0 x1<;>rfl
end Go.Proofs.YtgcaeappeolhjaaDoor
