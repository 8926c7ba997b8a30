/-
 strconv.ParseUint, ParseInt, known by hand: base 10, at 63 and 64 bits.
-/
import Derived.Test.YtjionkknnajjgaaGreatDoorFlatM4
import Derived.Shelf.Pu.ParseUintPublic10
import Derived.Shelf.Strconv.ParseIntPublic10
import Derived.Shelf.Strings.Search2
import Derived.Shelf.Strings.Split
set_option linter.unusedVariables false
namespace Go.Proofs
open Go.Shelf Go.RowKit
variable {P:Program} {ρ:Ren}
set_option maxHeartbeats 32000000 in
set_option maxRecDepth 100000 in
theorem pu63_row (L:LaysPu.n16 P ρ) (t:ByteArray) (hne:t.size≠0) (hmax:t.size≤9223372036854775806) (w:World) :
  Calls P (ρ.f 16) #[.string t,.int .i64 10,.int .i64 63] w fun e w'=>e = .returned (Lib.uintTupleM (ρ.t 34) 9223372036854775807 (Lib.parseUintM 9223372036854775807 0 t.data.toList))∧w'=Lib.bytesWorld w (ρ.t 5) t:=by
 have mixed:=L.mixed;have t9:=L.t9;have a9:=L.a9;have z9:=L.z9;have v9:=L.v9;have t3:=L.t3;have a3:=L.a3;have z3:=L.z3;have v3:=L.v3;have t22:=L.t22;have a22:=L.a22;have z22:=L.z22;have v22:=L.v22;have t24:=L.t24;have a24:=L.a24;have z24:=L.z24;have v24:=L.v24;have t4:=L.t4;have a4:=L.a4;have z4:=L.z4;have v4:=L.v4;have t34:=L.t34;have a34:=L.a34;have z34:=L.z34;have v34:=L.v34;have t5:=L.t5;have a5:=L.a5;have z5:=L.z5;have v5:=L.v5;have t36:=L.t36;have a36:=L.a36;have z36:=L.z36;have v36:=L.v36;have t37:=L.t37;have a37:=L.a37;have z37:=L.z37;have v37:=L.v37
 have t0:=L.t0;have a0:=L.a0;have z0:=L.z0;have v0:=L.v0;have e19:∀args w,(callFunc (ρ.f 19) args).run P w = .ok (.enter (ρ.f 19) args) w:=enters_of L.f19 (by kernel_rfl) rfl;have hemp:t.toList.isEmpty=false:=by
  rw[←decide_eq_emptyBytes];exact decide_eq_false (fun h=>hne (by rw[h];rfl))
 have hcv:=Lib.run_convert_string_bytes (P:=P) w (ρ.t 9) (ρ.t 37) (ρ.t 5) t (u := .string) L.t9 L.t37 L.t5;have hB:∀j,j<t.size→(Lib.bytesWorld w (ρ.t 5) t).cell? ⟨w.heap.size,j,none⟩=some (.int .u8 (t.data.toList.getD j 0).toNat):=fun j hj=>Lib.bytesWorld_cell w (ρ.t 5) t j hj
 obtain ⟨W1,hW1⟩:∃W1,W1=Lib.bytesWorld w (ρ.t 5) t:=⟨_,rfl⟩;rw[←hW1] at hcv hB ⊢;clear hW1;obtain ⟨bs,hL⟩:∃bs,bs=t.data.toList:=⟨_,rfl⟩;have hLn:bs.length=t.size:=by rw[hL,Lib.size_eq]
 rw[←hL] at hB ⊢;clear hL;have hmv:IntKind.u64.wrap (IntKind.u64.wrap 9223372036854775808-1)=9223372036854775807:=by
  rw[IntKind.wrap_u64,IntKind.wrap_u64];decide
 go_enter L.f16,BodyPu.n16_ntmps ρ
 go_wp2
 go_loop [12,13,101] (fun vu vn vi=>∃(k acc:Nat) (a:Int),vu = .bool false∧vn = .int .u64 a∧vi = .int .i64 k∧k≤t.size∧Hid (a=(acc:Int)∧acc≤9223372036854775807∧Lib.parseUintM 9223372036854775807 0 bs=Lib.parseUintM 9223372036854775807 acc (bs.drop k)))
  (fun _ _ vi=>t.size-(intOf vi).toNat)
 case atStart=>exact ⟨0,0,0,rfl,rfl,rfl,by omega,rfl,by omega,rfl⟩
 case round =>
  obtain ⟨k,acc,a,rfl,rfl,rfl,hk,hh⟩:=hrel;obtain ⟨ha,hacc,hdec⟩:=hh.out;clear hh;have a0:0≤a:=by omega
  have a1:a≤9223372036854775807:=by omega
  by_cases hkn:k<t.size
  ·have hc:=hB k hkn;have hdrop:bs.drop k=bs[k]'(by omega)::bs.drop (k+1):=List.drop_eq_getElem_cons (by omega);have hget:bs.getD k 0=bs[k]'(by omega):=by simp[List.getD,List.getElem?_eq_getElem (show k<bs.length by omega)]
   rw[hdrop] at hdec;rw[hget] at hc;generalize bs[k]'(by omega)=c at hc hdec;have hc256:c.toNat<256:=c.toNat_lt;clear hB hdrop hget;by_cases hdig:48≤c.toNat∧c.toNat≤57
   ·obtain ⟨hd0,hd1⟩:=hdig;by_cases hcut:1844674407370955162≤acc
    ·have hF:Lib.parseUintM 9223372036854775807 acc (c::bs.drop (k+1)) = .range:=by simp[Lib.parseUintM,hd0,hd1,hcut]
     rw[hF] at hdec;have icut:1844674407370955162≤a:=by omega
     clear hcut hacc hF ha
     go_wp2
     go_ret2
     exact ⟨rfl,rfl⟩
    ·by_cases hov:9223372036854775807<acc*10+(c.toNat-48)
     ·have hF:Lib.parseUintM 9223372036854775807 acc (c::bs.drop (k+1)) = .range:=by simp[Lib.parseUintM,hd0,hd1,hcut,hov]
      rw[hF] at hdec;have icut:a<1844674407370955162:=by omega
      have iov:9223372036854775807<a*10+((c.toNat:Int)-48):=by omega
      by_cases hwr:a*10+((c.toNat:Int)-48)<18446744073709551616
      ·clear hcut hacc hF hov ha
       go_wp2
       go_ret2
       exact ⟨rfl,rfl⟩
      ·have hwr2:IntKind.u64.wrap (a*10+((c.toNat:Int)-48))=a*10+((c.toNat:Int)-48)-18446744073709551616:=by
        rw[IntKind.wrap_u64];omega
       clear hcut hacc hF hov ha
       go_wp2
       go_ret2
       exact ⟨rfl,rfl⟩
     ·have hF:Lib.parseUintM 9223372036854775807 acc (c::bs.drop (k+1))=Lib.parseUintM 9223372036854775807 (acc*10+(c.toNat-48)) (bs.drop (k+1)):=by simp[Lib.parseUintM,hd0,hd1,hcut,hov]
      have HN:Hid (a*10+((c.toNat:Int)-48)=((acc*10+(c.toNat-48):Nat):Int)∧acc*10+(c.toNat-48)≤9223372036854775807∧Lib.parseUintM 9223372036854775807 0 bs=Lib.parseUintM 9223372036854775807 (acc*10+(c.toNat-48)) (bs.drop (k+1))):=Lib.hid ⟨by omega,by omega,hdec.trans hF⟩;have icut:a<1844674407370955162:=by omega
      have iov:a*10+((c.toNat:Int)-48)≤9223372036854775807:=by omega
      clear hcut hacc hF hov hdec ha
      go_wp2
      refine ⟨⟨k+1,acc*10+(c.toNat-48),a*10+((c.toNat:Int)-48),rfl,(by first | rfl | (congr 1;omega)),(by first | rfl | (congr 1;omega)),by omega,HN⟩,by simp[intOf];omega⟩
   ·have hF:Lib.parseUintM 9223372036854775807 acc (c::bs.drop (k+1))=Lib.NumEnd.syntax:=by simp[Lib.parseUintM,hdig]
    rw[hF] at hdec;clear hacc hF ha;have hv0:=bits_lo_u8 .or (c.toNat:Int) 32;have hv1:=bits_hi_u8 .or (c.toNat:Int) 32;have hu0:=bits_lo_u8 .or 95 32;have hu1:=bits_hi_u8 .or 95 32
    go_wp2_with (go_at_fn (ρ.f 19);refine (AnyPu.internal_strconv_lower { L with } _ _).mono ?_;rintro e w' ⟨rfl,rfl⟩)
    all_goals go_ret2
    all_goals first | exact ⟨rfl,rfl⟩ | exact ⟨by rw[hdec];rfl,rfl⟩
  ·have hkk:k=t.size:=by omega
   subst hkk;have hF:Lib.parseUintM 9223372036854775807 acc (bs.drop t.size) = .ok acc:=by rw[List.drop_eq_nil_of_le (by omega)];rfl
   rw[hF] at hdec;subst ha;clear hacc hF a0 a1
   go_wp2
   go_ret2
   exact ⟨rfl,rfl⟩
theorem pu63_in (L:LaysPu.n16 P ρ) (t:ByteArray) (hmax:t.size≤9223372036854775806) (w:World) :
  Calls P (ρ.f 16) #[.string t,.int .i64 10,.int .i64 63] w fun e w'=>e = .returned (Lib.uintTupleM (ρ.t 34) 9223372036854775807 (Lib.parseUintB 63 t.data.toList))∧Below w.heap.size w w':=by
 have eM:(2:Nat)^63-1=9223372036854775807:=by decide
 by_cases h0:t.size=0
 ·have ht:t=⟨#[]⟩:=ByteArray.ext (Array.eq_empty_of_size_eq_zero h0);subst ht;refine (AnyPu.internal_strconv_ParseUint_empty { L with } 10 63 w).mono ?_;rintro e w' ⟨he,rfl⟩;exact ⟨he,Below.refl _ _⟩
 ·have hne:t.data.toList≠[]:=fun h=>h0 (by rw[Lib.size_eq,h];rfl)
  refine (pu63_row L t h0 hmax w).mono ?_;rintro e w' ⟨he,rfl⟩;exact ⟨by rw[he,Lib.parseUintB,if_neg hne,eM],Lib.bytesWorld_below _ _ _⟩
theorem pu64_in (L:LaysPu.n16 P ρ) (t:ByteArray) (hmax:t.size≤9223372036854775806) (w:World) :
  Calls P (ρ.f 16) #[.string t,.int .i64 10,.int .i64 64] w fun e w'=>e = .returned (Lib.uintTupleM (ρ.t 34) 18446744073709551615 (Lib.parseUintB 64 t.data.toList))∧Below w.heap.size w w':=by
 refine (AnyPu.internal_strconv_ParseUint_10_at64 { L with } t hmax w).mono ?_;rintro e w' ⟨he,hw⟩;refine ⟨he,?_⟩;rcases hw with rfl | rfl
 ·exact Below.refl _ _
 ·exact Lib.bytesWorld_below _ _ _
def puV (B:Nat) (l:List UInt8):Int×Bool :=
 match Lib.parseUintB B l with
 | .ok u=>(u,false)
 | Lib.NumEnd.syntax=>(0,true)
 | .range=>(((2^B-1:Nat):Int),true)
set_option maxHeartbeats 4000000 in
set_option maxRecDepth 100000 in
theorem pu_out (L:LaysPu.n14 P ρ) (B:Nat) (M:Int) (hM:M=((2^B-1:Nat):Int)) (s:ByteArray) (hlim:s.size≤281474976710656) (w:World)
  (hIn:Calls P (ρ.f 16) #[.string s,.int .i64 10,.int .i64 B] w fun e w'=>e = .returned (Lib.uintTupleM (ρ.t 34) M (Lib.parseUintB B s.data.toList))∧Below w.heap.size w w')
  (ev0 ev1:Value) (hv0:w.cell? ⟨(ρ.g 0),0,none⟩=some ev0) (he0:ev0 = .nilIface∨∃te pe,ev0 = .iface te pe) (hv1:w.cell? ⟨(ρ.g 1),0,none⟩=some ev1) (he1:ev1 = .nilIface∨∃te pe,ev1 = .iface te pe) :
  Calls P (ρ.f 14) #[.string s,.int .i64 10,.int .i64 B] w fun e w'=>∃u,e = .returned (.tuple #[.int .u64 (puV B s.data.toList).1,u])∧u.oneCell'=true∧((puV B s.data.toList).2=false→u = .nilIface)∧((puV B s.data.toList).2=true→∃t p,u = .iface t p)∧Below w.heap.size w w':=by
 have mixed:=L.mixed;have t9:=L.t9;have a9:=L.a9;have z9:=L.z9;have v9:=L.v9;have t3:=L.t3;have a3:=L.a3;have z3:=L.z3;have v3:=L.v3;have t22:=L.t22;have a22:=L.a22;have z22:=L.z22;have v22:=L.v22;have t24:=L.t24;have a24:=L.a24;have z24:=L.z24;have v24:=L.v24;have t25:=L.t25;have a25:=L.a25;have z25:=L.z25;have v25:=L.v25;have t4:=L.t4;have a4:=L.a4;have z4:=L.z4;have v4:=L.v4;have e16:∀args w,(callFunc (ρ.f 16) args).run P w = .ok (.enter (ρ.f 16) args) w:=enters_of L.f16 (by kernel_rfl) rfl
 have e17:∀args w,(callFunc (ρ.f 17) args).run P w = .ok (.enter (ρ.f 17) args) w:=enters_of L.f17 (by kernel_rfl) rfl;have hG0:(ρ.g 0)<w.heap.size:=Lib.lt_of_cell hv0;have hG1:(ρ.g 1)<w.heap.size:=Lib.lt_of_cell hv1;obtain ⟨b,hb⟩:∃b:Int,b=(B:Int):=⟨_,rfl⟩;rw[←hb] at hIn ⊢;rcases hp:Lib.parseUintB B s.data.toList with u | _ | _
 ·
  have hV:puV B s.data.toList=((u:Int),false):=by unfold puV;rw[hp]
  rw[hV];rw[hp] at hIn;have hI:Calls P (ρ.f 16) #[.string s,.int .i64 10,.int .i64 b] w fun e w'=>e = .returned (.tuple #[.int .u64 u,.nilIface])∧Below w.heap.size w w':=hIn
  clear hIn hp hV hM hb
  go_enter L.f14,BodyPu.n14_ntmps ρ
  go_wp2_with (go_at_fn (ρ.f 16);refine hI.mono ?_;rintro e W1 ⟨rfl,hW⟩)
  go_wp2
  go_ret2
  exact ⟨.nilIface,rfl,rfl,fun _=>rfl,fun h=>(by cases h),hW⟩
 ·
  have hV:puV B s.data.toList=(0,true):=by unfold puV;rw[hp]
  rw[hV];rw[hp] at hIn;have hI:Calls P (ρ.f 16) #[.string s,.int .i64 10,.int .i64 b] w fun e w'=>e = .returned (.tuple #[.int .u64 0,.iface (ρ.t 34) (.int .i64 2)])∧Below w.heap.size w w':=hIn
  clear hIn hp hV hM hb
  go_enter L.f14,BodyPu.n14_ntmps ρ
  go_wp2_with (go_at_fn (ρ.f 16);refine hI.mono ?_)
  rintro e W1 ⟨rfl,hb1⟩;have hv:W1.cell? ⟨(ρ.g 0),0,none⟩=some ev0:=(hb1.cell (show (⟨(ρ.g 0),0,none⟩:Addr).block<w.heap.size from hG0)).trans hv0
  go_wp2_with (go_at_fn (ρ.f 17);refine (AnyPu.strconv_toError_syntax { L with } ⟨#[80,97,114,115,101,85,105,110,116]⟩ s 10 b ev0 _ hlim ?_ he0).mono ?_)
  ·exact hv
  rintro e W2 ⟨N,rfl,h1,h2,h3⟩
  go_wp2
  go_ret2
  exact ⟨_,rfl,rfl,fun h=>(by cases h),fun _=>⟨_,_,rfl⟩,hb1.trans (h3.mono hb1.size)⟩
 ·
  have hV:puV B s.data.toList=(M,true):=by unfold puV;rw[hp,hM]
  rw[hV];rw[hp] at hIn;have hI:Calls P (ρ.f 16) #[.string s,.int .i64 10,.int .i64 b] w fun e w'=>e = .returned (.tuple #[.int .u64 M,.iface (ρ.t 34) (.int .i64 1)])∧Below w.heap.size w w':=hIn
  clear hIn hp hV hM hb
  go_enter L.f14,BodyPu.n14_ntmps ρ
  go_wp2_with (go_at_fn (ρ.f 16);refine hI.mono ?_)
  rintro e W1 ⟨rfl,hb1⟩;have hv:W1.cell? ⟨(ρ.g 1),0,none⟩=some ev1:=(hb1.cell (show (⟨(ρ.g 1),0,none⟩:Addr).block<w.heap.size from hG1)).trans hv1
  go_wp2_with (go_at_fn (ρ.f 17);refine (AnyPu.strconv_toError_range { L with } ⟨#[80,97,114,115,101,85,105,110,116]⟩ s 10 b ev1 _ hlim ?_ he1).mono ?_)
  ·exact hv
  rintro e W2 ⟨N,rfl,h1,h2,h3⟩
  go_wp2
  go_ret2
  exact ⟨_,rfl,rfl,fun h=>(by cases h),fun _=>⟨_,_,rfl⟩,hb1.trans (h3.mono hb1.size)⟩
def piV (B:Nat) (l:List UInt8):Int×Bool :=
 match Lib.parseIntB B l with
 | .ok v=>(v,false)
 | Lib.NumEnd.syntax=>(0,true)
 | .range=>(Lib.intSat B l,true)
end Go.Proofs
namespace Go.Flat
open Go.Shelf Go.RowKit Go.Proofs
noncomputable def a1v (s t:List UInt8):Option Int:=tif (decide (s.length<4294967281)) (some (Lib.index s t)) none
noncomputable def e1j (s t:List UInt8):Option Int:=tif (decide (s.length<4294967281)&&decide (1≤t.length)) (some ((Lib.countB ⟨s.toArray⟩ ⟨t.toArray⟩:Nat):Int)) none
noncomputable def j0s (s:List UInt8) (base bits:Int):Option (Int×Bool):=tif (decide (s.length≤281474976710656)&&(decide (base=10)&&(decide (bits=63)||decide (bits=64)))) (some (puV bits.toNat s)) none
noncomputable def m0m (s:List UInt8) (base bits:Int):Option (Int×Bool):=tif (decide (s.length≤281474976710656)&&(decide (base=10)&&decide (bits=64))) (some (piV 64 s)) none
section
variable {P:Program} {G:World→Fz→Prop} {ρ:Ren}
theorem j0v (s:List UInt8):(⟨s.toArray⟩:ByteArray).size=s.length:=by simp[ByteArray.size]
theorem hc_Index (L:Lays.n219 P ρ) (hg:∀W F,G W F→r0u 1 (W.cell? ⟨ρ.g 1,0,none⟩)):h0b P G (ρ.f 219) ⟨[.str,.str],[.int .i64],[]⟩ (fun x=>a1v x.1 x.2.1) :=
 a2t (g:=Lib.index) (D:=fun s _=>decide (s.length<4294967281)) fun s t W F hG hD=>by
  obtain ⟨m,hm⟩:=hg W F hG;exact Any.stringslite_Index L ⟨s.toArray⟩ ⟨t.toArray⟩ m W (by rw[j0v];simpa using hD) hm
theorem hc_Count (L:Lays.n138 P ρ) (hg:∀W F,G W F→r0u 1 (W.cell? ⟨ρ.g 1,0,none⟩)):h0b P G (ρ.f 138) ⟨[.str,.str],[.int .i64],[]⟩ (fun x=>e1j x.1 x.2.1) :=
 a2t (g:=fun s t=>((Lib.countB ⟨s.toArray⟩ ⟨t.toArray⟩:Nat):Int)) (D:=fun s t=>decide (s.length<4294967281)&&decide (1≤t.length)) fun s t W F hG hD=>by
  obtain ⟨m,hm⟩:=hg W F hG;simp only[Bool.and_eq_true,decide_eq_true_eq] at hD;exact Any.strings_Count_any L ⟨s.toArray⟩ ⟨t.toArray⟩ m W (by rw[j0v];exact hD.1) hm (by rw[j0v];exact hD.2)
theorem l1r (L:LaysPu.n14 P ρ) (hg:∀W F,G W F→r0u 2 (W.cell? ⟨ρ.g 0,0,none⟩)∧r0u 2 (W.cell? ⟨ρ.g 1,0,none⟩)):h0b P G (ρ.f 14) ⟨[.str,.int .i64,.int .i64],[.int .u64,.err],[]⟩ (fun x=>j0s x.1 x.2.1 x.2.2.1) :=
 r1t (k := .u64) (g:=fun bits s=>puV bits.toNat s) (D:=fun s base bits=>decide (s.length≤281474976710656)&&(decide (base=10)&&(decide (bits=63)||decide (bits=64)))) fun s base bits W F hG hD=>by
  obtain ⟨⟨e0,h0,i0⟩,⟨e1,h1,i1⟩⟩:=hg W F hG;simp only[Bool.and_eq_true,Bool.or_eq_true,decide_eq_true_eq] at hD;obtain ⟨hl,rfl,hb⟩:=hD;have hl':(⟨s.toArray⟩:ByteArray).size≤281474976710656:=by rw[j0v];exact hl
  rcases hb with rfl | rfl
  ·exact pu_out L 63 9223372036854775807 (by decide) ⟨s.toArray⟩ hl' W (pu63_in { L with } _ (by omega) W) e0 e1 h0 i0 h1 i1
  ·exact pu_out L 64 18446744073709551615 (by decide) ⟨s.toArray⟩ hl' W (pu64_in { L with } _ (by omega) W) e0 e1 h0 i0 h1 i1
theorem p1a (L:LaysC.n174 P ρ) (hg:∀W F,G W F→r0u 2 (W.cell? ⟨ρ.g 15,0,none⟩)∧r0u 2 (W.cell? ⟨ρ.g 16,0,none⟩)):h0b P G (ρ.f 174) ⟨[.str,.int .i64,.int .i64],[.int .i64,.err],[]⟩ (fun x=>m0m x.1 x.2.1 x.2.2.1) :=
 r1t (k := .i64) (g:=fun _ s=>piV 64 s) (D:=fun s base bits=>decide (s.length≤281474976710656)&&(decide (base=10)&&decide (bits=64))) fun s base bits W F hG hD=>by
  obtain ⟨⟨e0,h0,i0⟩,⟨e1,h1,i1⟩⟩:=hg W F hG;simp only[Bool.and_eq_true,decide_eq_true_eq] at hD;obtain ⟨hl,rfl,rfl⟩:=hD;have hl':(⟨s.toArray⟩:ByteArray).size≤281474976710656:=by rw[j0v];exact hl
  rcases hp:Lib.parseIntB 64 s with v | _ | _
  ·
   have hV:piV 64 s=(v,false):=by unfold piV;rw[hp]
   rw[hV];refine (Any.strconv_ParseInt_10_at64_ok L ⟨s.toArray⟩ (by omega) v hp W).mono ?_;rintro e W' ⟨rfl,hw⟩;refine ⟨.nilIface,rfl,rfl,fun _=>rfl,fun h=>(by cases h),?_⟩;rcases hw with rfl | ⟨t,rfl⟩
   ·exact Below.refl _ _
   ·exact Lib.bytesWorld_below _ _ _
  ·
   have hV:piV 64 s=(0,true):=by unfold piV;rw[hp]
   rw[hV];refine (Any.strconv_ParseInt_10_at64_syntax L ⟨s.toArray⟩ hl' hp e0 W h0 i0).mono ?_;rintro e W' ⟨N,rfl,_,_,hb⟩;exact ⟨_,rfl,rfl,fun h=>(by cases h),fun _=>⟨_,_,rfl⟩,hb⟩
  ·
   have hV:piV 64 s=(Lib.intSat 64 s,true):=by unfold piV;rw[hp]
   rw[hV];refine (Any.strconv_ParseInt_10_at64_range L ⟨s.toArray⟩ hl' hp e1 W h1 i1).mono ?_;rintro e W' ⟨N,rfl,_,_,hb⟩;exact ⟨_,rfl,rfl,fun h=>(by cases h),fun _=>⟨_,_,rfl⟩,hb⟩
end
end Go.Flat
