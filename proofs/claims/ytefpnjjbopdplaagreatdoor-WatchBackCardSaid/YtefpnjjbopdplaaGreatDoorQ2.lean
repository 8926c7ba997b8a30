/-
  Plain proofs about the functions of this seat, part 2 of 3.
-/
import Derived.Test.YtefpnjjbopdplaaGreatDoorQ1
import Derived.Test.YtefpnjjbopdplaaGreatDoorTr
import Derived.Test.YtefpnjjbopdplaaGreatDoorFlatM3
namespace Go.Proofs.YtefpnjjbopdplaaGreatDoor
open Go.Flat Go.Plim
set_option linter.unusedVariables false
set_option linter.unusedSimpArgs false
theorem at_nat {α:Type} (xs:List α) (i:Nat):at? xs (i:Int)=xs[i]? := by simp[at?]
theorem at_some {α:Type} {xs:List α} {i:Nat} (h:i<xs.length):at? xs (i:Int)=some xs[i]:=by simp[at?,h]
theorem wn {x:Int} {k:Nat} (h:x=k) (hk:k≤4000000000000):IntKind.wrap .i64 x=(k:Int):=by rw[w64 (by omega) (by omega),h]
theorem half_nat (a b:Nat) (h:a+b≤4000000000000):IntKind.wrap .i64 (shrI .u64 (IntKind.wrap .u64 (IntKind.wrap .i64 ((a:Int)+(b:Int)))) 1)=(((a+b) / 2:Nat):Int):=by
  rw[w64 (x:=(a:Int)+b) (by omega) (by omega),wu64 (by omega) (by omega)]
  have e:shrI .u64 ((a:Int)+(b:Int)) 1=(((a+b) / 2:Nat):Int):=by
    show Int.fdiv ((a:Int)+b) (2^(min 1 64))=_
    rw[show ((2:Int)^(min 1 64))=2 from by decide,Int.fdiv_eq_ediv_of_nonneg _ (by decide)]
    omega
  rw[e,w64 (by omega) (by omega)]
theorem tif_tif {α:Type} (p q:Prop) [Decidable p] [Decidable q] (x y:α):tif (decide p) (tif (decide q) x y) y=if p∧q then x else y:=by
  by_cases hp:p<;>by_cases hq:q<;>simp[hp,hq]
def Cmp (cmp:(TSlot×(TSlot×Unit))→Option Int) (key:TSlot→Int):Prop:=∀x y,∃c,cmp (x,(y,()))=some c∧(c<0↔key x<key y)
section
variable {cmp:(TSlot×(TSlot×Unit))→Option Int} {key:TSlot→Int} (hc:Cmp cmp key)
include hc
theorem ins_l4 (n:Nat) (a b:Int) (an i:Nat) (ha:a=an):∀(k f:Nat) (d:List TSlot),k≤i-an→an+k≤i→k<f→i<d.length→d.length≤1000000000000 →
    (∀p q x y,an≤p→p<q→q≤i→p≠an+k→q≠an+k→d[p]? = some x→d[q]? = some y→key x≤key y) →
    (∀q x y,an+k<q→q≤i→d[an+k]? = some x→d[q]? = some y→key x≤key y) →
    ∃d',sl_insS_l4 n f (d,a,b,cmp,(i:Int),((an+k:Nat):Int),())=some (.inl (d',a,b,cmp,(i:Int),()))∧Mv d d' an (i+1)∧Srt key d' an (i+1):=by
  subst ha
  intro k
  induction k with
  | zero =>
    intro f d hk hi hf hl hL h1 h2
    obtain ⟨f,rfl⟩:∃g,f=g+1:=⟨f-1,by omega⟩
    rw[sl_insS_l4_eq]
    simp only[tfd,if_neg (show ¬((an:Int)<((an+0:Nat):Int)) by omega)]
    refine ⟨d,rfl,.refl _ _ _,fun p q x y q1 q2 q3 hx hy => ?_⟩
    by_cases e:p=an+0
    · subst e;exact h2 q x y q2 (by omega) hx hy
    · exact h1 p q x y q1 q2 (by omega) e (by omega) hx hy
  | succ k ih =>
    intro f d hk hi hf hl hL h1 h2
    obtain ⟨f,rfl⟩:∃g,f=g+1:=⟨f-1,by omega⟩
    rw[sl_insS_l4_eq]
    have e1:IntKind.wrap .i64 (((an+(k+1):Nat):Int)-1)=((an+k:Nat):Int):=wn (by omega) (by omega)
    have lj:an+(k+1)<d.length:=by omega
    have lk:an+k<d.length:=by omega
    obtain ⟨c,hcm,hlt⟩:=hc d[an+(k+1)] d[an+k]
    have gj:d[an+(k+1)]? = some d[an+(k+1)]:=List.getElem?_eq_getElem lj
    have gk:d[an+k]? = some d[an+k]:=List.getElem?_eq_getElem lk
    simp only[tfd,if_pos (show ((an:Int)<((an+(k+1):Nat):Int)) by omega),e1,at_nat,Int.toNat_natCast,gj,gk,obs,hcm]
    by_cases hlt':c<0
    · have kl:=hlt.1 hlt'
      have g1:(d.set (an+(k+1)) d[an+k])[an+k]? = some d[an+k]:=by rw[List.getElem?_set_ne (by omega)];exact gk
      simp only[if_pos hlt',g1,obs]
      have sg:=swap_get (d:=d) gj gk
      have mv:=swap_mv (d:=d) (a:=an) (b:=i+1) gj gk (by omega) (by omega) (by omega) (by omega)
      obtain ⟨d',r1,r2,r3⟩:=ih f ((d.set (an+(k+1)) d[an+k]).set (an+k) d[an+(k+1)]) (by omega) (by omega) (by omega) (by simpa using hl) (by simpa using hL)
        (fun p q x y q1 q2 q3 p1 p2 hx hy=>by
          rw[sg] at hx hy
          rw[if_neg p1] at hx;rw[if_neg p2] at hy
          by_cases ep:p=an+(k+1)
          · rw[if_pos ep] at hx
            rw[if_neg (by omega)] at hy
            have:d[an+k]? = some x:=by rw[gk];exact hx
            exact h1 (an+k) q x y (by omega) (by omega) q3 (by omega) (by omega) this hy
          · rw[if_neg ep] at hx
            by_cases eq:q=an+(k+1)
            · rw[if_pos eq] at hy
              have:d[an+k]? = some y:=by rw[gk];exact hy
              exact h1 p (an+k) x y q1 (by omega) (by omega) ep (by omega) hx this
            · rw[if_neg eq] at hy
              exact h1 p q x y q1 q2 q3 ep eq hx hy)
        (fun q x y q1 q2 hx hy=>by
          rw[sg] at hx hy
          rw[if_pos rfl] at hx
          injection hx with hx
          subst hx
          rw[if_neg (by omega)] at hy
          by_cases eq:q=an+(k+1)
          · rw[if_pos eq] at hy
            injection hy with hy
            subst hy
            omega
          · rw[if_neg eq] at hy
            exact h2 q _ y (by omega) q2 gj hy)
      exact ⟨d',r1,mv.trans r2,r3⟩
    · simp only[if_neg hlt']
      refine ⟨d,rfl,.refl _ _ _,fun p q x y q1 q2 q3 hx hy => ?_⟩
      have kl:key d[an+k]≤key d[an+(k+1)]:=by
        have:=mt hlt.2 hlt';omega
      by_cases ep:p=an+(k+1)
      · subst ep;exact h2 q x y q2 (by omega) hx hy
      · by_cases eq:q=an+(k+1)
        · subst eq
          rw[gj] at hy;injection hy with hy;subst hy
          by_cases e3:p=an+k
          · subst e3;rw[gk] at hx;injection hx with hx;subst hx;exact kl
          · have:=h1 p (an+k) x _ q1 (by omega) (by omega) ep (by omega) hx gk
            omega
        · exact h1 p q x y q1 q2 (by omega) ep eq hx hy
theorem ins_l1 (n:Nat) (a b:Int) (an bn:Nat) (ha:a=an) (hb:b=bn):∀(k f:Nat) (i:Nat) (d:List TSlot),bn-i≤k→k<f→an<i→(i≤bn∨bn≤an+1)→bn≤d.length→d.length≤1000000000000→Srt key d an i →
    ∃d',sl_insS_l1 n f (d,a,b,cmp,(i:Int),())=some (.inl (d',()))∧Mv d d' an bn∧Srt key d' an bn:=by
  intro k
  induction k with
  | zero =>
    intro f i d hk hf hi hib hl hL hs
    obtain ⟨f,rfl⟩:∃g,f=g+1:=⟨f-1,by omega⟩
    rw[sl_insS_l1_eq]
    subst ha hb
    simp only[tfd,if_neg (show ¬((i:Int)<(bn:Int)) by omega)]
    exact ⟨d,rfl,.refl _ _ _,hs.mono (by omega) (by omega)⟩
  | succ k ih =>
    intro f i d hk hf hi hib hl hL hs
    obtain ⟨f,rfl⟩:∃g,f=g+1:=⟨f-1,by omega⟩
    rw[sl_insS_l1_eq]
    by_cases hlt:i<bn
    · obtain ⟨d',r1,r2,r3⟩:=ins_l4 hc n a b an i ha (i-an) loopFuel d (by omega) (by omega) (by unfold loopFuel;omega) (by omega) hL
        (fun p q x y q1 q2 q3 p1 p2 hx hy=>hs p q x y q1 q2 (by omega) hx hy) (fun q x y q1 q2=>by omega)
      rw[show an+(i-an)=i by omega] at r1
      subst ha hb
      simp only[tfd,if_pos (show ((i:Int)<(bn:Int)) by omega),r1,obs,selim_inl]
      rw[wn (k:=i+1) (by omega) (by omega)]
      have ml:=r2.len
      obtain ⟨d'',s1,s2,s3⟩:=ih f (i+1) d' (by omega) (by omega) (by omega) (by omega) (by omega) (by omega) r3
      exact ⟨d'',s1,(r2.mono (by omega) (by omega)).trans s2,s3⟩
    · subst ha hb
      simp only[tfd,if_neg (show ¬((i:Int)<(bn:Int)) by omega)]
      exact ⟨d,rfl,.refl _ _ _,hs.mono (by omega) (by omega)⟩
theorem ins_ok (n:Nat) (a b:Int) (an bn:Nat) (ha:a=an) (hb:b=bn) (d:List TSlot) (hab:an≤bn) (hl:bn≤d.length) (hL:d.length≤1000000000000) :
    ∃d',sl_insS (n+1) d a b cmp=some d'∧Mv d d' an bn∧Srt key d' an bn:=by
  rw[sl_insS_eq]
  have e:IntKind.wrap .i64 (a+1)=((an+1:Nat):Int):=wn (by omega) (by omega)
  rw[e]
  obtain ⟨d',r1,r2,r3⟩:=ins_l1 hc n a b an bn ha hb bn loopFuel (an+1) d (by omega) (by unfold loopFuel;omega) (by omega) (by omega) hl hL (Srt.one _ _ (by omega))
  rw[r1]
  exact ⟨d',by simp,r2,r3⟩
omit hc in
theorem swapRange_l1 (n:Nat) (a b m:Int) (P:List TSlot):∀(k f i:Nat) (X X' M Y Y' S:List TSlot),X'.length=k→Y'.length=k→X.length=i→Y.length=i→k<f →
    a=P.length→b=P.length+X.length+X'.length+M.length→m=i+k→b+m≤2000000000000 →
    sl_swpR_l1 n f (P++(Y++(X'++(M++(X++(Y'++S))))),a,b,m,(i:Int),())=some (.inl (P++(Y++(Y'++(M++(X++(X'++S))))),())):=by
  intro k
  induction k with
  | zero =>
    intro f i X X' M Y Y' S h1 h2 h3 h4 hf ha hb hm hs
    obtain ⟨f,rfl⟩:∃g,f=g+1:=⟨f-1,by omega⟩
    obtain rfl:=List.length_eq_zero_iff.1 h1
    obtain rfl:=List.length_eq_zero_iff.1 h2
    rw[sl_swpR_l1_eq]
    simp only[tfd,if_neg (show ¬((i:Int)<m) by omega)]
  | succ k ih =>
    intro f i X X' M Y Y' S h1 h2 h3 h4 hf ha hb hm hs
    obtain ⟨f,rfl⟩:∃g,f=g+1:=⟨f-1,by omega⟩
    match X',Y' with
    | x::X',y::Y' =>
      simp only[List.length_cons] at h1 h2 hb
      rw[sl_swpR_l1_eq]
      have ea:IntKind.wrap .i64 (a+(i:Int))=((P.length+i:Nat):Int):=wn (by omega) (by omega)
      have eb:IntKind.wrap .i64 (b+(i:Int))=((P.length+i+(k+1)+M.length+i:Nat):Int):=wn (by omega) (by omega)
      have g1:(P++(Y++(x::X'++(M++(X++(y::Y'++S))))))[P.length+i]? = some x:=by
        rw[List.getElem?_append_right (by omega),List.getElem?_append_right (by omega)]
        rw[show P.length+i-P.length-Y.length=0 by omega];rfl
      have g2:(P++(Y++(x::X'++(M++(X++(y::Y'++S))))))[P.length+i+(k+1)+M.length+i]? = some y:=by
        rw[List.getElem?_append_right (by omega),List.getElem?_append_right (by omega),List.getElem?_append_right (by simp;omega),List.getElem?_append_right (by simp;omega),List.getElem?_append_right (by simp;omega)]
        simp only[List.length_cons]
        rw[show P.length+i+(k+1)+M.length+i-P.length-Y.length-(X'.length+1)-M.length-X.length=0 by omega];rfl
      have s1:(P++(Y++(x::X'++(M++(X++(y::Y'++S)))))).set (P.length+i) y=P++(Y++(y::X'++(M++(X++(y::Y'++S))))):=by
        rw[List.set_append_right _ _ (by omega),List.set_append_right _ _ (by omega),show P.length+i-P.length-Y.length=0 by omega];rfl
      have s2:(P++(Y++(y::X'++(M++(X++(y::Y'++S)))))).set (P.length+i+(k+1)+M.length+i) x=P++(Y++(y::X'++(M++(X++(x::Y'++S))))):=by
        rw[List.set_append_right _ _ (by omega),List.set_append_right _ _ (by omega),List.set_append_right _ _ (by simp;omega),List.set_append_right _ _ (by simp;omega),List.set_append_right _ _ (by simp;omega)]
        simp only[List.length_cons]
        rw[show P.length+i+(k+1)+M.length+i-P.length-Y.length-(X'.length+1)-M.length-X.length=0 by omega];rfl
      have g3:(P++(Y++(y::X'++(M++(X++(y::Y'++S))))))[P.length+i+(k+1)+M.length+i]? = some y:=by
        rw[List.getElem?_append_right (by omega),List.getElem?_append_right (by omega),List.getElem?_append_right (by simp;omega),List.getElem?_append_right (by simp;omega),List.getElem?_append_right (by simp;omega)]
        simp only[List.length_cons]
        rw[show P.length+i+(k+1)+M.length+i-P.length-Y.length-(X'.length+1)-M.length-X.length=0 by omega];rfl
      simp only[tfd,if_pos (show ((i:Int)<m) by omega),ea,eb,at_nat,Int.toNat_natCast,g1,g2,s1,g3,s2,obs]
      have e6:IntKind.wrap .i64 ((i:Int)+1)=((i+1:Nat):Int):=wn (by omega) (by omega)
      rw[e6]
      have:=ih f (i+1) (X++[x]) X' M (Y++[y]) Y' S (by omega) (by omega) (by simp;omega) (by simp;omega) (by omega) ha (by simp;omega) (by omega) hs
      simp only[List.append_assoc,List.singleton_append,List.cons_append] at this ⊢
      exact this
omit hc in
theorem swapRange_ok (n:Nat) (a b m:Int) (P X M Y S:List TSlot) (h:X.length=Y.length) (ha:a=P.length) (hb:b=P.length+X.length+M.length) (hm:m=X.length) (hs:b+m≤2000000000000) (d:List TSlot) (hd:d=P++(X++(M++(Y++S)))) :
    sl_swpR (n+1) d a b m cmp=some (P++(Y++(M++(X++S)))):=by
  subst hd
  rw[sl_swpR_eq]
  have:=swapRange_l1 n a b m P X.length loopFuel 0 [] X M [] Y S rfl h.symm rfl rfl (by unfold loopFuel;omega) ha (by simp;omega) (by omega) hs
  simp only[List.nil_append] at this
  rw[show ((0:Int))=((0:Nat):Int) from rfl,this]
  simp
omit hc in
theorem rotate_l2 (n:Nat) (m:Int):∀(k f:Nat) (P U V S d:List TSlot) (i j:Int),U.length+V.length≤k→k<f→U≠[]→V≠[]→i=U.length→j=V.length→m=P.length+U.length→m+j≤1000000000000→d=P++(U++(V++S)) →
    ∃P' U' V' S' d',sl_rotS_l2 (n+1) f (d,m,cmp,i,j,())=some (.inl (d',m,cmp,(U'.length:Int),()))∧U'.length=V'.length∧m=P'.length+U'.length∧d'=P'++(U'++(V'++S'))∧P'++(V'++(U'++S'))=P++(V++(U++S)):=by
  intro k
  induction k with
  | zero =>
    intro f P U V S d i j hk hf hu hv
    exact absurd (List.length_eq_zero_iff.1 (show U.length=0 by omega)) hu
  | succ k ih =>
    intro f P U V S d i j hk hf hu hv hi hj hm hmj hd
    obtain ⟨f,rfl⟩:∃g,f=g+1:=⟨f-1,by omega⟩
    have lu:=List.length_pos_iff.2 hu
    have lv:=List.length_pos_iff.2 hv
    rw[sl_rotS_l2_eq]
    by_cases e:i=j
    · simp only[tfn,tfd,if_pos e]
      exact ⟨P,U,V,S,d,by rw[hi],by omega,hm,hd,rfl⟩
    · by_cases lt:j<i
      · -- the front of U with V
        have hU:U=U.take V.length++U.drop V.length:=(List.take_append_drop _ _).symm
        have l1:(U.take V.length).length=V.length:=by simp;omega
        have l2:(U.drop V.length).length=U.length-V.length:=by simp
        have hs:=swapRange_ok (cmp:=cmp) n (P.length:Int) m j P (U.take V.length) (U.drop V.length) V S l1 rfl (by omega) (by omega) (by omega) d (by rw[hd,←List.append_assoc (U.take V.length),←hU])
        have e1:IntKind.wrap .i64 (m-i)=(P.length:Int):=wn (by omega) (by omega)
        have e2:IntKind.wrap .i64 (i-j)=((U.drop V.length).length:Int):=wn (by omega) (by omega)
        simp only[tfn,tfd,if_neg e,if_pos lt,e1,e2,hs,obs]
        obtain ⟨P',U',V',S',d',r1,r2,r3,r4,r5⟩:=ih f (P++V) (U.drop V.length) (U.take V.length) S (P++(V++(U.drop V.length++(U.take V.length++S)))) ((U.drop V.length).length:Int) j (by omega) (by omega)
          (by intro h;rw[h] at l2;simp at l2;omega) (by intro h;rw[h] at l1;simp at l1;omega) rfl (by omega) (by simp;omega) hmj (by simp only[List.append_assoc])
        exact ⟨P',U',V',S',d',r1,r2,r3,r4,by rw[r5];rw[List.append_assoc,←List.append_assoc (U.take V.length),←hU]⟩
      · have hV:V=V.take (V.length-U.length)++V.drop (V.length-U.length):=(List.take_append_drop _ _).symm
        have l1:(V.take (V.length-U.length)).length=V.length-U.length:=by simp
        have l2:(V.drop (V.length-U.length)).length=U.length:=by simp;omega
        have hs:=swapRange_ok (cmp:=cmp) n (P.length:Int) (m+j-i) i P U (V.take (V.length-U.length)) (V.drop (V.length-U.length)) S l2.symm rfl (by omega) (by omega) (by omega) d (by rw[hd,←List.append_assoc (V.take _) (V.drop _) S,←hV])
        have e1:IntKind.wrap .i64 (m-i)=(P.length:Int):=wn (by omega) (by omega)
        have e2:IntKind.wrap .i64 (j-i)=((V.take (V.length-U.length)).length:Int):=wn (by omega) (by omega)
        have e3:IntKind.wrap .i64 (IntKind.wrap .i64 (m+j)-i)=m+j-i:=by rw[w64 (x:=m+j) (by omega) (by omega),w64 (by omega) (by omega)]
        simp only[tfn,tfd,if_neg e,if_neg lt,e1,e2,e3,hs,obs]
        obtain ⟨P',U',V',S',d',r1,r2,r3,r4,r5⟩:=ih f P (V.drop (V.length-U.length)) (V.take (V.length-U.length)) (U++S) _ i ((V.take (V.length-U.length)).length:Int) (by omega) (by omega)
          (by intro h;rw[h] at l2;simp at l2;omega) (by intro h;rw[h] at l1;simp at l1;omega) (by omega) rfl (by omega) (by omega) rfl
        exact ⟨P',U',V',S',d',r1,r2,r3,r4,by rw[r5];rw[←List.append_assoc (V.take _) (V.drop _),←hV]⟩
omit hc in
theorem rotate_ok (n:Nat) (a m b:Int) (an mn bn:Nat) (ha:a=an) (hm:m=mn) (hb:b=bn) (d:List TSlot) (h1:an<mn) (h2:mn<bn) (hl:bn≤d.length) (hL:d.length≤1000000000000) :
    ∃d',sl_rotS (n+2) d a m b cmp=some d'∧Turned d d' an mn bn:=by
  obtain ⟨P,U,V,S,hd,la,lm,lb⟩:=cut4 d (a:=an) (m:=mn) (b:=bn) (by omega) (by omega) hl
  rw[sl_rotS_eq]
  have e1:IntKind.wrap .i64 (m-a)=(U.length:Int):=wn (by omega) (by omega)
  have e2:IntKind.wrap .i64 (b-m)=(V.length:Int):=wn (by omega) (by omega)
  have hfl:U.length+V.length<loopFuel:=by
    have:d.length=P.length+(U.length+(V.length+S.length)):=by rw[hd];simp
    unfold loopFuel;omega
  have hu:U≠[]:=by intro h;rw[h] at lm;simp at lm;omega
  have hv:V≠[]:=by intro h;rw[h] at lb;simp at lb;omega
  obtain ⟨P',U',V',S',d',r1,r2,r3,r4,r5⟩:=rotate_l2 (cmp:=cmp) n m (U.length+V.length) loopFuel P U V S d (U.length:Int) (V.length:Int) (by omega) hfl hu hv rfl rfl (by omega) (by omega) hd
  have ld:d'.length=d.length:=by
    have:=congrArg List.length r5
    rw[r4,hd];simp at this ⊢;omega
  have hs:=swapRange_ok (cmp:=cmp) n (P'.length:Int) m (U'.length:Int) P' U' [] V' S' r2 rfl (by simp;omega) rfl (by rw[r4] at ld;simp at ld;omega) d' (by rw[r4];simp)
  simp only[e1,e2,r1,obs,selim_inl,wn (x:=m-(U'.length:Int)) (k:=P'.length) (by omega) (by rw[r4] at ld;simp at ld;omega),hs]
  simp only[List.nil_append]
  exact ⟨_,rfl,turned_lists (P:=P) (U:=U) (V:=V) (S:=S) hd r5 la lm lb⟩
theorem sym_l3 (n:Nat) (a:Int) (an:Nat) (ha:a=an) (d:List TSlot) (x:TSlot) (hx:d[an]? = some x) (hL:d.length≤1000000000000) (lo hi:Nat) (hs:Srt key d lo hi) (hh:hi≤d.length):∀(k f i j:Nat),j-i≤k→k<f→i≤j→lo≤i→j≤hi →
    (∀p y,lo≤p→p<i→d[p]? = some y→key y<key x)→(∀p y,j≤p→p<hi→d[p]? = some y→key x≤key y) →
    ∃r:Nat,sl_symM_l3 n f (d,a,cmp,(i:Int),(j:Int),())=some (.inl (d,a,(r:Int),()))∧lo≤r∧r≤hi ∧
      (∀p y,lo≤p→p<r→d[p]? = some y→key y<key x)∧(∀p y,r≤p→p<hi→d[p]? = some y→key x≤key y):=by
  subst ha
  intro k
  induction k with
  | zero =>
    intro f i j hk hf hij hi hj h1 h2
    obtain ⟨f,rfl⟩:∃g,f=g+1:=⟨f-1,by omega⟩
    rw[sl_symM_l3_eq]
    simp only[tfd,if_neg (show ¬((i:Int)<(j:Int)) by omega)]
    have e:i=j:=by omega
    subst e
    exact ⟨i,rfl,by omega,by omega,h1,h2⟩
  | succ k ih =>
    intro f i j hk hf hij hi hj h1 h2
    obtain ⟨f,rfl⟩:∃g,f=g+1:=⟨f-1,by omega⟩
    rw[sl_symM_l3_eq]
    by_cases lt:i<j
    · have e1:=half_nat i j (by omega)
      have lh:(i+j) / 2<d.length:=by omega
      obtain ⟨c,hcm,hlt⟩:=hc d[(i+j) / 2] x
      have gh:d[(i+j) / 2]? = some d[(i+j) / 2]:=List.getElem?_eq_getElem lh
      simp only[tfd,if_pos (show ((i:Int)<(j:Int)) by omega),e1,at_nat,Int.toNat_natCast,gh,hx,obs,hcm]
      by_cases hlt':c<0
      · have kl:=hlt.1 hlt'
        simp only[if_pos hlt']
        rw[wn (x:=(((i+j) / 2:Nat):Int)+1) (k:=(i+j) / 2+1) (by omega) (by omega)]
        refine ih f ((i+j) / 2+1) j (by omega) (by omega) (by omega) (by omega) hj (fun p y p1 p2 hy => ?_) h2
        by_cases ep:p=(i+j) / 2
        · subst ep;rw[gh] at hy;injection hy with hy;subst hy;exact kl
        · have:=hs p ((i+j) / 2) y _ p1 (by omega) (by omega) hy gh
          omega
      · have kl:key x≤key d[(i+j) / 2]:=by have:=mt hlt.2 hlt';omega
        simp only[if_neg hlt']
        refine ih f i ((i+j) / 2) (by omega) (by omega) (by omega) hi (by omega) h1 (fun p y p1 p2 hy => ?_)
        by_cases ep:p=(i+j) / 2
        · subst ep;rw[gh] at hy;injection hy with hy;subst hy;exact kl
        · have:=hs ((i+j) / 2) p _ y (by omega) (by omega) (by omega) gh hy
          omega
    · simp only[tfd,if_neg (show ¬((i:Int)<(j:Int)) by omega)]
      have e:i=j:=by omega
      subst e
      exact ⟨i,rfl,by omega,by omega,h1,h2⟩
theorem sym_l15 (n:Nat) (m:Int) (mn:Nat) (hm:m=mn) (d:List TSlot) (x:TSlot) (hx:d[mn]? = some x) (hL:d.length≤1000000000000) (lo hi:Nat) (hs:Srt key d lo hi) (hh:hi≤d.length):∀(k f i j:Nat),j-i≤k→k<f→i≤j→lo≤i→j≤hi →
    (∀p y,lo≤p→p<i→d[p]? = some y→key y≤key x)→(∀p y,j≤p→p<hi→d[p]? = some y→key x<key y) →
    ∃r:Nat,sl_symM_l15 n f (d,m,cmp,(i:Int),(j:Int),())=some (.inl (d,m,(r:Int),()))∧lo≤r∧r≤hi ∧
      (∀p y,lo≤p→p<r→d[p]? = some y→key y≤key x)∧(∀p y,r≤p→p<hi→d[p]? = some y→key x<key y):=by
  subst hm
  intro k
  induction k with
  | zero =>
    intro f i j hk hf hij hi hj h1 h2
    obtain ⟨f,rfl⟩:∃g,f=g+1:=⟨f-1,by omega⟩
    rw[sl_symM_l15_eq]
    simp only[tfd,if_neg (show ¬((i:Int)<(j:Int)) by omega)]
    have e:i=j:=by omega
    subst e
    exact ⟨i,rfl,by omega,by omega,h1,h2⟩
  | succ k ih =>
    intro f i j hk hf hij hi hj h1 h2
    obtain ⟨f,rfl⟩:∃g,f=g+1:=⟨f-1,by omega⟩
    rw[sl_symM_l15_eq]
    by_cases lt:i<j
    · have e1:=half_nat i j (by omega)
      have lh:(i+j) / 2<d.length:=by omega
      obtain ⟨c,hcm,hlt⟩:=hc x d[(i+j) / 2]
      have gh:d[(i+j) / 2]? = some d[(i+j) / 2]:=List.getElem?_eq_getElem lh
      simp only[tfn,tfd,if_pos (show ((i:Int)<(j:Int)) by omega),e1,at_nat,Int.toNat_natCast,gh,hx,obs,hcm]
      by_cases hlt':c<0
      · have kl:=hlt.1 hlt'
        simp only[if_pos hlt']
        refine ih f i ((i+j) / 2) (by omega) (by omega) (by omega) hi (by omega) h1 (fun p y p1 p2 hy => ?_)
        by_cases ep:p=(i+j) / 2
        · subst ep;rw[gh] at hy;injection hy with hy;subst hy;exact kl
        · have:=hs ((i+j) / 2) p _ y (by omega) (by omega) (by omega) gh hy
          omega
      · have kl:key d[(i+j) / 2]≤key x:=by have:=mt hlt.2 hlt';omega
        simp only[if_neg hlt']
        rw[wn (x:=(((i+j) / 2:Nat):Int)+1) (k:=(i+j) / 2+1) (by omega) (by omega)]
        refine ih f ((i+j) / 2+1) j (by omega) (by omega) (by omega) (by omega) hj (fun p y p1 p2 hy => ?_) h2
        by_cases ep:p=(i+j) / 2
        · subst ep;rw[gh] at hy;injection hy with hy;subst hy;exact kl
        · have:=hs p ((i+j) / 2) y _ p1 (by omega) (by omega) hy gh
          omega
    · simp only[tfd,if_neg (show ¬((i:Int)<(j:Int)) by omega)]
      have e:i=j:=by omega
      subst e
      exact ⟨i,rfl,by omega,by omega,h1,h2⟩
end
abbrev Lab:=List UInt8×List UInt8
def sgn (c:Int):Prop:=(97≤c∧c≤122)∨(65≤c∧c≤90)∨(48≤c∧c≤57)∨c=95
instance (c:Int):Decidable (sgn c):=by unfold sgn;infer_instance
def digitP (c:Int):Prop:=48≤c∧c≤57
instance (c:Int):Decidable (digitP c):=by unfold digitP;infer_instance
def NameOk:List UInt8→Prop
  | []=>False
  | b::r=>(b::r).length≤64∧¬digitP (b.toNat:Int)∧∀x∈b::r,sgn (x.toNat:Int)
instance:(s:List UInt8)→Decidable (NameOk s)
  | [] => .isFalse id
  | b::r=>by unfold NameOk;infer_instance
theorem low_all:∀c:Fin 256,(97≤orI .u8 (c.val:Int) 32∧orI .u8 (c.val:Int) 32≤122)↔((97≤(c.val:Int)∧(c.val:Int)≤122)∨(65≤(c.val:Int)∧(c.val:Int)≤90)):=by decide +kernel
theorem low (c:Int) (h:0≤c∧c≤255):(97≤orI .u8 c 32∧orI .u8 c 32≤122)↔((97≤c∧c≤122)∨(65≤c∧c≤90)):=by
  obtain ⟨k,rfl⟩:=Int.eq_ofNat_of_zero_le h.1
  exact low_all ⟨k,by omega⟩
theorem label_digit_val (n:Nat) (c:Int):label_digit (n+1) c=some (decide (digitP c)):=by
  rw[label_digit_eq]
  unfold digitP
  by_cases h1:(48:Int)≤c<;>by_cases h2:c≤57<;>simp[h1,h2]
theorem label_sign_val (n:Nat) (c:Int) (h:0≤c∧c≤255):label_sign (n+2) c=some (decide (sgn c)):=by
  rw[label_sign_eq,label_digit_val]
  simp only[obs,tfd]
  have hl:=low c h
  by_cases h1:digitP c
  · rw[if_pos h1,decide_eq_true (show sgn c from .inr (.inr (.inl h1)))]
  rw[if_neg h1]
  by_cases h2:c=95
  · rw[if_pos h2,decide_eq_true (show sgn c from .inr (.inr (.inr h2)))]
  rw[if_neg h2]
  by_cases h3:97≤orI .u8 c 32
  · rw[if_pos h3]
    refine congrArg some (decide_eq_decide.2 ?_)
    constructor
    · intro k
      rcases hl.1 ⟨h3,k⟩ with q | q
      · exact .inl q
      · exact .inr (.inl q)
    · intro k
      rcases k with k | k | k | k
      · exact (hl.2 (.inl k)).2
      · exact (hl.2 (.inr k)).2
      · exact absurd k h1
      · exact absurd k h2
  · rw[if_neg h3,decide_eq_false]
    intro k
    rcases k with k | k | k | k
    · exact h3 (hl.2 (.inl k)).1
    · exact h3 (hl.2 (.inr k)).1
    · exact h1 k
    · exact h2 k
theorem index_byte (n:Nat) {del:Int×Unit→Option Bool} {p:Int→Bool} (l:List Int) (hL:l.length≤1000000000000) (hd:∀x∈l,del (x,())=some (p x)):∀(rest pre:List Int) (f:Nat) (i len:Int),l=pre++rest→i=pre.length→len=l.length→rest.length<f →
    (sl_IndexFunc_byte_l2 n f (l,del,len,i,())=some (.inl ())∧∀x∈rest,p x=false) ∨
    (∃k:Int,0≤k∧sl_IndexFunc_byte_l2 n f (l,del,len,i,())=some (.inr k)∧∃x∈rest,p x=true):=by
  intro rest
  induction rest with
  | nil =>
    intro pre f i len hl hi hn hf
    obtain ⟨f,rfl⟩:∃g,f=g+1:=⟨f-1,by simp at hf;omega⟩
    rw[sl_IndexFunc_byte_l2_eq]
    exact .inl ⟨by simp only[tfd,if_neg (idxe hl hi hn)],by simp⟩
  | cons x rest ih =>
    intro pre f i len hl hi hn hf
    obtain ⟨f,rfl⟩:∃g,f=g+1:=⟨f-1,by simp at hf;omega⟩
    rw[sl_IndexFunc_byte_l2_eq]
    simp only[tfd,if_pos (idx hl hi hn),at_mid hl hi,obs,hd x (by rw[hl];simp),idxw hl hi hL]
    cases hp:p x with
    | true=>exact .inr ⟨i,by omega,by simp,x,by simp,hp⟩
    | false =>
      rw[tff]
      rcases ih (pre++[x]) f (i+1) len (idxl hl) (idxs hi) hn (by simp at hf;omega) with ⟨h1,h2⟩ | ⟨k,h1,h2,y,hy,h3⟩
      · exact .inl ⟨h1,by intro z hz;rcases List.mem_cons.1 hz with rfl | hz;exact hp;exact h2 z hz⟩
      · exact .inr ⟨k,h1,h2,y,by simp[hy],h3⟩
theorem contains_byte (n:Nat) {del:Int×Unit→Option Bool} {p:Int→Bool} (l:List Int) (hL:l.length≤1000000000000) (hd:∀x∈l,del (x,())=some (p x)):sl_ContainsFunc_byte (n+2) l del=some (l.any p):=by
  rw[sl_ContainsFunc_byte_eq,sl_IndexFunc_byte_eq]
  rcases index_byte n l hL hd l [] loopFuel 0 l.length rfl rfl rfl (by unfold loopFuel;omega) with ⟨h1,h2⟩ | ⟨k,h1,h2,x,hx,h3⟩
  · rw[h1]
    have:l.any p=false:=by rw[List.any_eq_false];intro x hx;simp[h2 x hx]
    rw[this];rfl
  · rw[h2]
    have:l.any p=true:=List.any_eq_true.2 ⟨x,hx,h3⟩
    simp[this,h1]
theorem label_name_val (n:Nat) (s:List UInt8):label_name (n+5) s=some (decide (NameOk s)):=by
  rw[label_name_eq]
  match s with
  | []=>rfl
  | b::r =>
    have e1:((b::r)==[])=false:=rfl
    have e2:at? (b::r) (0:Int)=some b:=rfl
    rw[e1,tff,e2,obs,label_digit_val,obs]
    simp only[tfd]
    by_cases h1:(64:Int)<(b::r).length
    · rw[if_pos h1,decide_eq_false (fun k:NameOk (b::r)=>by have:=k.1;omega)]
    rw[if_neg h1]
    by_cases h2:digitP (b.toNat:Int)
    · rw[if_pos h2,decide_eq_false (fun k:NameOk (b::r)=>k.2.1 h2)]
    rw[if_neg h2,contains_byte (p:=fun c => !decide (sgn c)) (n+2) _ (by simp at h1 ⊢;omega) (fun x hx=>by
      obtain ⟨c,_,rfl⟩:=List.mem_map.1 hx
      have:=c.toNat_lt
      show label_name_1 (n+3+1) _=_
      rw[label_name_1_eq,label_sign_val (n+1) _ (by omega)];rfl)]
    simp only[obs]
    refine congrArg some ?_
    by_cases h3:∀x∈b::r,sgn (x.toNat:Int)
    · rw[decide_eq_true (show NameOk (b::r) from ⟨by omega,h2,h3⟩)]
      rw[List.any_eq_false.2]
      · rfl
      · intro x hx
        obtain ⟨c,hc,rfl⟩:=List.mem_map.1 hx
        simp[h3 c hc]
    · rw[decide_eq_false (fun k:NameOk (b::r)=>h3 k.2.2)]
      have:∃x∈b::r,¬sgn (x.toNat:Int):=Classical.byContradiction fun k=>h3 fun x hx=>Classical.byContradiction fun q=>k ⟨x,hx,q⟩
      obtain ⟨x,hx,hq⟩:=this
      rw[List.any_eq_true.2 ⟨(x.toNat:Int),List.mem_map.2 ⟨x,hx,rfl⟩,by simp[hq]⟩]
      rfl
theorem r05_name_l (n:Nat) (s:List UInt8) (hL:s.length≤1000000000000):∀(rest pre:List UInt8) (f:Nat) (i:Int),s=pre++rest→i=pre.length→rest.length<f →
    r05_name_l4 n f (s,i,())=some (if ∀x∈rest,sgn (x.toNat:Int) then .inl () else .inr false):=by
  intro rest
  induction rest with
  | nil =>
    intro pre f i hl hi hf
    obtain ⟨f,rfl⟩:∃g,f=g+1:=⟨f-1,by simp at hf;omega⟩
    rw[r05_name_l4_eq]
    simp[tfd,if_neg (idxe hl hi rfl)]
  | cons x rest ih =>
    intro pre f i hl hi hf
    obtain ⟨f,rfl⟩:∃g,f=g+1:=⟨f-1,by simp at hf;omega⟩
    rw[r05_name_l4_eq]
    simp only[tfd,tfn,if_pos (idx hl hi rfl),at_mid hl hi,obs,idxw hl hi hL]
    rw[ih (pre++[x]) f (i+1) (idxl hl) (idxs hi) (by simp at hf;omega)]
    have hsplit:(∀y∈x::rest,sgn (y.toNat:Int))↔sgn (x.toNat:Int)∧∀y∈rest,sgn (y.toNat:Int):=by simp
    generalize hR:(some (if ∀y∈rest,sgn (y.toNat:Int) then (Sum.inl ():Unit ⊕ Bool) else .inr false))=R
    have good:sgn (x.toNat:Int)→R=some (if ∀y∈x::rest,sgn (y.toNat:Int) then .inl () else .inr false):=by
      intro hx
      rw[←hR]
      by_cases h:∀y∈rest,sgn (y.toNat:Int)
      · rw[if_pos h,if_pos (hsplit.2 ⟨hx,h⟩)]
      · rw[if_neg h,if_neg (fun k=>h (hsplit.1 k).2)]
    have bad:¬sgn (x.toNat:Int)→some (.inr false)=some (if ∀y∈x::rest,sgn (y.toNat:Int) then (Sum.inl ():Unit ⊕ Bool) else .inr false):=by
      intro hx
      rw[if_neg (fun k=>hx (hsplit.1 k).1)]
    have hc:=x.toNat_lt
    generalize (x.toNat:Int)=c at *
    clear hR ih
    unfold sgn at good bad
    by_cases a1:(97:Int)≤c<;>by_cases a2:c≤122<;>by_cases a3:(65:Int)≤c<;>by_cases a4:c≤90<;>by_cases a5:(48:Int)≤c<;>by_cases a6:c≤57<;>by_cases a7:c=95 <;>
      first
        | omega
        | (simp only[a1,a2,a3,a4,a5,a6,a7,if_true,if_false];first | exact good (by omega) | exact bad (by omega))
        | (simp[a1,a2,a3,a4,a5,a6,a7];done)
theorem r05_name_val (n:Nat) (s:List UInt8):r05_name (n+1) s=some (decide (NameOk s)):=by
  rw[r05_name_eq]
  match s with
  | []=>rfl
  | b::r =>
    have e2:at? (b::r) (0:Int)=some b:=rfl
    rw[e2,obs,obs]
    simp only[tfd]
    rw[if_neg (show ¬(((b::r).length:Int)<1) by simp;omega)]
    by_cases h1:(64:Int)<(b::r).length
    · rw[if_pos h1,decide_eq_false (fun k:NameOk (b::r)=>by have:=k.1;omega)]
    rw[if_neg h1,r05_name_l n (b::r) (by omega) (b::r) [] loopFuel 0 rfl rfl (by unfold loopFuel;omega)]
    simp only[obs]
    have fin:¬digitP (b.toNat:Int)→(selim (fun _:Unit=>some true) (fun z4=>some z4) (if ∀x∈b::r,sgn (x.toNat:Int) then .inl () else .inr false))=some (decide (NameOk (b::r))):=by
      intro h2
      by_cases h3:∀x∈b::r,sgn (x.toNat:Int)
      · rw[if_pos h3,decide_eq_true (show NameOk (b::r) from ⟨by omega,h2,h3⟩)];rfl
      · rw[if_neg h3,decide_eq_false (fun k:NameOk (b::r)=>h3 k.2.2)];rfl
    by_cases h4:(48:Int)≤(b.toNat:Int)
    · rw[if_pos h4]
      by_cases h5:(b.toNat:Int)≤57
      · rw[if_pos h5,decide_eq_false (fun k:NameOk (b::r)=>k.2.1 ⟨h4,h5⟩)]
      · rw[if_neg h5];exact fin (fun k=>h5 k.2)
    · rw[if_neg h4];exact fin (fun k=>h4 k.1)
def chkL:Option (List UInt8)→List Lab→Prop
  | _,[]=>True
  | p,x::r=>NameOk x.1∧x.2.length≤128∧(∀q,p=some q→Op.bytesLess q x.1=true)∧chkL (some x.1) r
def sumL (l:List Lab):Int:=(l.map fun x=>((x.1.length:Int)+x.2.length)).sum
theorem sumL_nn (l:List Lab):0≤sumL l:=by
  induction l with
  | nil=>simp[sumL]
  | cons x l ih=>simp only[sumL,List.map_cons,List.sum_cons] at *;omega
theorem sumL_cons (x:Lab) (l:List Lab):sumL (x::l)=x.1.length+x.2.length+sumL l:=by simp[sumL]
theorem NameOk.len {s:List UInt8} (h:NameOk s):s.length≤64:=by
  match s with
  | []=>simp
  | b::r=>exact h.1
structure LabOk (l:List Lab):Prop where
  n0:1≤l.length
  n1:l.length≤16
  c:chkL none l
  t:sumL l≤256
noncomputable instance (l:List Lab):Decidable (LabOk l):=Classical.propDecidable _
theorem prev_at {l pre rest:List Lab} {x:Lab} {i:Int} (hl:l=pre++x::rest) (hi:i=pre.length) (hL:l.length≤1000000) (h:0<i):∃q,pre.getLast? = some q∧at? l (IntKind.wrap .i64 (i-1))=some q:=by
  rcases List.eq_nil_or_concat pre with rfl | ⟨q,y,rfl⟩
  · simp at hi;omega
  rw[List.concat_eq_append] at *
  have hlen:=congrArg List.length hl
  simp at hlen hi
  refine ⟨y,by simp,?_⟩
  rw[w64 (by omega) (by omega)]
  exact at_mid (pre:=q) (rest:=x::rest) (by rw[hl];simp) (by omega)
theorem label_check_l (n:Nat) (l:List Lab) (hL:l.length≤16):∀(rest pre:List Lab) (f:Nat) (left i len:Int),l=pre++rest→i=pre.length→len=l.length→rest.length<f→0≤left→left≤256 →
    (chkL (pre.getLast?.map (·.1)) rest∧sumL rest≤left→label_Check_l5 (n+5) f (l,left,l,len,i,())=some (.inl ())) ∧
    (¬(chkL (pre.getLast?.map (·.1)) rest∧sumL rest≤left)→label_Check_l5 (n+5) f (l,left,l,len,i,())=some (.inr 8)):=by
  intro rest
  induction rest with
  | nil =>
    intro pre f left i len hl hi hn hf h0 h1
    obtain ⟨f,rfl⟩:∃g,f=g+1:=⟨f-1,by simp at hf;omega⟩
    rw[label_Check_l5_eq]
    refine ⟨fun _=>by simp only[tfd,if_neg (idxe hl hi hn)],fun k=>absurd ⟨trivial,by simpa [sumL] using h0⟩ k⟩
  | cons x rest ih =>
    intro pre f left i len hl hi hn hf h0 h1
    obtain ⟨f,rfl⟩:∃g,f=g+1:=⟨f-1,by simp at hf;omega⟩
    rw[label_Check_l5_eq]
    have hsn:=sumL_nn rest
    simp only[tfd,tfn,if_pos (idx hl hi hn),at_mid hl hi,obs,idxw hl hi (by omega),label_name_val n x.1]
    rw[sumL_cons]
    by_cases c1:NameOk x.1
    case neg=>rw[if_neg c1];exact ⟨fun k=>absurd k.1.1 c1,fun _=>rfl⟩
    rw[if_pos c1]
    have hn1:=c1.len
    by_cases c2:(128:Int)<x.2.length
    · rw[if_pos c2];exact ⟨fun k=>by have:=k.1.2.1;omega,fun _=>rfl⟩
    rw[if_neg c2,w64 (x:=(x.1.length:Int)+x.2.length) (by omega) (by omega),w64 (x:=left-((x.1.length:Int)+x.2.length)) (by omega) (by omega)]
    by_cases c3:left-((x.1.length:Int)+x.2.length)<0
    · rw[if_pos c3];exact ⟨fun k=>by have:=k.2;omega,fun _=>rfl⟩
    rw[if_neg c3]
    have ih':=ih (pre++[x]) f (left-((x.1.length:Int)+x.2.length)) (i+1) len (idxl hl) (idxs hi) hn (by simp at hf;omega) (by omega) (by omega)
    have el:(pre++[x]).getLast?.map (·.1)=some x.1:=by simp
    rw[el] at ih'
    have step:(∀q,pre.getLast?.map (·.1)=some q→Op.bytesLess q x.1=true) →
        ((chkL (pre.getLast?.map (·.1)) (x::rest)∧(x.1.length:Int)+x.2.length+sumL rest≤left)↔(chkL (some x.1) rest∧sumL rest≤left-((x.1.length:Int)+x.2.length))):=by
      intro hq
      constructor
      · rintro ⟨k1,k2⟩;exact ⟨k1.2.2.2,by omega⟩
      · rintro ⟨k1,k2⟩;exact ⟨⟨c1,by omega,hq,k1⟩,by omega⟩
    by_cases c4:0<i
    · obtain ⟨q,hq,hat⟩:=prev_at hl hi (by omega) c4
      rw[if_pos c4,hat,obs]
      by_cases c5:Op.bytesLess q.1 x.1=true
      · rw[c5,tft,step (fun z hz=>by rw[hq] at hz;simp at hz;rw[←hz];exact c5)]
        exact ih'
      · have c5':Op.bytesLess q.1 x.1=false:=by simpa using c5
        rw[c5',tff]
        exact ⟨fun k=>absurd (k.1.2.2.1 q.1 (by rw[hq];rfl)) c5,fun _=>rfl⟩
    · have hp:pre=[]:=List.length_eq_zero_iff.1 (by omega)
      rw[if_neg c4,step (fun z hz=>by rw[hp] at hz;cases hz)]
      exact ih'
theorem label_check (n:Nat) (l:List Lab):label_Check (n+6) l=some (if LabOk l then 0 else 8):=by
  rw[label_Check_eq]
  simp only[tfd]
  by_cases h1:(l.length:Int)=0
  · rw[if_pos h1,if_neg (fun k:LabOk l=>by have:=k.n0;omega)]
  by_cases h2:(16:Int)<l.length
  · rw[if_neg h1,if_pos h2,if_neg (fun k:LabOk l=>by have:=k.n1;omega)]
  rw[if_neg h1,if_neg h2]
  have hl:=label_check_l n l (by omega) l [] loopFuel 256 0 l.length rfl rfl rfl (by unfold loopFuel;omega) (by decide) (by decide)
  by_cases h3:chkL none l∧sumL l≤256
  · rw[hl.1 h3,if_pos (⟨by omega,by omega,h3.1,h3.2⟩:LabOk l)];rfl
  · rw[hl.2 h3,if_neg (fun k:LabOk l=>h3 ⟨k.c,k.t⟩)];rfl
theorem r05_check_l (n:Nat) (l:List Lab) (hL:l.length≤16):∀(rest pre:List Lab) (f:Nat) (all i len:Int),l=pre++rest→i=pre.length→len=l.length→rest.length<f→0≤all→all≤192*pre.length →
    (chkL (pre.getLast?.map (·.1)) rest→r05_Check_l5 (n+1) f (l,all,l,len,i,())=some (.inl (all+sumL rest,()))) ∧
    (¬chkL (pre.getLast?.map (·.1)) rest→r05_Check_l5 (n+1) f (l,all,l,len,i,())=some (.inr 8)):=by
  intro rest
  induction rest with
  | nil =>
    intro pre f left i len hl hi hn hf h0 h1
    obtain ⟨f,rfl⟩:∃g,f=g+1:=⟨f-1,by simp at hf;omega⟩
    rw[r05_Check_l5_eq]
    refine ⟨fun _=>by simp only[tfd,if_neg (idxe hl hi hn),sumL,List.map_nil,List.sum_nil,Int.add_zero],fun k=>absurd trivial k⟩
  | cons x rest ih =>
    intro pre f left i len hl hi hn hf h0 h1
    obtain ⟨f,rfl⟩:∃g,f=g+1:=⟨f-1,by simp at hf;omega⟩
    rw[r05_Check_l5_eq]
    have hsn:=sumL_nn rest
    have hpl:pre.length+1≤l.length:=by have:=congrArg List.length hl;simp at this;omega
    simp only[tfd,tfn,if_pos (idx hl hi hn),at_mid hl hi,obs,idxw hl hi (by omega),r05_name_val n x.1]
    rw[sumL_cons]
    by_cases c1:NameOk x.1
    case neg=>rw[if_neg c1];exact ⟨fun k=>absurd k.1 c1,fun _=>rfl⟩
    rw[if_pos c1]
    have hn1:=c1.len
    by_cases c2:(128:Int)<x.2.length
    · rw[if_pos c2];exact ⟨fun k=>by have:=k.2.1;omega,fun _=>rfl⟩
    rw[if_neg c2,w64 (x:=(x.1.length:Int)+x.2.length) (by omega) (by omega),w64 (x:=left+((x.1.length:Int)+x.2.length)) (by omega) (by omega)]
    have ih':=ih (pre++[x]) f (left+((x.1.length:Int)+x.2.length)) (i+1) len (idxl hl) (idxs hi) hn (by simp at hf;omega) (by omega) (by simp;omega)
    have el:(pre++[x]).getLast?.map (·.1)=some x.1:=by simp
    rw[el] at ih'
    have ea:left+((x.1.length:Int)+x.2.length+sumL rest)=left+((x.1.length:Int)+x.2.length)+sumL rest:=by omega
    rw[ea]
    have step:(∀q,pre.getLast?.map (·.1)=some q→Op.bytesLess q x.1=true)→(chkL (pre.getLast?.map (·.1)) (x::rest)↔chkL (some x.1) rest):=by
      intro hq
      constructor
      · intro k;exact k.2.2.2
      · intro k;exact ⟨c1,by omega,hq,k⟩
    by_cases c4:0<i
    · obtain ⟨q,hq,hat⟩:=prev_at hl hi (by omega) c4
      rw[if_pos c4,hat,obs]
      by_cases c5:Op.bytesLess q.1 x.1=true
      · rw[c5,tft,step (fun z hz=>by rw[hq] at hz;simp at hz;rw[←hz];exact c5)]
        exact ih'
      · have c5':Op.bytesLess q.1 x.1=false:=by simpa using c5
        rw[c5',tff]
        exact ⟨fun k=>absurd (k.2.2.1 q.1 (by rw[hq];rfl)) c5,fun _=>rfl⟩
    · have hp:pre=[]:=List.length_eq_zero_iff.1 (by omega)
      rw[if_neg c4,step (fun z hz=>by rw[hp] at hz;cases hz)]
      exact ih'
theorem r05_check (n:Nat) (l:List Lab):r05_Check (n+2) l=some (if LabOk l then 0 else 8):=by
  rw[r05_Check_eq]
  simp only[tfd]
  by_cases h1:(l.length:Int)<1
  · rw[if_pos h1,if_neg (fun k:LabOk l=>by have:=k.n0;omega)]
  by_cases h2:(16:Int)<l.length
  · rw[if_neg h1,if_pos h2,if_neg (fun k:LabOk l=>by have:=k.n1;omega)]
  rw[if_neg h1,if_neg h2]
  have hl:=r05_check_l n l (by omega) l [] loopFuel 0 0 l.length rfl rfl rfl (by unfold loopFuel;omega) (by decide) (by simp)
  by_cases h3:chkL none l
  · rw[hl.1 h3]
    simp only[obs,selim_inl,Int.zero_add]
    by_cases h4:(256:Int)<sumL l
    · rw[if_pos h4,if_neg (fun k:LabOk l=>by have:=k.t;omega)]
    · rw[if_neg h4,if_pos (⟨by omega,by omega,h3,by omega⟩:LabOk l)]
  · rw[hl.2 h3,if_neg (fun k:LabOk l=>h3 k.c)];rfl
theorem labEq (a b:Lab):((a.1==b.1)&&(a.2==b.2))=decide (a=b):=by
  rw[Bool.eq_iff_iff];simp[Prod.ext_iff]
abbrev Rw:=Int×(Int×List Ev)
structure RawOk (r:Rw) (room:Int):Prop where
  m0:1≤room
  m1:room≤4096
  len:(r.2.2.length:Int)≤room
  l0:0≤r.1
  l1:r.1≤70368744177664
  f:Foll r.2.2
  z:r.1=0→r.2.1=0
  p:r.1≠0→(r.2.2.length:Int)=room∧0≤r.2.1∧∀x,r.2.2.head? = some x→r.2.1<x.1
noncomputable instance (r room):Decidable (RawOk r room):=Classical.propDecidable _
def RawW (r:Rw):Prop:=∀e∈r.2.2,EvW e
theorem last_at {l pre rest:List Ev} {x:Ev} {i:Int} (hl:l=pre++x::rest) (hi:i=pre.length) (hL:l.length≤1000000) (h:0<i):∃q,pre.getLast? = some q∧at? l (IntKind.wrap .i64 (i-1))=some q:=by
  rcases List.eq_nil_or_concat pre with rfl | ⟨q,y,rfl⟩
  · simp at hi;omega
  rw[List.concat_eq_append] at *
  have hlen:=congrArg List.length hl
  simp at hlen hi
  refine ⟨y,by simp,?_⟩
  rw[w64 (by omega) (by omega)]
  exact at_mid (pre:=q) (rest:=x::rest) (by rw[hl];simp) (by omega)
theorem foll_next {pre rest:List Ev} {x:Ev} (hp:Foll pre):(EvOk x∧(∀q,pre.getLast? = some q→q.1<x.1))↔Foll (pre++[x]):=by
  constructor
  · rintro ⟨h1,h2⟩
    refine foll_snoc.2 ⟨hp,h1,?_⟩
    rcases List.eq_nil_or_concat pre with rfl | ⟨q,y,rfl⟩
    · simp
    · rw[List.concat_eq_append] at *
      exact last_all hp (y:=y) (by simp) (h2 y (by simp))
  · intro h
    obtain ⟨h1,h2,h3⟩:=foll_snoc.1 h
    exact ⟨h2,fun q hq=>h3 q (List.mem_of_getLast? hq)⟩
theorem foll_pre {l pre rest:List Ev} {x:Ev} (hl:l=pre++x::rest) (h:Foll l):Foll (pre++[x]):=by
  rw[idxl hl] at h;exact (foll_append.1 h).1
theorem raw_rising_l (n:Nat) (l:List Ev) (hL:l.length≤1000000) (hw:∀e∈l,EvW e):∀(rest pre:List Ev) (f:Nat) (i len:Int),l=pre++rest→i=pre.length→len=l.length→rest.length<f→Foll pre →
    (Foll l→raw_rising_l2 (n+3) f (l,l,len,i,())=some (.inl ()))∧(¬Foll l→raw_rising_l2 (n+3) f (l,l,len,i,())=some (.inr false)):=by
  intro rest
  induction rest with
  | nil =>
    intro pre f i len hl hi hn hf hp
    obtain ⟨f,rfl⟩:∃g,f=g+1:=⟨f-1,by simp at hf;omega⟩
    rw[raw_rising_l2_eq]
    have e:l=pre:=by rw[hl,List.append_nil]
    exact ⟨fun _=>by simp only[tfd,if_neg (idxe hl hi hn)],fun k=>absurd (e ▸ hp) k⟩
  | cons x rest ih =>
    intro pre f i len hl hi hn hf hp
    obtain ⟨f,rfl⟩:∃g,f=g+1:=⟨f-1,by simp at hf;omega⟩
    rw[raw_rising_l2_eq]
    have hx:EvW x:=hw x (by rw[hl];simp)
    have ih':=ih (pre++[x]) f (i+1) len (idxl hl) (idxs hi) hn (by simp at hf;omega)
    simp only[tfd,tfn,if_pos (idx hl hi hn),at_mid hl hi,obs,event_check _ hx,z02,idxw hl hi (by omega)]
    have nx:=foll_next (rest:=rest) (x:=x) hp
    by_cases c1:EvOk x
    case neg=>rw[if_neg c1];exact ⟨fun k=>absurd (k.ok x (by rw[hl];simp)) c1,fun _=>rfl⟩
    rw[if_pos c1]
    by_cases c2:0<i
    · obtain ⟨q,hq,hat⟩:=last_at hl hi hL c2
      have hqo:EvOk q:=hp.ok q (List.mem_of_getLast? hq)
      rw[if_pos c2,hat,obs,event_follow n (.of hqo) hx]
      simp only[obs,tfd]
      by_cases c3:q.1<x.1
      · rw[if_pos ⟨hqo,c1,c3⟩]
        exact ih' (nx.1 ⟨c1,fun z hz=>by rw[hq] at hz;injection hz with hz;rw[←hz];exact c3⟩)
      · rw[if_neg (fun k=>c3 k.2.2)]
        exact ⟨fun k=>absurd ((nx.2 (foll_pre hl k)).2 q hq) c3,fun _=>rfl⟩
    · have hpe:pre=[]:=List.length_eq_zero_iff.1 (by omega)
      rw[if_neg c2]
      exact ih' (nx.1 ⟨c1,fun z hz=>by rw[hpe] at hz;cases hz⟩)
noncomputable instance (l:List Ev):Decidable (Foll l):=Classical.propDecidable _
theorem raw_rising_val (n:Nat) (l:List Ev) (hL:l.length≤1000000) (hw:∀e∈l,EvW e):raw_rising (n+4) l=some (decide (Foll l)):=by
  rw[raw_rising_eq]
  have h:=raw_rising_l n l hL hw l [] loopFuel 0 l.length rfl rfl rfl (by unfold loopFuel;omega) Foll.nil
  by_cases c:Foll l
  · rw[h.1 c,decide_eq_true c];rfl
  · rw[h.2 c,decide_eq_false c];rfl
theorem head_at (l:List Ev):at? l (0:Int)=l.head? := by cases l<;>rfl
theorem raw_check (n:Nat) (r:Rw) (room:Int) (hw:RawW r):raw_Check (n+5) r room=some (if RawOk r room then 0 else 2):=by
  rw[raw_Check_eq]
  simp only[tfd]
  by_cases h1:room<1
  · rw[if_pos h1,if_neg (fun k:RawOk r room=>by have:=k.m0;omega)]
  by_cases h2:4096<room
  · rw[if_neg h1,if_pos h2,if_neg (fun k:RawOk r room=>by have:=k.m1;omega)]
  by_cases h3:room<r.2.2.length
  · rw[if_neg h1,if_neg h2,if_pos h3,if_neg (fun k:RawOk r room=>by have:=k.len;omega)]
  by_cases h4:r.1<0
  · rw[if_neg h1,if_neg h2,if_neg h3,if_pos h4,if_neg (fun k:RawOk r room=>by have:=k.l0;omega)]
  by_cases h5:70368744177664<r.1
  · rw[if_neg h1,if_neg h2,if_neg h3,if_neg h4,if_pos h5,if_neg (fun k:RawOk r room=>by have:=k.l1;omega)]
  rw[if_neg h1,if_neg h2,if_neg h3,if_neg h4,if_neg h5,raw_rising_val n r.2.2 (by omega) hw,raw_marked_eq]
  simp only[obs,tfn,tfd]
  by_cases h6:Foll r.2.2
  case neg=>rw[if_neg h6,if_neg (fun k:RawOk r room=>h6 k.f)]
  rw[if_pos h6]
  by_cases h7:r.1=0
  · rw[if_pos h7,obs]
    simp only[tfd]
    by_cases h8:r.2.1=0
    · rw[if_pos h8,if_pos (⟨by omega,by omega,by omega,by omega,by omega,h6,fun _=>h8,fun k=>absurd h7 k⟩:RawOk r room)]
    · rw[if_neg h8,if_neg (fun k:RawOk r room=>h8 (k.z h7))]
  rw[if_neg h7]
  by_cases h8:(r.2.2.length:Int)=room
  case neg=>rw[if_neg h8,if_neg (fun k:RawOk r room=>h8 (k.p h7).1)];rfl
  rw[if_pos h8]
  by_cases h9:(0:Int)≤r.2.1
  case neg=>rw[if_neg h9,if_neg (fun k:RawOk r room=>h9 (k.p h7).2.1)];rfl
  rw[if_pos h9,head_at]
  obtain ⟨x,hx⟩:∃x,r.2.2.head? = some x:=by
    cases hh:r.2.2 with
    | nil=>rw[hh] at h8;simp at h8;omega
    | cons x l=>exact ⟨x,rfl⟩
  rw[hx,obs,obs]
  simp only[tfd]
  by_cases h10:r.2.1<x.1
  · rw[if_pos h10,if_pos (⟨by omega,by omega,by omega,by omega,by omega,h6,fun k=>absurd k h7,fun _=>⟨h8,h9,fun y hy=>by rw[hx] at hy;injection hy with hy;rw[←hy];exact h10⟩⟩:RawOk r room)]
  · rw[if_neg h10,if_neg (fun k:RawOk r room=>h10 ((k.p h7).2.2 x hx))]
theorem r12_check_l (n:Nat) (room:Int) (r:Rw) (hL:r.2.2.length≤1000000) (hw:RawW r):∀(rest pre:List Ev) (f:Nat) (i len:Int),r.2.2=pre++rest→i=pre.length→len=r.2.2.length→rest.length<f→Foll pre →
    (Foll r.2.2→r12_Check_l4 (n+1) f (room,r,r.2.2,len,i,())=some (.inl (room,r,())))∧(¬Foll r.2.2→r12_Check_l4 (n+1) f (room,r,r.2.2,len,i,())=some (.inr 2)):=by
  intro rest
  induction rest with
  | nil =>
    intro pre f i len hl hi hn hf hp
    obtain ⟨f,rfl⟩:∃g,f=g+1:=⟨f-1,by simp at hf;omega⟩
    rw[r12_Check_l4_eq]
    have e:r.2.2=pre:=by rw[hl,List.append_nil]
    exact ⟨fun _=>by simp only[tfd,if_neg (idxe hl hi hn)],fun k=>absurd (e ▸ hp) k⟩
  | cons x rest ih =>
    intro pre f i len hl hi hn hf hp
    obtain ⟨f,rfl⟩:∃g,f=g+1:=⟨f-1,by simp at hf;omega⟩
    rw[r12_Check_l4_eq]
    have hx:EvW x:=hw x (by rw[hl];simp)
    have ih':=ih (pre++[x]) f (i+1) len (idxl hl) (idxs hi) hn (by simp at hf;omega)
    simp only[tfd,tfn,if_pos (idx hl hi hn),at_mid hl hi,obs,r07_check _ hx,z02,idxw hl hi (by omega)]
    have nx:=foll_next (rest:=rest) (x:=x) hp
    by_cases c1:EvOk x
    case neg=>rw[if_neg c1];exact ⟨fun k=>absurd (k.ok x (by rw[hl];simp)) c1,fun _=>rfl⟩
    rw[if_pos c1]
    by_cases c2:0<i
    · obtain ⟨q,hq,hat⟩:=last_at hl hi hL c2
      rw[if_pos c2,hat,obs]
      by_cases c3:x.1≤q.1
      · rw[if_pos c3]
        exact ⟨fun k=>by have:=(nx.2 (foll_pre hl k)).2 q hq;omega,fun _=>rfl⟩
      · rw[if_neg c3]
        exact ih' (nx.1 ⟨c1,fun z hz=>by rw[hq] at hz;injection hz with hz;rw[←hz];omega⟩)
    · have hpe:pre=[]:=List.length_eq_zero_iff.1 (by omega)
      rw[if_neg c2]
      exact ih' (nx.1 ⟨c1,fun z hz=>by rw[hpe] at hz;cases hz⟩)
theorem r12_check (n:Nat) (r:Rw) (room:Int) (hw:RawW r):r12_Check (n+2) r room=some (if RawOk r room then 0 else 2):=by
  rw[r12_Check_eq]
  simp only[tfd]
  by_cases h1:room<1
  · rw[if_pos h1,if_neg (fun k:RawOk r room=>by have:=k.m0;omega)]
  by_cases h2:4096<room
  · rw[if_neg h1,if_pos h2,if_neg (fun k:RawOk r room=>by have:=k.m1;omega)]
  by_cases h3:room<r.2.2.length
  · rw[if_neg h1,if_neg h2,if_pos h3,if_neg (fun k:RawOk r room=>by have:=k.len;omega)]
  by_cases h4:r.1<0
  · rw[if_neg h1,if_neg h2,if_neg h3,if_pos h4,if_neg (fun k:RawOk r room=>by have:=k.l0;omega)]
  by_cases h5:70368744177664<r.1
  · rw[if_neg h1,if_neg h2,if_neg h3,if_neg h4,if_pos h5,if_neg (fun k:RawOk r room=>by have:=k.l1;omega)]
  rw[if_neg h1,if_neg h2,if_neg h3,if_neg h4,if_neg h5]
  have hl:=r12_check_l n room r (by omega) hw r.2.2 [] loopFuel 0 _ rfl rfl rfl (by unfold loopFuel;omega) Foll.nil
  by_cases h6:Foll r.2.2
  case neg=>rw[hl.2 h6,if_neg (fun k:RawOk r room=>h6 k.f)];rfl
  rw[hl.1 h6]
  simp only[obs,selim_inl,tfn,tfd]
  by_cases h7:r.1=0
  · rw[if_pos h7]
    by_cases h8:r.2.1=0
    · rw[if_pos h8,if_pos (⟨by omega,by omega,by omega,by omega,by omega,h6,fun _=>h8,fun k=>absurd h7 k⟩:RawOk r room)]
    · rw[if_neg h8,if_neg (fun k:RawOk r room=>h8 (k.z h7))]
  rw[if_neg h7]
  by_cases h9:r.2.1<0
  · rw[if_pos h9,if_neg (fun k:RawOk r room=>by have:=(k.p h7).2.1;omega)]
  rw[if_neg h9]
  have hd:∀k:RawOk r room,∃x,r.2.2.head? = some x∧EvOk x:=fun k=>by
    have h8:=(k.p h7).1
    have:=k.m0
    cases hh:r.2.2 with
    | nil=>rw[hh] at h8;simp at h8;omega
    | cons x l=>exact ⟨x,rfl,h6.ok x (by rw[hh];simp)⟩
  by_cases h10:(35184372088832:Int)≤r.2.1
  · rw[if_pos h10,if_neg]
    intro k
    obtain ⟨x,hx,hxo⟩:=hd k
    have:=(k.p h7).2.2 x hx
    have:=hxo.t1
    omega
  rw[if_neg h10]
  by_cases h8:(r.2.2.length:Int)=room
  case neg=>rw[if_neg h8,if_neg (fun k:RawOk r room=>h8 (k.p h7).1)]
  rw[if_pos h8,head_at]
  obtain ⟨x,hx⟩:∃x,r.2.2.head? = some x:=by
    cases hh:r.2.2 with
    | nil=>rw[hh] at h8;simp at h8;omega
    | cons x l=>exact ⟨x,rfl⟩
  rw[hx,obs]
  by_cases h11:x.1≤r.2.1
  · rw[if_pos h11,if_neg (fun k:RawOk r room=>by have:=(k.p h7).2.2 x hx;omega)]
  · rw[if_neg h11,if_pos (⟨by omega,by omega,by omega,by omega,by omega,h6,fun k=>absurd k h7,fun _=>⟨h8,by omega,fun y hy=>by rw[hx] at hy;injection hy with hy;rw[←hy];omega⟩⟩:RawOk r room)]
theorem raw_last (n:Nat) (r:Rw) (hL:r.2.2.length≤1000000):raw_Last (n+1) r=some (match r.2.2.getLast? with | some e=>(e,0) | none=>(e0,3)):=by
  rw[raw_Last_eq]
  simp only[tfd]
  rcases List.eq_nil_or_concat r.2.2 with h | ⟨q,y,h⟩
  · rw[h,if_pos (by simp)];rfl
  · rw[List.concat_eq_append] at h
    have hlen:=congrArg List.length h
    simp at hlen
    rw[if_neg (by omega),w64 (by omega) (by omega),at_mid (pre:=q) (rest:=[]) h (by omega),h]
    simp
theorem r12_last (n:Nat) (r:Rw) (hL:r.2.2.length≤1000000):r12_Last (n+1) r=some (match r.2.2.getLast? with | some e=>(e,0) | none=>(e0,3)):=by
  rw[r12_Last_eq]
  simp only[tfd]
  rcases List.eq_nil_or_concat r.2.2 with h | ⟨q,y,h⟩
  · rw[h,if_pos (by simp)];rfl
  · rw[List.concat_eq_append] at h
    have hlen:=congrArg List.length h
    simp at hlen
    rw[if_neg (by omega),w64 (by omega) (by omega),at_mid (pre:=q) (rest:=[]) h (by omega),h]
    simp
def r0w:Rw:=(0,(0,[]))
end Go.Proofs.YtefpnjjbopdplaaGreatDoor
namespace Go.Proofs.YtefpnjjbopdplaaGreatDoor
open Go.Flat Go.Plim
end Go.Proofs.YtefpnjjbopdplaaGreatDoor
namespace Go.Proofs.YtefpnjjbopdplaaGreatDoor
open Go.Flat Go.Plim
set_option linter.unusedVariables false
set_option linter.unusedSimpArgs false
def Exc (key:TSlot→Int) (d:List TSlot) (a b k:Nat):Prop:=∀p q x y,a≤p→p<q→q<b→p≠k→q≠k→d[p]? = some x→d[q]? = some y→key x≤key y
def Place (key:TSlot→Int) (d:List TSlot) (a b k i:Nat) (x:TSlot):Prop :=
  (∀p z,a≤p→p<i→p≠k→d[p]? = some z→key z≤key x)∧(∀p z,i≤p→p<b→p≠k→d[p]? = some z→key x≤key z)
theorem exc_swap {key:TSlot→Int} {d:List TSlot} {a b k j:Nat} {x y:TSlot} (hj:j=k+1∨k=j+1) (ja:a≤j) (jb:j<b) (hx:d[k]? = some x) (hy:d[j]? = some y) (h:Exc key d a b k):Exc key ((d.set k y).set j x) a b j:=by
  intro p q u v q1 q2 q3 p1 p2 hu hv
  rw[swap_get hx hy,if_neg p1] at hu
  rw[swap_get hx hy,if_neg p2] at hv
  by_cases ep:p=k
  · rw[if_pos ep] at hu
    rw[if_neg (by omega)] at hv
    injection hu with hu;subst hu
    exact h j q y v (by omega) (by omega) q3 (by omega) (by omega) hy hv
  · rw[if_neg ep] at hu
    by_cases eq:q=k
    · rw[if_pos eq] at hv
      injection hv with hv;subst hv
      exact h p j u y q1 (by omega) (by omega) (by omega) (by omega) hu hy
    · rw[if_neg eq] at hv
      exact h p q u v q1 q2 q3 ep eq hu hv
theorem exc_srt {key:TSlot→Int} {d:List TSlot} {a b k i:Nat} {x:TSlot} (h:Exc key d a b k) (hp:Place key d a b k i x) (hx:d[k]? = some x) (hk:k=i∨k+1=i):Srt key d a b:=by
  intro p q u v q1 q2 q3 hu hv
  by_cases ep:p=k
  · subst ep;rw[hx] at hu;injection hu with hu;subst hu
    exact hp.2 q v (by omega) q3 (by omega) hv
  · by_cases eq:q=k
    · subst eq;rw[hx] at hv;injection hv with hv;subst hv
      exact hp.1 p u q1 (by omega) ep hu
    · exact h p q u v q1 q2 q3 ep eq hu hv
theorem sym_l9 {key:TSlot→Int} (n:Nat) (a b i:Nat) (x:TSlot):∀(c f k:Nat) (d:List TSlot),k+c+1=i→c<f→a≤k→i≤b→b≤d.length→d.length≤1000000000000→d[k]? = some x→Exc key d a b k→Place key d a b k i x →
    ∃d',sl_symM_l9 n f (d,(i:Int),(k:Int),())=some (.inl (d',()))∧Mv d d' a b∧Srt key d' a b:=by
  intro c
  induction c with
  | zero =>
    intro f k d hk hf ha hi hb hL hx h1 h2
    obtain ⟨f,rfl⟩:∃g,f=g+1:=⟨f-1,by omega⟩
    rw[sl_symM_l9_eq]
    rw[wn (x:=(i:Int)-1) (k:=k) (by omega) (by omega)]
    simp only[tfd,if_neg (show ¬((k:Int)<(k:Int)) by omega)]
    exact ⟨d,rfl,.refl _ _ _,exc_srt h1 h2 hx (by omega)⟩
  | succ c ih =>
    intro f k d hk hf ha hi hb hL hx h1 h2
    obtain ⟨f,rfl⟩:∃g,f=g+1:=⟨f-1,by omega⟩
    rw[sl_symM_l9_eq]
    have lk:k+1<d.length:=by omega
    have gy:d[k+1]? = some d[k+1]:=List.getElem?_eq_getElem lk
    have g1:(d.set k d[k+1])[k+1]? = some d[k+1]:=by rw[List.getElem?_set_ne (by omega)];exact gy
    rw[wn (x:=(i:Int)-1) (k:=i-1) (by omega) (by omega),wn (x:=(k:Int)+1) (k:=k+1) (by omega) (by omega)]
    simp only[tfd,if_pos (show ((k:Int)<((i-1:Nat):Int)) by omega),at_nat,Int.toNat_natCast,gy,hx,g1,obs]
    have sg:=swap_get hx gy
    have mv:=swap_mv (a:=a) (b:=b) hx gy (by omega) (by omega) (by omega) (by omega)
    obtain ⟨d',r1,r2,r3⟩:=ih f (k+1) ((d.set k d[k+1]).set (k+1) x) (by omega) (by omega) (by omega) hi (by simpa using hb) (by simpa using hL)
      (by rw[sg,if_pos rfl]) (exc_swap (.inl rfl) (by omega) (by omega) hx gy h1)
      ⟨fun p z p1 p2 p3 hz=>by
        rw[sg,if_neg p3] at hz
        by_cases e:p=k
        · rw[if_pos e] at hz;injection hz with hz;subst hz
          exact h2.1 (k+1) _ (by omega) (by omega) (by omega) gy
        · rw[if_neg e] at hz;exact h2.1 p z p1 p2 e hz,
       fun p z p1 p2 p3 hz=>by
        rw[sg,if_neg p3,if_neg (by omega)] at hz
        exact h2.2 p z p1 p2 (by omega) hz⟩
    exact ⟨d',r1,mv.trans r2,r3⟩
theorem sym_l21 {key:TSlot→Int} (n:Nat) (a b i:Nat) (x:TSlot):∀(c f k:Nat) (d:List TSlot),i+c=k→c<f→a≤i→k<b→b≤d.length→d.length≤1000000000000→d[k]? = some x→Exc key d a b k→Place key d a b k i x →
    ∃d',sl_symM_l21 n f (d,(i:Int),(k:Int),())=some (.inl (d',()))∧Mv d d' a b∧Srt key d' a b:=by
  intro c
  induction c with
  | zero =>
    intro f k d hk hf ha hi hb hL hx h1 h2
    obtain ⟨f,rfl⟩:∃g,f=g+1:=⟨f-1,by omega⟩
    rw[sl_symM_l21_eq]
    simp only[tfd,if_neg (show ¬((i:Int)<(k:Int)) by omega)]
    exact ⟨d,rfl,.refl _ _ _,exc_srt h1 h2 hx (by omega)⟩
  | succ c ih =>
    intro f k d hk hf ha hi hb hL hx h1 h2
    obtain ⟨f,rfl⟩:∃g,f=g+1:=⟨f-1,by omega⟩
    obtain ⟨k,rfl⟩:∃g,k=g+1:=⟨k-1,by omega⟩
    rw[sl_symM_l21_eq]
    have lk:k<d.length:=by omega
    have gy:d[k]? = some d[k]:=List.getElem?_eq_getElem lk
    have g1:(d.set (k+1) d[k])[k]? = some d[k]:=by rw[List.getElem?_set_ne (by omega)];exact gy
    rw[wn (x:=((k+1:Nat):Int)-1) (k:=k) (by omega) (by omega)]
    simp only[tfd,if_pos (show ((i:Int)<((k+1:Nat):Int)) by omega),at_nat,Int.toNat_natCast,gy,hx,g1,obs]
    have sg:=swap_get hx gy
    have mv:=swap_mv (a:=a) (b:=b) hx gy (by omega) (by omega) (by omega) (by omega)
    obtain ⟨d',r1,r2,r3⟩:=ih f k ((d.set (k+1) d[k]).set k x) (by omega) (by omega) (by omega) (by omega) (by simpa using hb) (by simpa using hL)
      (by rw[sg,if_pos rfl]) (exc_swap (.inr rfl) (by omega) (by omega) hx gy h1)
      ⟨fun p z p1 p2 p3 hz=>by
        rw[sg,if_neg p3,if_neg (by omega)] at hz
        exact h2.1 p z p1 p2 (by omega) hz,
       fun p z p1 p2 p3 hz=>by
        rw[sg,if_neg p3] at hz
        by_cases e:p=k+1
        · rw[if_pos e] at hz;injection hz with hz;subst hz
          exact h2.2 k _ (by omega) (by omega) (by omega) gy
        · rw[if_neg e] at hz;exact h2.2 p z p1 p2 e hz⟩
    exact ⟨d',r1,mv.trans r2,r3⟩
section
variable {cmp:(TSlot×(TSlot×Unit))→Option Int} {key:TSlot→Int} (hc:Cmp cmp key)
include hc
theorem sym_l33 (n:Nat) (a b mid n_:Int) (m p:Int) (mn bn pn:Nat) (an:Nat) (hp:p=pn) (d:List TSlot) (hL:d.length≤1000000000000) (h1:Srt key d an mn) (h2:Srt key d mn bn) (hb:bn≤d.length) (lo hi:Nat)
    (hlo:an≤lo) (hhi:hi≤mn) (hq:∀c,lo≤c→c<hi→c≤pn∧mn≤pn-c∧pn-c<bn):∀(k f i j:Nat),j-i≤k→k<f→i≤j→lo≤i→j≤hi →
    (∀c x y,lo≤c→c<i→d[c]? = some x→d[pn-c]? = some y→key x≤key y)→(∀c x y,j≤c→c<hi→d[c]? = some x→d[pn-c]? = some y→key y<key x) →
    ∃r:Nat,sl_symM_l33 n f (d,a,m,b,cmp,mid,n_,(i:Int),(j:Int),p,())=some (.inl (d,a,m,b,cmp,mid,n_,(r:Int),()))∧lo≤r∧r≤hi ∧
      (∀c x y,lo≤c→c<r→d[c]? = some x→d[pn-c]? = some y→key x≤key y)∧(∀c x y,r≤c→c<hi→d[c]? = some x→d[pn-c]? = some y→key y<key x):=by
  subst hp
  have le1:∀ {i j x y},an≤i→i≤j→j<mn→d[i]? = some x→d[j]? = some y→key x≤key y:=by
    intro i j x y q1 q2 q3 hx hy
    rcases Nat.lt_or_eq_of_le q2 with q | q
    · exact h1 i j x y q1 q q3 hx hy
    · subst q;rw[hx] at hy;injection hy with hy;subst hy;exact Int.le_refl _
  have le2:∀ {i j x y},mn≤i→i≤j→j<bn→d[i]? = some x→d[j]? = some y→key x≤key y:=by
    intro i j x y q1 q2 q3 hx hy
    rcases Nat.lt_or_eq_of_le q2 with q | q
    · exact h2 i j x y q1 q q3 hx hy
    · subst q;rw[hx] at hy;injection hy with hy;subst hy;exact Int.le_refl _
  intro k
  induction k with
  | zero =>
    intro f i j hk hf hij hi' hj g1 g2
    obtain ⟨f,rfl⟩:∃g,f=g+1:=⟨f-1,by omega⟩
    rw[sl_symM_l33_eq]
    simp only[tfd,if_neg (show ¬((i:Int)<(j:Int)) by omega)]
    have e:i=j:=by omega
    subst e
    exact ⟨i,rfl,hi',hj,g1,g2⟩
  | succ k ih =>
    intro f i j hk hf hij hi' hj g1 g2
    obtain ⟨f,rfl⟩:∃g,f=g+1:=⟨f-1,by omega⟩
    rw[sl_symM_l33_eq]
    by_cases lt:i<j
    · generalize hcc:(i+j) / 2=c
      have hq':=hq c (by omega) (by omega)
      have e1:=half_nat i j (by omega)
      rw[hcc] at e1
      have e2:IntKind.wrap .i64 ((pn:Int)-(c:Int))=((pn-c:Nat):Int):=wn (by omega) (by omega)
      obtain ⟨v,hcm,hlt⟩:=hc d[pn-c] d[c]
      have gc:d[c]? = some d[c]:=List.getElem?_eq_getElem (by omega)
      have gp:d[pn-c]? = some d[pn-c]:=List.getElem?_eq_getElem (by omega)
      simp only[tfn,tfd,if_pos (show ((i:Int)<(j:Int)) by omega),e1,e2,at_nat,Int.toNat_natCast,gc,gp,obs,hcm]
      by_cases hlt':v<0
      · have kl:=hlt.1 hlt'
        simp only[if_pos hlt']
        refine ih f i c (by omega) (by omega) (by omega) hi' (by omega) g1 (fun q x y p1 p2 hx hy => ?_)
        have hq2:=hq q (by omega) (by omega)
        have:=le1 (i:=c) (j:=q) (by omega) p1 (by omega) gc hx
        have:=le2 (i:=pn-q) (j:=pn-c) (by omega) (by omega) (by omega) hy gp
        omega
      · have kl:key d[c]≤key d[pn-c]:=by have:=mt hlt.2 hlt';omega
        simp only[if_neg hlt']
        rw[wn (x:=(c:Int)+1) (k:=c+1) (by omega) (by omega)]
        refine ih f (c+1) j (by omega) (by omega) (by omega) (by omega) hj (fun q x y p1 p2 hx hy => ?_) g2
        have hq2:=hq q (by omega) (by omega)
        have:=le1 (i:=q) (j:=c) (by omega) (by omega) (by omega) hx gc
        have:=le2 (i:=pn-c) (j:=pn-q) (by omega) (by omega) (by omega) gp hy
        omega
    · simp only[tfd,if_neg (show ¬((i:Int)<(j:Int)) by omega)]
      have e:i=j:=by omega
      subst e
      exact ⟨i,rfl,hi',hj,g1,g2⟩
theorem symMerge_ok:∀(dd n:Nat) (a m b:Int) (an mn bn:Nat) (d:List TSlot),a=an→m=mn→b=bn→an<mn→mn<bn→bn≤d.length→d.length≤1000000000000→bn-an≤2^dd→Srt key d an mn→Srt key d mn bn →
    ∃d',sl_symM (n+dd+2) d a m b cmp=some d'∧Mv d d' an bn∧Srt key d' an bn:=by
  intro dd
  induction dd with
  | zero=>intro n a m b an mn bn d ha hm hb h1 h2 hl hL hd;simp at hd;omega
  | succ dd ih =>
    intro n a m b an mn bn d ha hm hb h1 h2 hl hL hd s1 s2
    subst ha hm hb
    rw[show n+(dd+1)+2=(n+dd+2)+1 by omega,sl_symM_eq]
    rw[wn (x:=(mn:Int)-an) (k:=mn-an) (by omega) (by omega),wn (x:=(bn:Int)-mn) (k:=bn-mn) (by omega) (by omega)]
    simp only[tif_tif]
    simp only[tfd]
    have gm:d[mn]? = some d[mn]:=List.getElem?_eq_getElem (by omega)
    have ga:d[an]? = some d[an]:=List.getElem?_eq_getElem (by omega)
    by_cases c1:((mn-an:Nat):Int)=1
    · rw[if_pos c1]
      have e:mn=an+1:=by omega
      obtain ⟨r,r1,r2,r3,r4,r5⟩:=sym_l3 hc (n+dd+2) (an:Int) an rfl d d[an] ga hL mn bn s2 hl (bn-mn) loopFuel mn bn (by omega) (by unfold loopFuel;omega) (by omega) (by omega) (by omega) (fun p y p1 p2=>by omega) (fun p y p1 p2=>by omega)
      rw[r1]
      simp only[obs,selim_inl]
      obtain ⟨d',t1,t2,t3⟩:=sym_l9 (key:=key) (n+dd+2) an bn r d[an] (r-an-1) loopFuel an d (by omega) (by unfold loopFuel;omega) (by omega) r3 hl hL ga
        (fun p q x y p1 p2 p3 p4 p5 hx hy=>s2 p q x y (by omega) p2 p3 hx hy)
        ⟨fun p z p1 p2 p3 hz=>Int.le_of_lt (r4 p z (by omega) p2 hz),fun p z p1 p2 p3 hz=>r5 p z p1 p2 hz⟩
      rw[t1]
      exact ⟨d',by simp,t2,t3⟩
    rw[if_neg c1]
    by_cases c2:((bn-mn:Nat):Int)=1
    · rw[if_pos c2]
      obtain ⟨r,r1,r2,r3,r4,r5⟩:=sym_l15 hc (n+dd+2) (mn:Int) mn rfl d d[mn] gm hL an mn s1 (by omega) (mn-an) loopFuel an mn (by omega) (by unfold loopFuel;omega) (by omega) (by omega) (by omega) (fun p y p1 p2=>by omega) (fun p y p1 p2=>by omega)
      rw[r1]
      simp only[obs,selim_inl]
      obtain ⟨d',t1,t2,t3⟩:=sym_l21 (key:=key) (n+dd+2) an bn r d[mn] (mn-r) loopFuel mn d (by omega) (by unfold loopFuel;omega) (by omega) (by omega) hl hL gm
        (fun p q x y p1 p2 p3 p4 p5 hx hy=>s1 p q x y (by omega) p2 (by omega) hx hy)
        ⟨fun p z p1 p2 p3 hz=>r4 p z p1 p2 hz,fun p z p1 p2 p3 hz=>Int.le_of_lt (r5 p z p1 (by omega) hz)⟩
      rw[t1]
      exact ⟨d',by simp,t2,t3⟩
    rw[if_neg c2,half_nat an bn (by omega)]
    generalize hmid:(an+bn) / 2=mid
    have hpow:2^(dd+1)=2^dd*2:=Nat.pow_succ 2 dd
    generalize 2^dd=P at *
    rw[wn (x:=(mid:Int)+mn) (k:=mid+mn) (by omega) (by omega)]
    have fin:∀s:Nat,an≤s→s≤mn→mn≤mid+mn-s→mid+mn-s≤bn→s≤mid →
        (∀x y,an<s→mid+mn-s<bn→d[s-1]? = some x→d[mid+mn-s]? = some y→key x≤key y) →
        (∀x y,s<mn→mn<mid+mn-s→d[mid+mn-s-1]? = some x→d[s]? = some y→key x≤key y) →
        ∃d',(if (s:Int)<(mn:Int)∧(mn:Int)<((mid+mn-s:Nat):Int) then
            obind (sl_rotS (n+dd+2) d (s:Int) (mn:Int) ((mid+mn-s:Nat):Int) cmp) fun r14 =>
              if (an:Int)<(s:Int)∧(s:Int)<(mid:Int) then
                obind (sl_symM (n+dd+2) r14 (an:Int) (s:Int) (mid:Int) cmp) fun r15 =>
                  if (mid:Int)<((mid+mn-s:Nat):Int)∧((mid+mn-s:Nat):Int)<(bn:Int) then obind (sl_symM (n+dd+2) r15 (mid:Int) ((mid+mn-s:Nat):Int) (bn:Int) cmp) fun r16=>some r16
                  else some r15
              else if (mid:Int)<((mid+mn-s:Nat):Int)∧((mid+mn-s:Nat):Int)<(bn:Int) then obind (sl_symM (n+dd+2) r14 (mid:Int) ((mid+mn-s:Nat):Int) (bn:Int) cmp) fun r17=>some r17
                else some r14
          else if (an:Int)<(s:Int)∧(s:Int)<(mid:Int) then
                obind (sl_symM (n+dd+2) d (an:Int) (s:Int) (mid:Int) cmp) fun r15 =>
                  if (mid:Int)<((mid+mn-s:Nat):Int)∧((mid+mn-s:Nat):Int)<(bn:Int) then obind (sl_symM (n+dd+2) r15 (mid:Int) ((mid+mn-s:Nat):Int) (bn:Int) cmp) fun r16=>some r16
                  else some r15
              else if (mid:Int)<((mid+mn-s:Nat):Int)∧((mid+mn-s:Nat):Int)<(bn:Int) then obind (sl_symM (n+dd+2) d (mid:Int) ((mid+mn-s:Nat):Int) (bn:Int) cmp) fun r17=>some r17
                else some d)=some d'∧Mv d d' an bn∧Srt key d' an bn:=by
      intro s k1 k2 k3 k4 k5 q1 q2
      generalize he:mid+mn-s=e at *
      have tail : ∀ d1, Turned d d1 s mn e → ∃ d', (if (an : Int) < (s : Int) ∧ (s : Int) < (mid : Int) then
                obind (sl_symM (n+dd+2) d1 (an:Int) (s:Int) (mid:Int) cmp) fun r15 =>
                  if (mid:Int)<((e:Nat):Int)∧((e:Nat):Int)<(bn:Int) then obind (sl_symM (n+dd+2) r15 (mid:Int) ((e:Nat):Int) (bn:Int) cmp) fun r16=>some r16
                  else some r15
              else if (mid:Int)<((e:Nat):Int)∧((e:Nat):Int)<(bn:Int) then obind (sl_symM (n+dd+2) d1 (mid:Int) ((e:Nat):Int) (bn:Int) cmp) fun r17=>some r17
                else some d1)=some d'∧Mv d d' an bn∧Srt key d' an bn:=by
        intro d1 t
        obtain ⟨⟨w1,w2,w3,w4⟩,cr⟩:=halves (a:=an) (b:=bn) (mid:=mid) s1 s2 t k1 k2 k3 k4 (by omega) hl q1 q2
        have l1:=t.mv.len
        have m1:Mv d d1 an bn:=t.mv.mono k1 k4
        have half1:∃d2,(((an:Int)<(s:Int)∧(s:Int)<(mid:Int))→sl_symM (n+dd+2) d1 (an:Int) (s:Int) (mid:Int) cmp=some d2)∧(¬((an:Int)<(s:Int)∧(s:Int)<(mid:Int))→d2=d1)∧Mv d1 d2 an mid∧Srt key d2 an mid:=by
          by_cases c:(an:Int)<(s:Int)∧(s:Int)<(mid:Int)
          · obtain ⟨d2,t1,t2,t3⟩:=ih n (an:Int) (s:Int) (mid:Int) an s mid d1 rfl rfl rfl (by omega) (by omega) (by omega) (by omega) (by omega) w1 w2
            exact ⟨d2,fun _=>t1,fun h=>absurd c h,t2,t3⟩
          · refine ⟨d1,fun h=>absurd h c,fun _=>rfl,.refl _ _ _,?_⟩
            by_cases c':an<s
            · have:s=mid:=by omega
              subst this;exact w1
            · have:s=an:=by omega
              subst this;exact w2
        obtain ⟨d2,u1,u2,u3,u4⟩:=half1
        have l2:=u3.len
        have w3':=w3.keep u3 (.inr (Nat.le_refl _))
        have w4':=w4.keep u3 (.inr (by omega))
        have cr2:=cross_mv cr (.inl u3)
        have half2:∃d3,(((mid:Int)<(e:Int)∧(e:Int)<(bn:Int))→sl_symM (n+dd+2) d2 (mid:Int) (e:Int) (bn:Int) cmp=some d3)∧(¬((mid:Int)<(e:Int)∧(e:Int)<(bn:Int))→d3=d2)∧Mv d2 d3 mid bn∧Srt key d3 mid bn:=by
          by_cases c:(mid:Int)<(e:Int)∧(e:Int)<(bn:Int)
          · obtain ⟨d3,t1,t2,t3⟩:=ih n (mid:Int) (e:Int) (bn:Int) mid e bn d2 rfl rfl rfl (by omega) (by omega) (by omega) (by omega) (by omega) w3' w4'
            exact ⟨d3,fun _=>t1,fun h=>absurd c h,t2,t3⟩
          · refine ⟨d2,fun h=>absurd h c,fun _=>rfl,.refl _ _ _,?_⟩
            by_cases c':mid<e
            · have:e=bn:=by omega
              rw[this] at w3';exact w3'
            · have:e=mid:=by omega
              rw[this] at w4';exact w4'
        obtain ⟨d3,v1,v2,v3,v4⟩:=half2
        have fin3:Mv d d3 an bn∧Srt key d3 an bn :=
          ⟨(m1.trans (u3.mono (Nat.le_refl _) (by omega))).trans (v3.mono (by omega) (Nat.le_refl _)),Srt.join (u4.keep v3 (.inl (Nat.le_refl _))) v4 (cross_mv cr2 (.inr v3))⟩
        refine ⟨d3,?_,fin3⟩
        by_cases c:(an:Int)<(s:Int)∧(s:Int)<(mid:Int)
        · rw[if_pos c,u1 c,obs]
          by_cases c':(mid:Int)<(e:Int)∧(e:Int)<(bn:Int)
          · rw[if_pos c',v1 c',obs]
          · rw[if_neg c',v2 c']
        · rw[if_neg c]
          obtain rfl:=u2 c
          by_cases c':(mid:Int)<(e:Int)∧(e:Int)<(bn:Int)
          · rw[if_pos c',v1 c',obs]
          · rw[if_neg c',v2 c']
      by_cases c:(s:Int)<(mn:Int)∧(mn:Int)<(e:Int)
      · obtain ⟨d1,t1,t2⟩:=rotate_ok (cmp:=cmp) (n+dd) (s:Int) (mn:Int) (e:Int) s mn e rfl rfl rfl d (by omega) (by omega) (by omega) hL
        rw[if_pos c,t1,obs]
        exact tail d1 t2
      · rw[if_neg c]
        exact tail d (turned_refl d (by omega))
    by_cases c3:(mid:Int)<(mn:Int)
    · rw[if_pos c3,wn (x:=((mid+mn:Nat):Int)-bn) (k:=mid+mn-bn) (by omega) (by omega),wn (x:=((mid+mn:Nat):Int)-1) (k:=mid+mn-1) (by omega) (by omega)]
      obtain ⟨r,r1,r2,r3,r4,r5⟩:=sym_l33 hc (n+dd+2) (an:Int) (bn:Int) (mid:Int) ((mid+mn:Nat):Int) (mn:Int) ((mid+mn-1:Nat):Int) mn bn (mid+mn-1) an rfl d hL s1 s2 hl (mid+mn-bn) mid (by omega) (by omega)
        (fun c h1 h2=>by omega) (mid-(mid+mn-bn)) loopFuel (mid+mn-bn) mid (by omega) (by unfold loopFuel;omega) (by omega) (by omega) (by omega) (fun c x y h1 h2=>by omega) (fun c x y h1 h2=>by omega)
      rw[r1]
      simp only[obs,selim_inl,wn (x:=((mid+mn:Nat):Int)-(r:Int)) (k:=mid+mn-r) (by omega) (by omega)]
      refine fin r (by omega) (by omega) (by omega) (by omega) (by omega) (fun x y h1 h2 hx hy => ?_) (fun x y h1 h2 hx hy => ?_)
      · refine r4 (r-1) x y (by omega) (by omega) hx ?_
        rw[show mid+mn-1-(r-1)=mid+mn-r by omega];exact hy
      · refine Int.le_of_lt (r5 r y x (by omega) (by omega) hy ?_)
        rw[show mid+mn-1-r=mid+mn-r-1 by omega];exact hx
    · rw[if_neg c3,wn (x:=((mid+mn:Nat):Int)-1) (k:=mid+mn-1) (by omega) (by omega)]
      obtain ⟨r,r1,r2,r3,r4,r5⟩:=sym_l33 hc (n+dd+2) (an:Int) (bn:Int) (mid:Int) ((mid+mn:Nat):Int) (mn:Int) ((mid+mn-1:Nat):Int) mn bn (mid+mn-1) an rfl d hL s1 s2 hl an mn (by omega) (by omega)
        (fun c h1 h2=>by omega) (mn-an) loopFuel an mn (by omega) (by unfold loopFuel;omega) (by omega) (by omega) (by omega) (fun c x y h1 h2=>by omega) (fun c x y h1 h2=>by omega)
      rw[r1]
      simp only[obs,selim_inl,wn (x:=((mid+mn:Nat):Int)-(r:Int)) (k:=mid+mn-r) (by omega) (by omega)]
      refine fin r (by omega) (by omega) (by omega) (by omega) (by omega) (fun x y h1 h2 hx hy => ?_) (fun x y h1 h2 hx hy => ?_)
      · refine r4 (r-1) x y (by omega) (by omega) hx ?_
        rw[show mid+mn-1-(r-1)=mid+mn-r by omega];exact hy
      · refine Int.le_of_lt (r5 r y x (by omega) (by omega) hy ?_)
        rw[show mid+mn-1-r=mid+mn-r-1 by omega];exact hx
end
def Runs (key:TSlot→Int) (d:List TSlot) (B N:Nat):Prop:=∀c,B ∣ c→Srt key d c (min (c+B) N)
theorem dvd_step {B a c:Nat} (ha:B ∣ a) (hc:B ∣ c) (h:a<c):a+B≤c:=by
  obtain ⟨x,rfl⟩:=ha
  obtain ⟨y,rfl⟩:=hc
  have:x<y:=Nat.lt_of_mul_lt_mul_left h
  calc B*x+B=B*(x+1):=by rw[Nat.mul_succ]
    _≤B*y:=Nat.mul_le_mul_left B this
section
variable {cmp:(TSlot×(TSlot×Unit))→Option Int} {key:TSlot→Int} (hc:Cmp cmp key)
include hc
theorem stable_l2 (n:Nat) (N:Nat) (n_:Int) (hn:n_=N):∀(k f a:Nat) (d:List TSlot),N-a≤k→k<f→20 ∣ a→a≤N→N=d.length→d.length≤100000000000→(∀c,20 ∣ c→c<a→Srt key d c (min (c+20) N)) →
    ∃d' a',sl_stab_l2 (n+1) f (d,n_,cmp,(20:Int),(a:Int),((a+20:Nat):Int),())=some (.inl (d',n_,cmp,(20:Int),((a':Nat):Int),()))∧20 ∣ a'∧a'≤N∧N<a'+20∧Mv d d' 0 N ∧
      (∀c,20 ∣ c→c<a'→Srt key d' c (min (c+20) N)):=by
  subst hn
  intro k
  induction k with
  | zero =>
    intro f a d hk hf h20 haN hN hL hs
    obtain ⟨f,rfl⟩:∃g,f=g+1:=⟨f-1,by omega⟩
    rw[sl_stab_l2_eq]
    simp only[tfd,if_neg (show ¬(((a+20:Nat):Int)≤(N:Int)) by omega)]
    exact ⟨d,a,rfl,h20,haN,by omega,.refl _ _ _,hs⟩
  | succ k ih =>
    intro f a d hk hf h20 haN hN hL hs
    obtain ⟨f,rfl⟩:∃g,f=g+1:=⟨f-1,by omega⟩
    rw[sl_stab_l2_eq]
    by_cases hle:a+20≤N
    · obtain ⟨d1,r1,r2,r3⟩:=ins_ok hc n (a:Int) ((a+20:Nat):Int) a (a+20) rfl rfl d (by omega) (by omega) (by omega)
      have l1:=r2.len
      simp only[tfd,if_pos (show (((a+20:Nat):Int)≤(N:Int)) by omega),r1,obs]
      rw[wn (x:=((a+20:Nat):Int)+20) (k:=a+20+20) (by omega) (by omega)]
      obtain ⟨d',a',s1,s2,s3,s4,s5,s6⟩:=ih f (a+20) d1 (by omega) (by omega) (by omega) (by omega) (by omega) (by omega) (fun c c1 c2=>by
        by_cases e:c<a
        · have:=dvd_step c1 h20 e
          exact (hs c c1 e).keep r2 (.inl (by omega))
        · have:c=a:=by
            rcases Nat.lt_or_eq_of_le (Nat.le_of_not_lt e) with h | h
            · have:=dvd_step h20 c1 h;omega
            · exact h.symm
          subst this
          rw[Nat.min_eq_left (by omega)]
          exact r3)
      exact ⟨d',a',s1,s2,s3,s4,(r2.mono (by omega) (by omega)).trans s5,s6⟩
    · simp only[tfd,if_neg (show ¬(((a+20:Nat):Int)≤(N:Int)) by omega)]
      exact ⟨d,a,rfl,h20,haN,by omega,.refl _ _ _,hs⟩
theorem stable_l9 (n dd:Nat) (N B:Nat) (n_:Int) (hn:n_=N) (hB:0<B) (hBN:B<N) (hdd:N≤2^dd):∀(k f a:Nat) (d:List TSlot),N-a≤k→k<f→2*B ∣ a→a≤N→N=d.length→d.length≤100000000000 →
      (∀c,2*B ∣ c→c<a→Srt key d c (min (c+2*B) N))→(∀c,B ∣ c→a≤c→Srt key d c (min (c+B) N)) →
    ∃d' a',sl_stab_l9 (n+dd+2) f (d,n_,cmp,(B:Int),(a:Int),((a+2*B:Nat):Int),())=some (.inl (d',n_,cmp,(B:Int),((a':Nat):Int),()))∧2*B ∣ a'∧a'≤N∧N<a'+2*B∧Mv d d' 0 N ∧
      (∀c,2*B ∣ c→c<a'→Srt key d' c (min (c+2*B) N))∧(∀c,B ∣ c→a'≤c→Srt key d' c (min (c+B) N)):=by
  subst hn
  have dB:B ∣ 2*B:=⟨2,by omega⟩
  intro k
  induction k with
  | zero =>
    intro f a d hk hf h20 haN hN hL hs hs'
    obtain ⟨f,rfl⟩:∃g,f=g+1:=⟨f-1,by omega⟩
    rw[sl_stab_l9_eq]
    simp only[tfd,if_neg (show ¬(((a+2*B:Nat):Int)≤(N:Int)) by omega)]
    exact ⟨d,a,rfl,h20,haN,by omega,.refl _ _ _,hs,hs'⟩
  | succ k ih =>
    intro f a d hk hf h20 haN hN hL hs hs'
    obtain ⟨f,rfl⟩:∃g,f=g+1:=⟨f-1,by omega⟩
    rw[sl_stab_l9_eq]
    by_cases hle:a+2*B≤N
    · have ba:B ∣ a:=Nat.dvd_trans dB h20
      have q1:=hs' a ba (Nat.le_refl _)
      have q2:=hs' (a+B) (Nat.dvd_add ba (Nat.dvd_refl _)) (by omega)
      rw[Nat.min_eq_left (by omega)] at q1 q2
      rw[wn (x:=(a:Int)+B) (k:=a+B) (by omega) (by omega)]
      obtain ⟨d1,r1,r2,r3⟩:=symMerge_ok hc dd n (a:Int) ((a+B:Nat):Int) ((a+2*B:Nat):Int) a (a+B) (a+2*B) d rfl rfl rfl (by omega) (by omega) (by omega) (by omega) (by omega) q1 (q2.mono (by omega) (by omega))
      have l1:=r2.len
      simp only[tfd,if_pos (show (((a+2*B:Nat):Int)≤(N:Int)) by omega),r1,obs]
      rw[wn (x:=2*(B:Int)) (k:=2*B) (by omega) (by omega),wn (x:=((a+2*B:Nat):Int)+((2*B:Nat):Int)) (k:=a+2*B+2*B) (by omega) (by omega)]
      obtain ⟨d',a',s1,s2,s3,s4,s5,s6,s7⟩:=ih f (a+2*B) d1 (by omega) (by omega) (Nat.dvd_add h20 (Nat.dvd_refl _)) (by omega) (by omega) (by omega) (fun c c1 c2=>by
        by_cases e:c<a
        · have:=dvd_step c1 h20 e
          exact (hs c c1 e).keep r2 (.inl (by omega))
        · have:c=a:=by
            rcases Nat.lt_or_eq_of_le (Nat.le_of_not_lt e) with h | h
            · have:=dvd_step h20 c1 h;omega
            · exact h.symm
          subst this
          rw[Nat.min_eq_left (by omega)]
          exact r3)
        (fun c c1 c2=>(hs' c c1 (by omega)).keep r2 (.inr (by omega)))
      exact ⟨d',a',s1,s2,s3,s4,(r2.mono (by omega) (by omega)).trans s5,s6,s7⟩
    · simp only[tfd,if_neg (show ¬(((a+2*B:Nat):Int)≤(N:Int)) by omega)]
      exact ⟨d,a,rfl,h20,haN,by omega,.refl _ _ _,hs,hs'⟩
theorem stable_l7 (n dd:Nat) (N:Nat) (n_:Int) (hn:n_=N) (hdd:N≤2^dd):∀(k f B:Nat) (d:List TSlot),N-B≤k→k<f→0<B→B≤200000000000→N=d.length→d.length≤100000000000→Runs key d B N →
    ∃d',sl_stab_l7 (n+dd+2) f (d,n_,cmp,(B:Int),())=some (.inl (d',()))∧Mv d d' 0 N∧Srt key d' 0 N:=by
  subst hn
  intro k
  induction k with
  | zero =>
    intro f B d hk hf hB hBl hN hL hs
    obtain ⟨f,rfl⟩:∃g,f=g+1:=⟨f-1,by omega⟩
    rw[sl_stab_l7_eq]
    simp only[tfd,if_neg (show ¬((B:Int)<(N:Int)) by omega)]
    have:=hs 0 (Nat.dvd_zero _)
    rw[Nat.min_eq_right (by omega)] at this
    exact ⟨d,rfl,.refl _ _ _,this⟩
  | succ k ih =>
    intro f B d hk hf hB hBl hN hL hs
    obtain ⟨f,rfl⟩:∃g,f=g+1:=⟨f-1,by omega⟩
    rw[sl_stab_l7_eq]
    by_cases hlt:B<N
    · obtain ⟨d1,a,r1,r2,r3,r4,r5,r6,r7⟩:=stable_l9 hc n dd N B (N:Int) rfl hB hlt hdd N loopFuel 0 d (by omega) (by unfold loopFuel;omega) (Nat.dvd_zero _) (by omega) hN hL (fun c _ h=>by omega) (fun c h _=>hs c h)
      have l1:=r5.len
      rw[Nat.zero_add] at r1
      simp only[tfd,if_pos (show ((B:Int)<(N:Int)) by omega),wn (x:=2*(B:Int)) (k:=2*B) (by omega) (by omega)]
      rw[show ((0:Int))=((0:Nat):Int) from rfl,r1]
      simp only[obs,selim_inl,wn (x:=(a:Int)+B) (k:=a+B) (by omega) (by omega),wn (x:=(B:Int)*2) (k:=2*B) (by omega) (by omega)]
      have dB:B ∣ 2*B:=⟨2,by omega⟩
      have ba:B ∣ a:=Nat.dvd_trans dB r2
      by_cases hm:a+B<N
      · have q1:=r7 a ba (Nat.le_refl _)
        have q2:=r7 (a+B) (Nat.dvd_add ba (Nat.dvd_refl _)) (by omega)
        rw[Nat.min_eq_left (by omega)] at q1
        rw[Nat.min_eq_right (by omega)] at q2
        obtain ⟨d2,t1,t2,t3⟩:=symMerge_ok hc dd n (a:Int) ((a+B:Nat):Int) (N:Int) a (a+B) N d1 rfl rfl rfl (by omega) (by omega) (by omega) (by omega) (by omega) q1 q2
        have l2:=t2.len
        simp only[if_pos (show (((a+B:Nat):Int)<(N:Int)) by omega),t1,obs]
        obtain ⟨d3,u1,u2,u3⟩:=ih f (2*B) d2 (by omega) (by omega) (by omega) (by omega) (by omega) (by omega) (fun c hcd=>by
          by_cases e:c<a
          · have:=dvd_step hcd r2 e
            exact (r6 c hcd e).keep t2 (.inl (by omega))
          · by_cases e':c=a
            · subst e'
              exact t3.mono (Nat.le_refl _) (by omega)
            · have:=dvd_step r2 hcd (by omega)
              exact Srt.one _ _ (by omega))
        exact ⟨d3,u1,(r5.trans (t2.mono (by omega) (by omega))).trans u2,u3⟩
      · simp only[if_neg (show ¬(((a+B:Nat):Int)<(N:Int)) by omega)]
        obtain ⟨d3,u1,u2,u3⟩:=ih f (2*B) d1 (by omega) (by omega) (by omega) (by omega) (by omega) (by omega) (fun c hcd=>by
          by_cases e:c<a
          · exact r6 c hcd e
          · by_cases e':c=a
            · subst e'
              have q1:=r7 c ba (Nat.le_refl _)
              exact q1.mono (Nat.le_refl _) (by omega)
            · have:=dvd_step r2 hcd (by omega)
              exact Srt.one _ _ (by omega))
        exact ⟨d3,u1,r5.trans u2,u3⟩
    · simp only[tfd,if_neg (show ¬((B:Int)<(N:Int)) by omega)]
      have:=hs 0 (Nat.dvd_zero _)
      rw[Nat.min_eq_right (by omega)] at this
      exact ⟨d,rfl,.refl _ _ _,this⟩
theorem sortStable_ok (n dd:Nat) (d:List TSlot) (hL:d.length≤2^dd) (hL':d.length≤100000000000) :
    ∃d',sl_SortStableFunc_Slot (n+dd+4) d cmp=some d'∧d'.Perm d∧Srt key d' 0 d.length:=by
  rw[sl_SortStableFunc_Slot_eq,sl_stab_eq]
  obtain ⟨d1,a,r1,r2,r3,r4,r5,r6⟩:=stable_l2 hc (n+dd+1) d.length (d.length:Int) rfl d.length loopFuel 0 d (by omega) (by unfold loopFuel;omega) (Nat.dvd_zero _) (by omega) rfl hL' (fun c _ h=>by omega)
  have l1:=r5.len
  obtain ⟨d2,s1,s2,s3⟩:=ins_ok hc (n+dd+1) (a:Int) (d.length:Int) a d.length rfl rfl d1 r3 (by omega) (by omega)
  have l2:=s2.len
  obtain ⟨d3,t1,t2,t3⟩:=stable_l7 hc n dd d.length (d.length:Int) rfl hL d.length loopFuel 20 d2 (by omega) (by unfold loopFuel;omega) (by omega) (by omega) (by omega) (by omega) (fun c hcd=>by
    by_cases e:c<a
    · have:=dvd_step hcd r2 e
      exact (r6 c hcd e).keep s2 (.inl (by omega))
    · by_cases e':c=a
      · subst e'
        exact s3.mono (Nat.le_refl _) (by omega)
      · have:=dvd_step r2 hcd (by omega)
        exact Srt.one _ _ (by omega))
  have r1':sl_stab_l2 (n+dd+2) loopFuel (d,((d.length:Nat):Int),cmp,(20:Int),(0:Int),(20:Int),())=_:=r1
  rw[r1']
  simp only[obs,selim_inl,s1]
  have t1':sl_stab_l7 (n+dd+2) loopFuel (d2,((d.length:Nat):Int),cmp,(20:Int),())=_:=t1
  rw[t1']
  exact ⟨d3,by simp,(t2.perm.trans s2.perm).trans r5.perm,t3⟩
end
end Go.Proofs.YtefpnjjbopdplaaGreatDoor

namespace Go.Plim
set_option linter.unusedVariables false
abbrev Slo:=Int×Cel
instance decSlo:DecidableEq Slo := @instDecidableEqProd _ _ _ decCel
def s0:Slo:=(0,z0)
structure FitsP (c:Cel) (w i:Int):Prop where
  n:CellN c
  w0:1≤w
  w1:w≤1099511627776
  f:c.2.1.1 / w=i
  l:c.2.2.1.1 / w=i
theorem FitsP.i0 {c:Cel} {w i:Int} (h:FitsP c w i):0≤i∧i<35184372088832:=by
  obtain ⟨n,w0,w1,f,l⟩:=h
  have h1:=n.f.t0
  have h2:=n.f.t1
  have:0≤c.2.1.1 / w:=Int.ediv_nonneg h1 (by omega)
  have:c.2.1.1 / w≤c.2.1.1:=Int.ediv_le_self _ h1
  omega
structure TierOk (l:List Slo) (w:Int):Prop where
  l0:1≤l.length
  l1:l.length≤4096
  w0:1≤w
  w1:w≤1099511627776
  s:∀(j:Nat) s,l[j]? = some s→s=s0∨(s.1 % (l.length:Int)=j∧FitsP s.2 w s.1)
noncomputable instance (c w i):Decidable (FitsP c w i):=Classical.propDecidable _
noncomputable instance (l w):Decidable (TierOk l w):=Classical.propDecidable _
def tget (l:List Slo) (i:Int):Cel :=
  if i<0 then z0 else match l[(i % (l.length:Int)).toNat]? with | some s=>if s.1=i then s.2 else z0 | none=>z0
def Up (l:List Slo):Prop:=l.Pairwise fun a b=>a.1<b.1
theorem up_perm:∀ {a b:List Slo},Up a→Up b→a.Perm b→a=b:=by
  intro a
  induction a with
  | nil=>intro b _ _ h;exact h.nil_eq
  | cons x a ih =>
    intro b ha hb h
    cases b with
    | nil=>exact absurd h.length_eq (by simp)
    | cons y b =>
      unfold Up at *
      rw[List.pairwise_cons] at ha hb
      have hx:x∈y::b:=h.subset (by simp)
      have hy:y∈x::a:=h.symm.subset (by simp)
      have e:x=y:=by
        rcases List.mem_cons.1 hx with e | hx
        · exact e
        · rcases List.mem_cons.1 hy with e | hy
          · exact e.symm
          · have:=hb.1 x hx;have:=ha.1 y hy;omega
      subst e
      rw[ih ha.2 hb.2 (List.Perm.cons_inv h)]
def some13 (l:List Slo):List Slo:=l.filter fun s=>decide (s≠s0)
theorem TierOk.apart {l:List Slo} {w:Int} (h:TierOk l w):(some13 l).Pairwise fun a b=>a.1≠b.1:=by
  have key:∀(m:List Slo) (k:Nat),(∀(j:Nat) s,m[j]? = some s→s=s0∨s.1 % (l.length:Int)=((k+j:Nat):Int))→(some13 m).Pairwise fun a b=>a.1≠b.1:=by
    intro m
    induction m with
    | nil=>intro k _;exact .nil
    | cons x m ih =>
      intro k hm
      have ih':=ih (k+1) (fun j s hs=>by
        have:=hm (j+1) s hs
        rwa [show k+(j+1)=k+1+j by omega] at this)
      unfold some13 at *
      by_cases hx:x=s0
      · rw[List.filter_cons_of_neg (by simp[hx])];exact ih'
      · rw[List.filter_cons_of_pos (by simp[hx])]
        refine List.pairwise_cons.2 ⟨fun y hy => ?_,ih'⟩
        have hy':=List.mem_filter.1 hy
        obtain ⟨j,hj⟩:=List.getElem?_of_mem hy'.1
        have h1:=(hm 0 x rfl).resolve_left hx
        have h2:=(hm (j+1) y hj).resolve_left (by simpa using hy'.2)
        intro e
        rw[e,h2] at h1
        omega
  exact key l 0 (fun j s hs=>by
    rcases h.s j s hs with e | e
    · exact .inl e
    · exact .inr (by rw[e.1,Nat.zero_add]))
def tall (l:List Slo):List Slo:=(some13 l).mergeSort fun a b=>decide (a.1≤b.1)
theorem tall_perm (l:List Slo):(tall l).Perm (some13 l):=List.mergeSort_perm _ _
theorem up_of {l:List Slo} (h:l.Pairwise fun a b=>a.1≤b.1) (h':l.Pairwise fun a b=>a.1≠b.1):Up l:=by
  have:=h.and h'
  exact this.imp (fun {a b} k=>by have:=k.1;have:=k.2;omega)
theorem tall_up {l:List Slo} {w:Int} (h:TierOk l w):Up (tall l):=by
  refine up_of ?_ ((tall_perm l).pairwise_iff (fun {a b} k=>k.symm) |>.2 h.apart)
  have:=List.pairwise_mergeSort (le:=fun a b:Slo=>decide (a.1≤b.1)) (fun a b c h1 h2=>by simp at *;omega) (fun a b=>by simp;omega) (some13 l)
  exact this.imp (fun {a b} k=>by simpa using k)
theorem tall_eq {l r:List Slo} {w:Int} (h:TierOk l w) (hp:r.Perm (some13 l)) (hs:r.Pairwise fun a b=>a.1≤b.1):r=tall l:=by
  refine up_perm (up_of hs (hp.pairwise_iff (fun {a b} k=>k.symm) |>.2 h.apart)) (tall_up h) (hp.trans (tall_perm l).symm)
theorem mem_tall {l:List Slo} {s:Slo}:s∈tall l↔s∈l∧s≠s0:=by
  rw[(tall_perm l).mem_iff];simp[some13]
theorem tall_fits {l:List Slo} {w:Int} (h:TierOk l w) {s:Slo} (hs:s∈tall l):FitsP s.2 w s.1∧l[(s.1 % (l.length:Int)).toNat]? = some s:=by
  obtain ⟨h1,h2⟩:=mem_tall.1 hs
  obtain ⟨j,hj⟩:=List.getElem?_of_mem h1
  obtain ⟨h3,h4⟩:=(h.s j s hj).resolve_left h2
  refine ⟨h4,?_⟩
  rw[h3];exact hj
theorem tget_mem {l:List Slo} {w:Int} (h:TierOk l w) {s:Slo} (hs:s∈tall l):tget l s.1=s.2:=by
  obtain ⟨h1,h2⟩:=tall_fits h hs
  unfold tget
  rw[if_neg (by have:=h1.i0;omega),h2]
  simp
def within (l:List Slo) (i k:Int):List Cel:=((tall l).filter fun s=>decide (i≤s.1∧s.1<k)).map (·.2)
def tfold (l:List Slo) (i k:Int):Cel×Int:=if i<0∨k<i then (z0,1) else allE z0 (within l i k)
end Go.Plim

namespace Go.Proofs.YtefpnjjbopdplaaGreatDoor
open Go.Flat Go.Plim
set_option linter.unusedVariables false
set_option linter.unusedSimpArgs false
structure SloW (s:Slo):Prop where
  i:I64 s.1
  c:CelW s.2
theorem sloEq (a b:Slo):((decide (a.1=b.1))&&((decide (a.2.1=b.2.1))&&((decide (a.2.2.1.1=b.2.2.1.1))&&((decide (a.2.2.1.2.1=b.2.2.1.2.1))&&((decide (a.2.2.1.2.2.1=b.2.2.1.2.2.1))&&((a.2.2.1.2.2.2==b.2.2.1.2.2.2)&&((decide (a.2.2.2.1.1=b.2.2.2.1.1))&&((decide (a.2.2.2.1.2.1=b.2.2.2.1.2.1))&&((decide (a.2.2.2.1.2.2.1=b.2.2.2.1.2.2.1))&&((a.2.2.2.1.2.2.2==b.2.2.2.1.2.2.2)&&((decide (a.2.2.2.2.1.1=b.2.2.2.2.1.1))&&((decide (a.2.2.2.2.1.2=b.2.2.2.2.1.2))&&((decide (a.2.2.2.2.2.1=b.2.2.2.2.2.1))&&((decide (a.2.2.2.2.2.2.1=b.2.2.2.2.2.2.1))&&(decide (a.2.2.2.2.2.2.2=b.2.2.2.2.2.2.2))))))))))))))))=decide (a=b):=by
  rw[celEq a.2 b.2,Bool.eq_iff_iff];simp[Prod.ext_iff]
theorem sloEq0 (a:Slo):((decide (a.1=(0:Int)))&&((decide (a.2.1=(0:Int)))&&((decide (a.2.2.1.1=(0:Int)))&&((decide (a.2.2.1.2.1=(0:Int)))&&((decide (a.2.2.1.2.2.1=(0:Int)))&&((a.2.2.1.2.2.2==false)&&((decide (a.2.2.2.1.1=(0:Int)))&&((decide (a.2.2.2.1.2.1=(0:Int)))&&((decide (a.2.2.2.1.2.2.1=(0:Int)))&&((a.2.2.2.1.2.2.2==false)&&((decide (a.2.2.2.2.1.1=(0:Int)))&&((decide (a.2.2.2.2.1.2=(0:Int)))&&((decide (a.2.2.2.2.2.1=(0:Int)))&&((decide (a.2.2.2.2.2.2.1=(0:Int)))&&(decide (a.2.2.2.2.2.2.2=(0:Int)))))))))))))))))=decide (a=s0):=sloEq a s0
theorem wi_in (n:Nat) (x a b:Int):wi_in_int64 (n+1) x a b=some (decide (a≤x∧x≤b)):=by
  rw[wi_in_int64_eq]
  by_cases h1:a≤x<;>by_cases h2:x≤b<;>simp[h1,h2]
def OfP (t w:Int):Prop:=0≤t∧t<35184372088832∧1≤w∧w≤1099511627776
instance (t w:Int):Decidable (OfP t w):=by unfold OfP;infer_instance
theorem quo_range {t w:Int} (h:OfP t w):0≤t / w∧t / w<35184372088832:=by
  obtain ⟨h1,h2,h3,h4⟩:=h
  have:0≤t / w:=Int.ediv_nonneg h1 (by omega)
  have:t / w≤t:=Int.ediv_le_self _ h1
  omega
theorem wi_of (n:Nat) (t w:Int):wi_Of (n+3) t w=some (if OfP t w then (t / w,0) else (0,1)):=by
  rw[wi_Of_eq,wi_width_eq,wi_in,wi_in]
  simp only[obs,tfn,tfd]
  by_cases h:OfP t w
  · have hq:=quo_range h
    rw[if_pos h]
    obtain ⟨h1,h2,h3,h4⟩:=h
    rw[if_pos (show (0:Int)≤t∧t≤35184372088831 by omega),if_pos (And.intro h3 h4),if_neg (show ¬(w=0) by omega),tdiv_nn h1,w64 (by omega) (by omega)]
  · rw[if_neg h]
    by_cases h1:(0:Int)≤t∧t≤35184372088831
    · rw[if_pos h1,if_neg (fun k=>h ⟨h1.1,by omega,k.1,k.2⟩)]
    · rw[if_neg h1]
theorem r09_of (n:Nat) (t w:Int):r09_Of (n+2) t w=some (if OfP t w then (t / w,0) else (0,1)):=by
  rw[r09_Of_eq,r09_width_eq]
  simp only[tfd]
  by_cases h:OfP t w
  · have hq:=quo_range h
    rw[if_pos h]
    obtain ⟨h1,h2,h3,h4⟩:=h
    rw[if_neg (show ¬(t<0) by omega),if_neg (show ¬((35184372088832:Int)≤t) by omega),if_pos h3,decide_eq_true h4]
    simp only[obs,Bool.not_true,tff]
    rw[if_neg (show ¬(w=0) by omega),tmod_nn h1]
    have e:t-t % w=w*(t / w):=by have:=Int.mul_ediv_add_emod t w;omega
    have m0:=Int.emod_nonneg t (show w≠0 by omega)
    have m1:t % w≤t:=by
      have:=Int.mul_nonneg (show 0≤w by omega) hq.1
      omega
    rw[w64 (x:=t-t % w) (by omega) (by omega),tdiv_nn (by omega),e,Int.mul_ediv_cancel_left _ (show w≠0 by omega),w64 (by omega) (by omega),if_neg (show ¬(w=0) by omega)]
  · rw[if_neg h]
    by_cases h1:t<0
    · rw[if_pos h1]
    by_cases h2:(35184372088832:Int)≤t
    · rw[if_neg h1,if_pos h2]
    rw[if_neg h1,if_neg h2]
    by_cases h3:(1:Int)≤w
    · have h4:¬(w≤1099511627776):=fun k=>h ⟨by omega,by omega,h3,k⟩
      rw[if_pos h3,decide_eq_false h4];rfl
    · rw[if_neg h3];rfl
def slotOf (i n:Int):Int:=if i<0 then 0 else if n<1 then 0 else i % n
theorem wi_slot (n:Nat) (i m:Int):wi_Slot (n+1) i m=some (slotOf i m):=by
  rw[wi_Slot_eq]
  simp only[tfd]
  unfold slotOf
  by_cases h1:i<0
  · rw[if_pos h1,if_pos h1]
  by_cases h2:m<1
  · rw[if_neg h1,if_neg h1,if_pos h2,if_pos h2]
  rw[if_neg h1,if_neg h1,if_neg h2,if_neg h2,if_neg (by omega),tmod_nn (by omega)]
theorem r09_slot (n:Nat) (i m:Int):r09_Slot (n+1) i m=some (slotOf i m):=by
  rw[r09_Slot_eq]
  simp only[tfd]
  unfold slotOf
  by_cases h1:i<0
  · rw[if_pos h1,if_pos h1]
  by_cases h2:m<1
  · rw[if_neg h1,if_neg h1,if_pos h2,if_pos h2]
  rw[if_neg h1,if_neg h1,if_neg h2,if_neg h2,if_neg (by omega),tmod_nn (by omega)]
theorem slotOf_val {i n:Int} (hi:0≤i) (hn:1≤n):slotOf i n=i % n:=by
  unfold slotOf;rw[if_neg (by omega),if_neg (by omega)]
theorem fitsP_iff (c:Cel) (w i:Int):FitsP c w i↔c≠z0∧CellOk c∧OfP c.2.1.1 w∧c.2.1.1 / w=i∧OfP c.2.2.1.1 w∧c.2.2.1.1 / w=i:=by
  constructor
  · rintro ⟨n,w0,w1,f,l⟩
    exact ⟨n.ne,n.ok,⟨n.f.t0,n.f.t1,w0,w1⟩,f,⟨n.l.t0,n.l.t1,w0,w1⟩,l⟩
  · rintro ⟨h1,h2,h3,h4,h5,h6⟩
    exact ⟨h2.n h1,h3.2.2.1,h3.2.2.2,h4,h6⟩
theorem of01 (p:Prop) [Decidable p] (x:Int):((if p then (x,(0:Int)) else (0,1)).2=0)↔p:=by by_cases h:p<;>simp[h]
theorem fits_l4_2 (n f:Nat) (w i:Int) (s:Int×Int):tier_Fits_l4 n (f+1) (w,i,s,(2:Int),())=some (.inl ()):=by
  rw[tier_Fits_l4_eq,show (decide ((2:Int)<2))=false from rfl,tff]
theorem fits_l4_1 (n f:Nat) (w i:Int) (s:Int×Int):tier_Fits_l4 (n+3) (f+2) (w,i,s,(1:Int),())=some (if OfP s.2 w∧s.2 / w=i then .inl () else .inr false):=by
  rw[tier_Fits_l4_eq,show (decide ((1:Int)<2))=true from rfl,tft,show (decide ((1:Int)=0))=false from rfl,tff,show (decide ((1:Int)=1))=true from rfl,tft,wi_of]
  simp only[tfd,tfn,obs,of01]
  rw[show IntKind.wrap .i64 ((1:Int)+1)=2 from rfl,fits_l4_2]
  by_cases h3:OfP s.2 w
  · rw[if_pos h3,if_pos h3]
    by_cases h4:s.2 / w=i
    · rw[if_pos h4,if_pos (And.intro h3 h4)]
    · rw[if_neg h4,if_neg (fun k=>h4 k.2)]
  · rw[if_neg h3,if_neg (fun k=>h3 k.1)]
theorem fits_l4_0 (n f:Nat) (w i:Int) (s:Int×Int):tier_Fits_l4 (n+3) (f+3) (w,i,s,(0:Int),())=some (if (OfP s.1 w∧s.1 / w=i)∧(OfP s.2 w∧s.2 / w=i) then .inl () else .inr false):=by
  rw[tier_Fits_l4_eq,show (decide ((0:Int)<2))=true from rfl,tft,show (decide ((0:Int)=0))=true from rfl,tft,wi_of]
  simp only[tfd,tfn,obs,of01]
  rw[show IntKind.wrap .i64 ((0:Int)+1)=1 from rfl,fits_l4_1]
  by_cases h3:OfP s.1 w
  · rw[if_pos h3,if_pos h3]
    by_cases h4:s.1 / w=i
    · rw[if_pos h4]
      by_cases h5:OfP s.2 w∧s.2 / w=i
      · rw[if_pos h5,if_pos (And.intro (And.intro h3 h4) h5)]
      · rw[if_neg h5,if_neg (fun k=>h5 k.2)]
    · rw[if_neg h4,if_neg (fun k=>h4 k.1.2)]
  · rw[if_neg h3,if_neg (fun k=>h3 k.1.1)]
theorem tier_fits (n:Nat) {c:Cel} (hc:CelW c) (w i:Int):tier_Fits (n+6) c w i=some (decide (FitsP c w i)):=by
  rw[tier_Fits_eq,cell_check n hc]
  simp only[tfd,obs,tfn,z02]
  have e:loopFuel=(2^70-3)+3:=by decide
  rw[e,fits_l4_0]
  have hiff:=fitsP_iff c w i
  by_cases h1:c.1=0
  · rw[if_pos h1,decide_eq_false]
    intro k;have:=k.n.n1;omega
  rw[if_neg h1]
  by_cases h2:CellOk c
  case neg=>rw[if_neg h2,decide_eq_false (fun k=>h2 (hiff.1 k).2.1)]
  rw[if_pos h2]
  by_cases h3:(OfP c.2.1.1 w∧c.2.1.1 / w=i)∧(OfP c.2.2.1.1 w∧c.2.2.1.1 / w=i)
  · rw[if_pos h3,decide_eq_true (hiff.2 ⟨mt h2.count.1.2 h1,h2,h3.1.1,h3.1.2,h3.2.1,h3.2.2⟩)];rfl
  · rw[if_neg h3,decide_eq_false (fun k=>h3 (by have:=hiff.1 k;exact ⟨⟨this.2.2.1,this.2.2.2.1⟩,this.2.2.2.2⟩))];rfl
theorem r13_fits (n:Nat) {c:Cel} (hc:CelW c) (w i:Int):r13_Fits (n+5) c w i=some (decide (FitsP c w i)):=by
  rw[r13_Fits_eq,r08_check n hc,r09_of,r09_of]
  simp only[tfd,obs,tfn,z02,of01]
  have hiff:=fitsP_iff c w i
  by_cases h2:CellOk c
  case neg=>rw[if_neg h2,decide_eq_false (fun k=>h2 (hiff.1 k).2.1)]
  rw[if_pos h2]
  by_cases h1:c.1=0
  · rw[if_pos h1,decide_eq_false]
    intro k;have:=k.n.n1;omega
  rw[if_neg h1]
  by_cases h3:OfP c.2.1.1 w
  case neg=>rw[if_neg h3,decide_eq_false (fun k=>h3 (hiff.1 k).2.2.1)]
  rw[if_pos h3,if_pos h3]
  by_cases h5:OfP c.2.2.1.1 w
  case neg=>rw[if_neg h5,decide_eq_false (fun k=>h5 (hiff.1 k).2.2.2.2.1)]
  rw[if_pos h5,if_pos h5]
  by_cases h4:c.2.1.1 / w=i
  case neg=>rw[if_neg h4,decide_eq_false (fun k=>h4 (hiff.1 k).2.2.2.1)]
  rw[if_pos h4]
  congr 1
  exact decide_eq_decide.2 ⟨fun h6=>hiff.2 ⟨mt h2.count.1.2 h1,h2,h3,h4,h5,h6⟩,fun k=>(hiff.1 k).2.2.2.2.2⟩
theorem tier_none_val (n:Nat) (s:Slo):tier_none (n+1) s=some (decide (s=s0)):=by rw[tier_none_eq,sloEq0]
def SlotP (m w:Int) (j:Int) (s:Slo):Prop:=s=s0∨(slotOf s.1 m=j∧FitsP s.2 w s.1)
theorem tier_check_l (n:Nat) (l:List Slo) (w:Int) (hL:l.length≤4096) (hw:∀s∈l,SloW s):∀(rest pre:List Slo) (f:Nat) (i len:Int),l=pre++rest→i=pre.length→len=l.length→rest.length<f →
    ((∀(j:Nat) s,rest[j]? = some s→SlotP l.length w (i+j) s)→tier_Check_l4 (n+6) f (l,w,l,len,i,())=some (.inl ())) ∧
    (¬(∀(j:Nat) s,rest[j]? = some s→SlotP l.length w (i+j) s)→tier_Check_l4 (n+6) f (l,w,l,len,i,())=some (.inr 2)):=by
  intro rest
  induction rest with
  | nil =>
    intro pre f i len hl hi hn hf
    obtain ⟨f,rfl⟩:∃g,f=g+1:=⟨f-1,by simp at hf;omega⟩
    rw[tier_Check_l4_eq]
    refine ⟨fun _=>by simp only[tfd,if_neg (idxe hl hi hn)],fun h=>absurd ?_ h⟩
    intro j s hs;simp at hs
  | cons x rest ih =>
    intro pre f i len hl hi hn hf
    obtain ⟨f,rfl⟩:∃g,f=g+1:=⟨f-1,by simp at hf;omega⟩
    rw[tier_Check_l4_eq]
    have hx:SloW x:=hw x (by rw[hl];simp)
    have ih':=ih (pre++[x]) f (i+1) len (idxl hl) (idxs hi) hn (by simp at hf;omega)
    simp only[tfd,tfn,if_pos (idx hl hi hn),at_mid hl hi,obs,tier_none_val,wi_slot,tier_fits n hx.c,idxw hl hi (by omega)]
    have split:(∀(j:Nat) s,(x::rest)[j]? = some s→SlotP l.length w (i+j) s)↔SlotP l.length w i x∧(∀(j:Nat) s,rest[j]? = some s→SlotP l.length w (i+1+j) s):=by
      constructor
      · intro h
        refine ⟨by simpa using h 0 x rfl,fun j s hs => ?_⟩
        have:=h (j+1) s hs
        rwa [show i+((j+1:Nat):Int)=i+1+j by omega] at this
      · rintro ⟨h1,h2⟩ j s hs
        cases j with
        | zero=>simp at hs;subst hs;simpa using h1
        | succ j =>
          have:=h2 j s hs
          rwa [show i+((j+1:Nat):Int)=i+1+j by omega]
    rw[split]
    by_cases h0:x=s0
    · rw[if_pos h0]
      have hp:SlotP l.length w i x := .inl h0
      exact ⟨fun h=>ih'.1 h.2,fun h=>ih'.2 (fun k=>h ⟨hp,k⟩)⟩
    · rw[if_neg h0]
      by_cases h1:slotOf x.1 l.length=i
      · rw[if_pos h1]
        by_cases h2:FitsP x.2 w x.1
        · rw[if_pos h2]
          have hp:SlotP l.length w i x := .inr ⟨h1,h2⟩
          exact ⟨fun h=>ih'.1 h.2,fun h=>ih'.2 (fun k=>h ⟨hp,k⟩)⟩
        · rw[if_neg h2]
          exact ⟨fun h=>absurd (h.1.resolve_left h0).2 h2,fun _=>rfl⟩
      · rw[if_neg h1]
        exact ⟨fun h=>absurd (h.1.resolve_left h0).1 h1,fun _=>rfl⟩
theorem r13_check_l (n:Nat) (l:List Slo) (w:Int) (hL:l.length≤4096) (hw:∀s∈l,SloW s):∀(rest pre:List Slo) (f:Nat) (i len:Int),l=pre++rest→i=pre.length→len=l.length→rest.length<f →
    ((∀(j:Nat) s,rest[j]? = some s→SlotP l.length w (i+j) s)→r13_Check_l4 (n+5) f (l,w,l,len,i,())=some (.inl ())) ∧
    (¬(∀(j:Nat) s,rest[j]? = some s→SlotP l.length w (i+j) s)→r13_Check_l4 (n+5) f (l,w,l,len,i,())=some (.inr 2)):=by
  intro rest
  induction rest with
  | nil =>
    intro pre f i len hl hi hn hf
    obtain ⟨f,rfl⟩:∃g,f=g+1:=⟨f-1,by simp at hf;omega⟩
    rw[r13_Check_l4_eq]
    refine ⟨fun _=>by simp only[tfd,if_neg (idxe hl hi hn)],fun h=>absurd ?_ h⟩
    intro j s hs;simp at hs
  | cons x rest ih =>
    intro pre f i len hl hi hn hf
    obtain ⟨f,rfl⟩:∃g,f=g+1:=⟨f-1,by simp at hf;omega⟩
    rw[r13_Check_l4_eq]
    have hx:SloW x:=hw x (by rw[hl];simp)
    have ih':=ih (pre++[x]) f (i+1) len (idxl hl) (idxs hi) hn (by simp at hf;omega)
    simp only[tfd,tfn,if_pos (idx hl hi hn),at_mid hl hi,obs,sloEq0,r09_slot,r13_fits n hx.c,idxw hl hi (by omega)]
    have split:(∀(j:Nat) s,(x::rest)[j]? = some s→SlotP l.length w (i+j) s)↔SlotP l.length w i x∧(∀(j:Nat) s,rest[j]? = some s→SlotP l.length w (i+1+j) s):=by
      constructor
      · intro h
        refine ⟨by simpa using h 0 x rfl,fun j s hs => ?_⟩
        have:=h (j+1) s hs
        rwa [show i+((j+1:Nat):Int)=i+1+j by omega] at this
      · rintro ⟨h1,h2⟩ j s hs
        cases j with
        | zero=>simp at hs;subst hs;simpa using h1
        | succ j =>
          have:=h2 j s hs
          rwa [show i+((j+1:Nat):Int)=i+1+j by omega]
    rw[split]
    by_cases h0:x=s0
    · rw[if_pos h0]
      have hp:SlotP l.length w i x := .inl h0
      exact ⟨fun h=>ih'.1 h.2,fun h=>ih'.2 (fun k=>h ⟨hp,k⟩)⟩
    · rw[if_neg h0]
      by_cases h2:FitsP x.2 w x.1
      · rw[if_pos h2]
        by_cases h1:slotOf x.1 l.length=i
        · rw[if_pos h1]
          have hp:SlotP l.length w i x := .inr ⟨h1,h2⟩
          exact ⟨fun h=>ih'.1 h.2,fun h=>ih'.2 (fun k=>h ⟨hp,k⟩)⟩
        · rw[if_neg h1]
          exact ⟨fun h=>absurd (h.1.resolve_left h0).1 h1,fun _=>rfl⟩
      · rw[if_neg h2]
        exact ⟨fun h=>absurd (h.1.resolve_left h0).2 h2,fun _=>rfl⟩
theorem slots_iff {l:List Slo} {w:Int} (h0:1≤l.length):(∀(j:Nat) s,l[j]? = some s→SlotP l.length w (0+j) s)↔(∀(j:Nat) s,l[j]? = some s→s=s0∨(s.1 % (l.length:Int)=j∧FitsP s.2 w s.1)):=by
  constructor
  · intro h j s hs
    rcases h j s hs with e | ⟨e,f⟩
    · exact .inl e
    · rw[slotOf_val f.i0.1 (by omega)] at e
      exact .inr ⟨by omega,f⟩
  · intro h j s hs
    rcases h j s hs with e | ⟨e,f⟩
    · exact .inl e
    · exact .inr ⟨by rw[slotOf_val f.i0.1 (by omega)];omega,f⟩
theorem tier_check (n:Nat) (l:List Slo) (w:Int) (hw:∀s∈l,SloW s):tier_Check (n+7) l w=some (if TierOk l w then 0 else 2):=by
  rw[tier_Check_eq]
  simp only[tfd]
  by_cases h1:(l.length:Int)=0
  · rw[if_pos h1,if_neg (fun k=>by have:=k.l0;omega)]
  by_cases h2:(4096:Int)<l.length
  · rw[if_neg h1,if_pos h2,if_neg (fun k=>by have:=k.l1;omega)]
  by_cases h3:w<1
  · rw[if_neg h1,if_neg h2,if_pos h3,if_neg (fun k=>by have:=k.w0;omega)]
  by_cases h4:(1099511627776:Int)<w
  · rw[if_neg h1,if_neg h2,if_neg h3,if_pos h4,if_neg (fun k=>by have:=k.w1;omega)]
  rw[if_neg h1,if_neg h2,if_neg h3,if_neg h4]
  have hl:=tier_check_l n l w (by omega) hw l [] loopFuel 0 l.length rfl rfl rfl (by unfold loopFuel;omega)
  rw[slots_iff (by omega)] at hl
  by_cases h5:∀(j:Nat) s,l[j]? = some s→s=s0∨(s.1 % (l.length:Int)=j∧FitsP s.2 w s.1)
  · rw[hl.1 h5,if_pos ⟨by omega,by omega,by omega,by omega,h5⟩];rfl
  · rw[hl.2 h5,if_neg (fun k=>h5 k.s)];rfl
theorem r13_check (n:Nat) (l:List Slo) (w:Int) (hw:∀s∈l,SloW s):r13_Check (n+6) l w=some (if TierOk l w then 0 else 2):=by
  rw[r13_Check_eq]
  simp only[tfd]
  by_cases h1:(l.length:Int)<1
  · rw[if_pos h1,if_neg (fun k=>by have:=k.l0;omega)]
  by_cases h2:(4096:Int)<l.length
  · rw[if_neg h1,if_pos h2,if_neg (fun k=>by have:=k.l1;omega)]
  by_cases h3:w<1
  · rw[if_neg h1,if_neg h2,if_pos h3,if_neg (fun k=>by have:=k.w0;omega)]
  by_cases h4:(1099511627776:Int)<w
  · rw[if_neg h1,if_neg h2,if_neg h3,if_pos h4,if_neg (fun k=>by have:=k.w1;omega)]
  rw[if_neg h1,if_neg h2,if_neg h3,if_neg h4]
  have hl:=r13_check_l n l w (by omega) hw l [] loopFuel 0 l.length rfl rfl rfl (by unfold loopFuel;omega)
  rw[slots_iff (by omega)] at hl
  by_cases h5:∀(j:Nat) s,l[j]? = some s→s=s0∨(s.1 % (l.length:Int)=j∧FitsP s.2 w s.1)
  · rw[hl.1 h5,if_pos ⟨by omega,by omega,by omega,by omega,h5⟩];rfl
  · rw[hl.2 h5,if_neg (fun k=>h5 k.s)];rfl
theorem clone_slot (n:Nat) (l:List Slo) (h:l.length≤1000000):sl_Clone_Slot (n+1) l=some l:=by
  rw[sl_Clone_Slot_eq]
  simp only[tfd,if_pos (show (0+l.length)*120≤140737488355328 by omega),List.nil_append]
  by_cases h0:l.length=0
  · obtain rfl:=List.length_eq_zero_iff.1 h0
    simp
  · rw[if_neg h0]
section
variable {del:TSlot×Unit→Option Bool} {p:Slo→Bool} (hd:∀x,del (x,())=some (p x))
include hd
theorem index_l (n:Nat) (l:List Slo) (hL:l.length≤1000000):∀(rest pre:List Slo) (f:Nat) (i len:Int),l=pre++rest→i=pre.length→len=l.length→rest.length<f →
    (sl_IndexFunc_Slot_l2 n f (l,del,len,i,())=some (.inl ())∧∀x∈rest,p x=false) ∨
    (∃A x B,rest=A++x::B∧(∀y∈A,p y=false)∧p x=true∧sl_IndexFunc_Slot_l2 n f (l,del,len,i,())=some (.inr (i+A.length))):=by
  intro rest
  induction rest with
  | nil =>
    intro pre f i len hl hi hn hf
    obtain ⟨f,rfl⟩:∃g,f=g+1:=⟨f-1,by simp at hf;omega⟩
    rw[sl_IndexFunc_Slot_l2_eq]
    exact .inl ⟨by simp only[tfd,if_neg (idxe hl hi hn)],by simp⟩
  | cons x rest ih =>
    intro pre f i len hl hi hn hf
    obtain ⟨f,rfl⟩:∃g,f=g+1:=⟨f-1,by simp at hf;omega⟩
    rw[sl_IndexFunc_Slot_l2_eq]
    simp only[tfd,if_pos (idx hl hi hn),at_mid hl hi,obs,hd,idxw hl hi (by omega)]
    cases hp:p x with
    | true=>exact .inr ⟨[],x,rest,rfl,by simp,hp,by simp⟩
    | false =>
      rw[tff]
      rcases ih (pre++[x]) f (i+1) len (idxl hl) (idxs hi) hn (by simp at hf;omega) with ⟨h1,h2⟩ | ⟨A,y,B,h1,h2,h3,h4⟩
      · exact .inl ⟨h1,by intro z hz;rcases List.mem_cons.1 hz with rfl | hz;exact hp;exact h2 z hz⟩
      · refine .inr ⟨x::A,y,B,by rw[h1];rfl,?_,h3,by rw[h4,List.length_cons,show i+1+(A.length:Int)=i+((A.length+1:Nat):Int) by omega]⟩
        intro z hz
        rcases List.mem_cons.1 hz with rfl | hz
        · exact hp
        · exact h2 z hz
theorem delete_l (n:Nat) (l0:List Slo) (hL:l0.length≤1000000):∀(rest F G:List Slo) (f:Nat) (i j:Int),(F++(G++rest)).length=l0.length→G≠[]→i=F.length→j=F.length+G.length→rest.length<f →
    ∃G',sl_DeleteFunc_Slot_l5 n f (F++(G++rest),del,i,j,())=some (.inl (F++rest.filter (fun x => !p x)++G',(F++rest.filter (fun x => !p x)).length,()))∧(F++rest.filter (fun x => !p x)++G').length=l0.length:=by
  intro rest
  induction rest with
  | nil =>
    intro F G f i j hl hg hi hj hf
    obtain ⟨f,rfl⟩:∃g,f=g+1:=⟨f-1,by simp at hf;omega⟩
    rw[sl_DeleteFunc_Slot_l5_eq]
    have:¬(j<((F++(G++[])).length:Int)):=by simp;omega
    simp only[tfd,if_neg this]
    exact ⟨G,by simp[hi],by simpa using hl⟩
  | cons x rest ih =>
    intro F G f i j hl hg hi hj hf
    obtain ⟨f,rfl⟩:∃g,f=g+1:=⟨f-1,by simp at hf;omega⟩
    rw[sl_DeleteFunc_Slot_l5_eq]
    simp only[List.length_append,List.length_cons] at hl
    have hlt:j<((F++(G++x::rest)).length:Int):=by simp;omega
    have hat:at? (F++(G++x::rest)) j=some x:=at_mid (pre:=F++G) (rest:=rest) (by simp) (by simp;omega)
    have hget:(F++(G++x::rest))[j.toNat]? = some x:=by
      rw[show j.toNat=F.length+G.length by omega,List.getElem?_append_right (by omega),List.getElem?_append_right (by omega)]
      simp
    simp only[tfd,if_pos hlt,hat,hget,obs,hd]
    have wj:IntKind.wrap .i64 (j+1)=j+1:=by rw[w64 (by omega) (by omega)]
    have wi:IntKind.wrap .i64 (i+1)=i+1:=by rw[w64 (by omega) (by omega)]
    rw[wj,wi]
    match G,hg with
    | g::G,_ =>
    cases hp:p x with
    | false =>
      have hat':at? (F++(g::G++x::rest)) i=some g:=at_mid (pre:=F) (rest:=G++x::rest) (by simp) hi
      have hget':(F++(g::G++x::rest))[i.toNat]? = some g:=by
        rw[show i.toNat=F.length by omega];simp
      have hset:(F++(g::G++x::rest)).set i.toNat x=(F++[x])++((G++[x])++rest):=by
        rw[show i.toNat=F.length by omega,List.set_append_right _ _ (by omega)]
        simp
      simp only[Bool.not_false,tft,hat',hget',obs,hset]
      obtain ⟨G',h1,h2⟩:=ih (F++[x]) (G++[x]) f (i+1) (j+1) (by simp at hl ⊢;omega) (by simp) (by simp;omega) (by simp at hj ⊢;omega) (by simp at hf;omega)
      refine ⟨G',?_,?_⟩
      · rw[h1];simp[List.filter_cons,hp]
      · rw[←h2];simp[List.filter_cons,hp]
    | true =>
      simp only[Bool.not_true,tff]
      obtain ⟨G',h1,h2⟩:=ih F (g::G++[x]) f i (j+1) (by simp at hl ⊢;omega) (by simp) hi (by simp at hj ⊢;omega) (by simp at hf;omega)
      simp only[List.append_assoc,List.singleton_append] at h1
      refine ⟨G',?_,?_⟩
      · rw[h1];simp[List.filter_cons,hp]
      · rw[←h2];simp[List.filter_cons,hp]
theorem delete_slot (n:Nat) (l:List Slo) (hL:l.length≤1000000):sl_DeleteFunc_Slot (n+2) l del=some (l.filter fun x => !p x):=by
  rw[sl_DeleteFunc_Slot_eq,sl_IndexFunc_Slot_eq]
  rcases index_l hd n l hL l [] loopFuel 0 l.length rfl rfl rfl (by unfold loopFuel;omega) with ⟨h1,h2⟩ | ⟨A,x,B,h1,h2,h3,h4⟩
  · rw[h1]
    simp only[obs,selim_inl,tfd,if_pos trivial]
    exact congrArg some (List.filter_eq_self.2 fun y hy=>by simp[h2 y hy]).symm
  · rw[h4]
    have hl:l.length=A.length+(B.length+1):=by rw[h1];simp
    simp only[obs,selim_inr,tfd,Int.zero_add]
    rw[if_neg (by omega),w64 (x:=(A.length:Int)+1) (by omega) (by omega)]
    obtain ⟨G',g1,g2⟩:=delete_l hd (n+1) l hL B A [x] loopFuel (A.length:Int) (A.length+1) (by rw[h1];simp) (by simp) rfl (by simp) (by unfold loopFuel;omega)
    rw[show A++([x]++B)=l by rw[h1];simp] at g1
    rw[g1]
    have hF:A++B.filter (fun x => !p x)=l.filter fun x => !p x:=by
      rw[h1,List.filter_append,List.filter_cons]
      have:A.filter (fun x => !p x)=A:=List.filter_eq_self.2 fun y hy=>by simp[h2 y hy]
      simp[h3,this]
    rw[hF] at g2 ⊢
    generalize (l.filter fun x => !p x)=F at *
    simp only[obs,selim_inl,tif_and,tfd,Int.toNat_natCast]
    have hle:F.length≤(F++G').length:=by simp
    have k1:putRow (F++G') F.length (List.replicate ((F++G').length-F.length) s0)=F++List.replicate ((F++G').length-F.length) s0:=by
      unfold putRow
      rw[List.drop_of_length_le (by simp)]
      simp
    have k2:=k1
    simp only[s0,z0,e0] at k2
    rw[k2,if_pos (by omega),if_pos hle,if_pos (by omega),if_pos (by omega),if_pos (by simp;omega)]
    simp
end
theorem compare64 (n:Nat) (x y:Int):cmp_Compare_int64 (n+2) x y=some (if x<y then -1 else if y<x then 1 else 0):=by
  rw[cmp_Compare_int64_eq,cmp_isNaN_int64_eq,cmp_isNaN_int64_eq]
  simp only[decide_true,Bool.not_true,obs,tff,tfd]
  by_cases h1:x<y
  · rw[if_pos h1,if_pos h1]
  · rw[if_neg h1,if_neg h1]
    by_cases h2:y<x
    · rw[if_pos h2,if_pos h2]
    · rw[if_neg h2,if_neg h2]
theorem cmp_slots (n:Nat):Cmp (fun y3=>tier_All_1 (n+3) y3.1 y3.2.1) (fun s=>s.1):=by
  intro x y
  refine ⟨if x.1<y.1 then -1 else if y.1<x.1 then 1 else 0,?_,?_⟩
  · show tier_All_1 (n+3) x y=_
    rw[tier_All_1_eq,compare64];rfl
  · by_cases h1:x.1<y.1
    · simp[h1]
    · by_cases h2:y.1<x.1
      · simp[h1,h2]
      · simp[h1,h2]
theorem pairwise_of_srt {l:List Slo} (h:Srt (fun s=>s.1) l 0 l.length):l.Pairwise fun a b=>a.1≤b.1:=by
  rw[List.pairwise_iff_getElem]
  intro i j hi hj hij
  exact h i j _ _ (by omega) hij hj (List.getElem?_eq_getElem hi) (List.getElem?_eq_getElem hj)
theorem tier_all (n:Nat) {l:List Slo} {w:Int} (h:TierOk l w):tier_All (n+17) l=some (tall l):=by
  have hl:=h.l1
  rw[tier_All_eq,clone_slot _ l (by omega)]
  simp only[obs]
  rw[delete_slot (del:=fun y1=>tier_none (n+16) y1.1) (p:=fun s=>decide (s=s0)) (fun x=>tier_none_val (n+15) x) (n+14) l (by omega)]
  simp only[obs]
  have e:(l.filter fun x => !decide (x=s0))=some13 l:=by unfold some13;congr 1;funext x;simp
  rw[e]
  have hle:(some13 l).length≤l.length:=List.length_filter_le _ _
  obtain ⟨d',r1,r2,r3⟩:=sortStable_ok (cmp_slots (n+13)) n 12 (some13 l) (by omega) (by omega)
  rw[r1]
  rw[←r2.length_eq] at r3
  rw[tall_eq h r2 (pairwise_of_srt r3)]
  rfl
theorem r13_all_l7 (n:Nat) (out:List Slo) (s:Slo) (s8:List Slo) (s9 s10:Int) (hL:out.length≤1000000) (hs:out.Pairwise fun a b=>a.1≤b.1):∀(k f:Nat),k≤out.length→k<f→(∀x∈out.drop k,s.1<x.1) →
    ∃k':Nat,r13_All_l7 n f (out,s,(k:Int),s8,s9,s10,())=some (.inl (out,s,(k':Int),s8,s9,s10,()))∧k'≤out.length∧(∀x∈out.take k',x.1≤s.1)∧(∀x∈out.drop k',s.1<x.1):=by
  intro k
  induction k with
  | zero =>
    intro f hk hf h
    obtain ⟨f,rfl⟩:∃g,f=g+1:=⟨f-1,by omega⟩
    rw[r13_All_l7_eq]
    simp only[tfd,if_neg (show ¬((0:Int)<((0:Nat):Int)) by omega)]
    exact ⟨0,rfl,by omega,by simp,h⟩
  | succ k ih =>
    intro f hk hf h
    obtain ⟨f,rfl⟩:∃g,f=g+1:=⟨f-1,by omega⟩
    rw[r13_All_l7_eq]
    have lk:k<out.length:=by omega
    rw[wn (x:=((k+1:Nat):Int)-1) (k:=k) (by omega) (by omega)]
    simp only[tfd,if_pos (show ((0:Int)<((k+1:Nat):Int)) by omega),at_some lk,Int.toNat_natCast,List.getElem?_eq_getElem lk,obs]
    by_cases hc:s.1<out[k].1
    · rw[if_pos hc]
      refine ih f (by omega) (by omega) (fun x hx => ?_)
      rw[List.drop_eq_getElem_cons lk] at hx
      rcases List.mem_cons.1 hx with rfl | hx
      · exact hc
      · exact h x hx
    · rw[if_neg hc]
      refine ⟨k+1,rfl,hk,fun x hx => ?_,h⟩
      obtain ⟨j,hj,rfl⟩:=List.mem_iff_getElem.1 hx
      have hj':j<k+1:=by simp at hj;omega
      rw[List.getElem_take]
      rcases Nat.lt_or_eq_of_le (Nat.le_of_lt_succ hj') with hjk | rfl
      · have:=List.pairwise_iff_getElem.1 hs j k (by omega) lk hjk
        omega
      · omega
theorem insert_sorted {out:List Slo} {s:Slo} {k:Nat} (hs:out.Pairwise fun a b=>a.1≤b.1) (h1:∀x∈out.take k,x.1≤s.1) (h2:∀x∈out.drop k,s.1<x.1) :
    (out.take k++s::out.drop k).Pairwise fun a b=>a.1≤b.1:=by
  rw[List.pairwise_append]
  refine ⟨hs.sublist (List.take_sublist _ _),List.pairwise_cons.2 ⟨fun x hx=>Int.le_of_lt (h2 x hx),hs.sublist (List.drop_sublist _ _)⟩,fun a ha b hb => ?_⟩
  rcases List.mem_cons.1 hb with rfl | hb
  · exact h1 a ha
  · have:=h1 a ha;have:=h2 b hb;omega
theorem r13_all_l3 (n:Nat) (l:List Slo) (hL:l.length≤1000000):∀(rest pre:List Slo) (f:Nat) (out:List Slo) (i len:Int),l=pre++rest→i=pre.length→len=l.length→rest.length<f→out.Pairwise (fun a b=>a.1≤b.1)→out.Perm (some13 pre) →
    ∃out',r13_All_l3 n f (out,l,len,i,())=some (.inl (out',()))∧out'.Pairwise (fun a b=>a.1≤b.1)∧out'.Perm (some13 l):=by
  intro rest
  induction rest with
  | nil =>
    intro pre f out i len hl hi hn hf hs hp
    obtain ⟨f,rfl⟩:∃g,f=g+1:=⟨f-1,by simp at hf;omega⟩
    rw[r13_All_l3_eq]
    rw[List.append_nil] at hl
    exact ⟨out,by simp only[tfd,if_neg (idxe (pre:=pre) (by rw[hl,List.append_nil]) hi hn)],hs,by rw[hl];exact hp⟩
  | cons x rest ih =>
    intro pre f out i len hl hi hn hf hs hp
    obtain ⟨f,rfl⟩:∃g,f=g+1:=⟨f-1,by simp at hf;omega⟩
    rw[r13_All_l3_eq]
    have hlen:out.length≤l.length:=by
      rw[hp.length_eq,hl]
      have:(some13 pre).length≤pre.length:=List.length_filter_le _ _
      simp;omega
    simp only[tfd,if_pos (idx hl hi hn),at_mid hl hi,obs,sloEq0]
    by_cases h0:x=s0
    · rw[if_pos h0,idxw hl hi (by omega)]
      exact ih (pre++[x]) f out (i+1) len (idxl hl) (idxs hi) hn (by simp at hf;omega) hs (by simpa [some13,List.filter_append,h0] using hp)
    · rw[if_neg h0]
      obtain ⟨k,r1,r2,r3,r4⟩:=r13_all_l7 n out x l len i (by omega) hs out.length loopFuel (Nat.le_refl _) (by unfold loopFuel;omega) (by simp)
      rw[r1]
      have t1:(List.take ((k:Int).toNat-0) (List.drop 0 out))=out.take k:=by simp
      have t2:(List.take (out.length-(k:Int).toNat) (List.drop (k:Int).toNat out))=out.drop k:=by
        rw[Int.toNat_natCast,List.take_of_length_le (by simp)]
      simp only[obs,selim_inl,tif_and,tfd]
      rw[t1,t2,List.nil_append]
      have l1:(out.take k).length=k:=by simp;omega
      rw[if_pos (by omega),if_pos (by omega),if_pos (by rw[l1];omega),if_pos (by rw[l1];omega),if_pos (by omega),if_pos (by simp;omega),if_pos (by simp;omega),idxw hl hi (by omega)]
      have e:out.take k++[x]++out.drop k=out.take k++x::out.drop k:=by simp
      rw[e]
      refine ih (pre++[x]) f _ (i+1) len (idxl hl) (idxs hi) hn (by simp at hf;omega) (insert_sorted hs r3 r4) ?_
      have e2:some13 (pre++[x])=some13 pre++[x]:=by simp[some13,List.filter_append,h0]
      rw[e2]
      refine (List.perm_middle).trans ?_
      rw[List.take_append_drop]
      exact ((List.Perm.cons x hp)).trans (List.perm_append_comm (l₁:=[x]))
theorem r13_all (n:Nat) {l:List Slo} {w:Int} (h:TierOk l w):r13_All (n+1) l=some (tall l):=by
  have hl:=h.l1
  rw[r13_All_eq]
  obtain ⟨out,r1,r2,r3⟩:=r13_all_l3 n l (by omega) l [] loopFuel [] 0 l.length rfl rfl rfl (by unfold loopFuel;omega) .nil (by simp[some13])
  rw[r1]
  simp only[obs,selim_inl]
  rw[tall_eq h r3 r2]
theorem ev_wf {e:Ev} (h:Wf tyEvent e):EvW e:=by
  obtain ⟨h1,h2,h3,_⟩:=h
  exact ⟨h1,h2,h3⟩
theorem cel_wf {c:Cel} (h:Wf tyCell c):CelW c:=by
  obtain ⟨h1,h2,h3,⟨h4,h5⟩,h6,h7,h8⟩:=h
  exact ⟨h1,ev_wf h2,ev_wf h3,⟨h4,h5⟩,h6,h7,h8⟩
theorem slo_wf {s:Slo} (h:Wf tySlot s):SloW s:=by
  obtain ⟨h1,h2⟩:=h
  exact ⟨h1,cel_wf h2⟩
theorem slos_wf {l:List Slo} (h:Wf (.slice tySlot) l):∀s∈l,SloW s:=fun s hs=>slo_wf (h.2 s hs)
theorem tier_get (n:Nat) {l:List Slo} (h0:1≤l.length) (i:Int):tier_Get (n+2) l i=some (tget l i):=by
  rw[tier_Get_eq]
  simp only[tfd]
  unfold tget
  by_cases h1:i<0
  · rw[if_pos h1,if_pos h1];rfl
  rw[if_neg h1,if_neg h1,if_neg (by omega),wi_slot,slotOf_val (by omega) (by omega)]
  have hm:=Int.emod_nonneg i (show (l.length:Int)≠0 by omega)
  have hm':=Int.emod_lt_of_pos i (show (0:Int)<l.length by omega)
  have e:at? l (i % (l.length:Int))=l[(i % (l.length:Int)).toNat]? := by
    obtain ⟨k,hk⟩:=Int.eq_ofNat_of_zero_le hm
    rw[hk];exact at_nat l k
  have hlt:(i % (l.length:Int)).toNat<l.length:=by omega
  simp only[obs,e,List.getElem?_eq_getElem hlt]
  by_cases h2:l[(i % (l.length:Int)).toNat].1=i
  · rw[if_pos h2,if_pos h2]
  · rw[if_neg h2,if_neg h2];rfl
theorem r13_get (n:Nat) {l:List Slo} (h0:1≤l.length) (i:Int):r13_Get (n+2) l i=some (tget l i):=by
  rw[r13_Get_eq]
  simp only[tfd,tfn]
  unfold tget
  by_cases h1:i<0
  · rw[if_pos h1,if_pos h1];rfl
  rw[if_neg h1,if_neg h1,if_neg (by omega),r09_slot,slotOf_val (by omega) (by omega)]
  have hm:=Int.emod_nonneg i (show (l.length:Int)≠0 by omega)
  have hm':=Int.emod_lt_of_pos i (show (0:Int)<l.length by omega)
  have e:at? l (i % (l.length:Int))=l[(i % (l.length:Int)).toNat]? := by
    obtain ⟨k,hk⟩:=Int.eq_ofNat_of_zero_le hm
    rw[hk];exact at_nat l k
  have hlt:(i % (l.length:Int)).toNat<l.length:=by omega
  simp only[obs,e,List.getElem?_eq_getElem hlt]
  by_cases h2:l[(i % (l.length:Int)).toNat].1=i
  · rw[if_pos h2,if_pos h2]
  · rw[if_neg h2,if_neg h2];rfl
def inW (i k:Int) (s:Slo):Bool:=decide (i≤s.1∧s.1<k)
theorem tier_fold_l (n:Nat) (i k:Int) (s6:Cel) (l:List Slo) (hL:l.length≤1000000):∀(rest pre:List Slo) (f:Nat) (cells:List Cel) (ix len:Int),l=pre++rest→ix=pre.length→len=l.length→rest.length<f→cells.length≤pre.length →
    tier_Fold_l5 n f (i,k,s6,cells,l,len,ix,())=some (.inl (s6,cells++(rest.filter (inW i k)).map (·.2),())):=by
  intro rest
  induction rest with
  | nil =>
    intro pre f cells ix len hl hi hn hf hc
    obtain ⟨f,rfl⟩:∃g,f=g+1:=⟨f-1,by simp at hf;omega⟩
    rw[tier_Fold_l5_eq]
    simp only[tfd,if_neg (idxe hl hi hn),List.filter_nil,List.map_nil,List.append_nil]
  | cons x rest ih =>
    intro pre f cells ix len hl hi hn hf hc
    obtain ⟨f,rfl⟩:∃g,f=g+1:=⟨f-1,by simp at hf;omega⟩
    rw[tier_Fold_l5_eq]
    have hp:pre.length+1≤l.length:=by have:=congrArg List.length hl;simp at this;omega
    simp only[tfd,if_pos (idx hl hi hn),at_mid hl hi,obs,idxw hl hi (by omega)]
    by_cases h1:i≤x.1
    · rw[if_pos h1]
      by_cases h2:x.1<k
      · rw[if_pos h2,if_pos (by omega),ih (pre++[x]) f _ (ix+1) len (idxl hl) (idxs hi) hn (by simp at hf;omega) (by simp;omega)]
        have:inW i k x=true:=by simp[inW,h1,h2]
        rw[List.filter_cons_of_pos this]
        simp
      · rw[if_neg h2,ih (pre++[x]) f _ (ix+1) len (idxl hl) (idxs hi) hn (by simp at hf;omega) (by simp;omega)]
        rw[List.filter_cons_of_neg (by simp[inW,h2])]
    · rw[if_neg h1,ih (pre++[x]) f _ (ix+1) len (idxl hl) (idxs hi) hn (by simp at hf;omega) (by simp;omega)]
      rw[List.filter_cons_of_neg (by simp[inW,h1])]
theorem within_w {l:List Slo} {w:Int} (h:TierOk l w) (i k:Int):∀c∈within l i k,CellN c:=by
  intro c hc
  simp only[within,List.mem_map,List.mem_filter] at hc
  obtain ⟨s,⟨hs,_⟩,rfl⟩:=hc
  exact (tall_fits h hs).1.n
theorem tall_len {l:List Slo}:(tall l).length≤l.length:=by
  rw[(tall_perm l).length_eq];exact List.length_filter_le _ _
theorem within_len (l:List Slo) (i k:Int):(within l i k).length≤l.length:=by
  unfold within
  rw[List.length_map]
  exact Nat.le_trans (List.length_filter_le _ _) tall_len
theorem tier_fold (n:Nat) {l:List Slo} {w:Int} (h:TierOk l w) (i k:Int):tier_Fold (n+18) l i k=some (tfold l i k):=by
  have l1:=h.l1
  have ht:=tall_len (l:=l)
  rw[tier_Fold_eq]
  simp only[tfd]
  unfold tfold
  by_cases h1:i<0
  · rw[if_pos h1,if_pos (.inl h1)];rfl
  by_cases h2:k<i
  · rw[if_neg h1,if_pos h2,if_pos (.inr h2)];rfl
  rw[if_neg h1,if_neg h2,if_neg (by omega),tier_all n h]
  simp only[obs]
  rw[tier_fold_l (n+17) i k _ (tall l) (by omega) (tall l) [] loopFuel [] 0 _ rfl rfl rfl (by unfold loopFuel;omega) (by simp)]
  simp only[obs,selim_inl,List.nil_append]
  have e:List.map (·.2) (List.filter (inW i k) (tall l))=within l i k:=rfl
  rw[e,cell_all (n+10) _ (by have:=within_len l i k;omega) (fun c hc => .ofN (within_w h i k c hc))]
  rfl
theorem r13_fold_l (n:Nat) (i k:Int) (s6:Cel) (l0:List Slo) (hl0:1≤l0.length) (l:List Slo) (hL:l.length≤1000000) (hg:∀s∈l,tget l0 s.1=s.2):∀(rest pre:List Slo) (f:Nat) (cells:List Cel) (ix len:Int),l=pre++rest→ix=pre.length→len=l.length→rest.length<f→cells.length≤pre.length →
    r13_Fold_l5 (n+2) f (l0,i,k,s6,cells,l,len,ix,())=some (.inl (s6,cells++(rest.filter (inW i k)).map (·.2),())):=by
  intro rest
  induction rest with
  | nil =>
    intro pre f cells ix len hl hi hn hf hc
    obtain ⟨f,rfl⟩:∃g,f=g+1:=⟨f-1,by simp at hf;omega⟩
    rw[r13_Fold_l5_eq]
    simp only[tfd,if_neg (idxe hl hi hn),List.filter_nil,List.map_nil,List.append_nil]
  | cons x rest ih =>
    intro pre f cells ix len hl hi hn hf hc
    obtain ⟨f,rfl⟩:∃g,f=g+1:=⟨f-1,by simp at hf;omega⟩
    rw[r13_Fold_l5_eq]
    have hp:pre.length+1≤l.length:=by have:=congrArg List.length hl;simp at this;omega
    have hx:=hg x (by rw[hl];simp)
    simp only[tfd,if_pos (idx hl hi hn),at_mid hl hi,obs,idxw hl hi (by omega),r13_get n hl0,hx,celEq]
    by_cases h1:i≤x.1
    · rw[if_pos h1]
      by_cases h2:x.1<k
      · rw[if_pos h2,if_pos trivial,if_pos (by omega),ih (pre++[x]) f _ (ix+1) len (idxl hl) (idxs hi) hn (by simp at hf;omega) (by simp;omega)]
        have:inW i k x=true:=by simp[inW,h1,h2]
        rw[List.filter_cons_of_pos this]
        simp
      · rw[if_neg h2,ih (pre++[x]) f _ (ix+1) len (idxl hl) (idxs hi) hn (by simp at hf;omega) (by simp;omega)]
        rw[List.filter_cons_of_neg (by simp[inW,h2])]
    · rw[if_neg h1,ih (pre++[x]) f _ (ix+1) len (idxl hl) (idxs hi) hn (by simp at hf;omega) (by simp;omega)]
      rw[List.filter_cons_of_neg (by simp[inW,h1])]
theorem r13_fold (n:Nat) {l:List Slo} {w:Int} (h:TierOk l w) (i k:Int):r13_Fold (n+7) l i k=some (tfold l i k):=by
  have l1:=h.l1
  have ht:=tall_len (l:=l)
  rw[r13_Fold_eq]
  simp only[tfd]
  unfold tfold
  by_cases h1:i<0
  · rw[if_pos h1,if_pos (.inl h1)];rfl
  by_cases h2:k<i
  · rw[if_neg h1,if_pos h2,if_pos (.inr h2)];rfl
  rw[if_neg h1,if_neg h2,if_neg (by omega),r13_all _ h]
  simp only[obs]
  rw[r13_fold_l (n+4) i k _ l h.l0 (tall l) (by omega) (fun s hs=>tget_mem h hs) (tall l) [] loopFuel [] 0 _ rfl rfl rfl (by unfold loopFuel;omega) (by simp)]
  simp only[obs,selim_inl,List.nil_append]
  have e:List.map (·.2) (List.filter (inW i k) (tall l))=within l i k:=rfl
  rw[e,r08_all n _ (by have:=within_len l i k;omega) (fun c hc => .ofN (within_w h i k c hc))]
  rfl
theorem slow_s0:SloW s0:=⟨by simp[I64,s0],celW_z0⟩
theorem tierOk_w {l:List Slo} {w:Int} (h:TierOk l w):∀s∈l,SloW s:=by
  intro s hs
  obtain ⟨j,hj⟩:=List.getElem?_of_mem hs
  rcases h.s j s hj with rfl | ⟨_,hf⟩
  · exact slow_s0
  · have:=hf.i0
    exact ⟨by unfold I64;omega,.ofN hf.n⟩
theorem quo_ev {e:Ev} (h:EvOk e) {w:Int} (hw:1≤w):IntKind.wrap .i64 (Int.tdiv e.1 w)=e.1 / w:=by
  have h0:=h.t0;have h1:=h.t1
  have:0≤e.1 / w:=Int.ediv_nonneg h0 (by omega)
  have:e.1 / w≤e.1:=Int.ediv_le_self _ h0
  rw[tdiv_nn h0,w64 (by omega) (by omega)]
end Go.Proofs.YtefpnjjbopdplaaGreatDoor

namespace Go.Plim
set_option linter.unusedVariables false
def rng (w:Int) (l:List Ev) (i k:Int):List Ev:=l.filter fun e=>decide (i≤e.1 / w∧e.1 / w<k)
def win (w:Int) (l:List Ev) (i:Int):List Ev:=l.filter fun e=>decide (e.1 / w=i)
theorem tall_N {l:List Slo} {w:Int} (h:TierOk l w) {s:Slo} (hs:s∈tall l):CellN s.2:=(tall_fits h hs).1.n
structure TierInv (t:List Slo) (w:Int) (l:List Ev):Prop where
  ok:TierOk t w
  cells:∀s∈tall t,s.2=cellOf (win w l s.1)
  kept:∀i,(∃e∈l,e.1 / w=i)→(∀e∈l,e.1 / w<i+(t.length:Int))→(i,cellOf (win w l i))∈tall t
end Go.Plim

namespace Go.Proofs.YtefpnjjbopdplaaGreatDoor
open Go.Flat
abbrev Conf:=Int×((Int×(Int×Int))×((Int×(Int×Int))×(Int×Int)))
def prt (n e:Int):Int:=(n+e-1) / e
def plc (c:Conf):Int:=1+prt c.1 16+prt c.2.2.1.1 4+prt c.2.2.1.2.1 4+prt c.2.2.1.2.2 4
structure Rng (c:Conf):Prop where
  raw:1≤c.1∧c.1≤4096
  cap:1≤c.2.2.2.1∧c.2.2.2.1≤65536
  log:1≤c.2.2.2.2∧c.2.2.2.2≤8192
  w0:1≤c.2.1.1∧c.2.1.1≤1099511627776
  w1:1≤c.2.1.2.1∧c.2.1.2.1≤1099511627776
  w2:1≤c.2.1.2.2∧c.2.1.2.2≤1099511627776
  n0:1≤c.2.2.1.1∧c.2.2.1.1≤4096
  n1:1≤c.2.2.1.2.1∧c.2.2.1.2.1≤4096
  n2:1≤c.2.2.1.2.2∧c.2.2.1.2.2≤4096
structure OkC (c:Conf):Prop where
  rng:Rng c
  m1:c.2.1.2.1 % c.2.1.1=0
  d1:c.2.1.2.1 / c.2.1.1≤c.2.2.1.1
  m2:c.2.1.2.2 % c.2.1.2.1=0
  d2:c.2.1.2.2 / c.2.1.2.1≤c.2.2.1.2.1
  pl:plc c<c.2.2.2.2
theorem parts_val (n:Nat) (x e:Int) (he:1≤e) (he':e≤1000) (hx:0≤x) (hx':x≤1000000000):conf_parts (n+1) x e=some (prt x e):=by
  rw[conf_parts_eq]
  have h1:¬(e=0):=by omega
  simp only[tfd,if_neg h1]
  rw[w64 (x:=x+e) (by omega) (by omega),w64 (x:=x+e-1) (by omega) (by omega),tdiv_nn (by omega)]
  have h2:0≤(x+e-1) / e:=Int.ediv_nonneg (by omega) (by omega)
  have h3:(x+e-1) / e≤x+e-1:=Int.ediv_le_self _ (by omega)
  rw[w64 (by omega) (by omega)]
  rfl
theorem prt_step (x e:Int) (he:1≤e):prt x e=1+prt (x-e) e:=by
  unfold prt
  rw[show x+e-1=(x-e+e-1)+1*e by omega,Int.add_mul_ediv_right _ _ (by omega)]
  omega
theorem prt_zero (x e:Int) (h1 : -e<x) (hx:x≤0):prt x e=0:=Int.ediv_eq_zero_of_lt (by omega) (by omega)
theorem r10_parts_loop (n:Nat) (e:Int) (he:1≤e) (he':e≤1000):∀(m f:Nat) (x k:Int),x≤m → -e<x→m<f→0≤k→k+m≤1000000000→m≤1000000000→r10_parts_l2 n f (x,e,k,())=some (.inl (k+prt x e,())):=by
  intro m
  induction m with
  | zero =>
    intro f x k hx hx' hf hk hkm hm
    obtain ⟨f,rfl⟩:∃g,f=g+1:=⟨f-1,by omega⟩
    rw[r10_parts_l2_eq]
    have h1:¬((0:Int)<x):=by omega
    simp only[tfd,if_neg h1]
    rw[prt_zero x e hx' (by omega),Int.add_zero]
  | succ m ih =>
    intro f x k hx hx' hf hk hkm hm
    obtain ⟨f,rfl⟩:∃g,f=g+1:=⟨f-1,by omega⟩
    rw[r10_parts_l2_eq]
    by_cases h1:(0:Int)<x
    · simp only[tfd,if_pos h1]
      rw[w64 (x:=x-e) (by omega) (by omega),w64 (x:=k+1) (by omega) (by omega),ih f (x-e) (k+1) (by omega) (by omega) (by omega) (by omega) (by omega) (by omega),prt_step x e he]
      congr 3
      omega
    · simp only[tfd,if_neg h1]
      rw[prt_zero x e hx' (by omega),Int.add_zero]
theorem r10_parts_val (n:Nat) (x e:Int) (he:1≤e) (he':e≤1000) (hx:0≤x) (hx':x≤100000000):r10_parts (n+1) x e=some (prt x e):=by
  rw[r10_parts_eq,r10_parts_loop n e he he' x.toNat loopFuel x 0 (by omega) (by omega) (by unfold loopFuel;omega) (by omega) (by omega) (by omega)]
  simp
theorem prt_range {x e:Int} (he:1≤e) (hx:0≤x):0≤prt x e∧prt x e≤x:=by
  unfold prt
  refine ⟨Int.ediv_nonneg (by omega) (by omega),?_⟩
  have:x+e-1<(x+1)*e:=by
    have:=Int.mul_le_mul_of_nonneg_left he (show 0≤x by omega)
    rw[Int.add_mul];omega
  have:=Int.ediv_lt_of_lt_mul (by omega) this
  omega
theorem plc_range {c:Conf} (h:Rng c):1≤plc c∧plc c≤20000:=by
  have a:=prt_range (x:=c.1) (e:=16) (by omega) (by have:=h.raw;omega)
  have b:=prt_range (x:=c.2.2.1.1) (e:=4) (by omega) (by have:=h.n0;omega)
  have d:=prt_range (x:=c.2.2.1.2.1) (e:=4) (by omega) (by have:=h.n1;omega)
  have f:=prt_range (x:=c.2.2.1.2.2) (e:=4) (by omega) (by have:=h.n2;omega)
  have:=h.raw;have:=h.n0;have:=h.n1;have:=h.n2
  unfold plc
  omega
theorem place_val (n:Nat) {c:Conf} (h:Rng c):conf_place (n+2) c=some (plc c):=by
  have h0:=h.raw;have h1:=h.n0;have h2:=h.n1;have h3:=h.n2
  rw[conf_place_eq,parts_val n _ 16 (by omega) (by omega) (by omega) (by omega),parts_val n _ 4 (by omega) (by omega) (by omega) (by omega),parts_val n _ 4 (by omega) (by omega) (by omega) (by omega),parts_val n _ 4 (by omega) (by omega) (by omega) (by omega)]
  simp only[obs]
  have a:=prt_range (x:=c.1) (e:=16) (by omega) (by omega)
  have b:=prt_range (x:=c.2.2.1.1) (e:=4) (by omega) (by omega)
  have d:=prt_range (x:=c.2.2.1.2.1) (e:=4) (by omega) (by omega)
  have f:=prt_range (x:=c.2.2.1.2.2) (e:=4) (by omega) (by omega)
  rw[w64 (x:=1+_) (by omega) (by omega),w64 (x:=1+_+_) (by omega) (by omega),w64 (x:=1+_+_+_) (by omega) (by omega),w64 (by omega) (by omega)]
  rfl
theorem r10_place_val (n:Nat) {c:Conf} (h:Rng c):r10_place (n+2) c=some (plc c):=by
  have h0:=h.raw;have h1:=h.n0;have h2:=h.n1;have h3:=h.n2
  rw[r10_place_eq,r10_parts_val n _ 16 (by omega) (by omega) (by omega) (by omega),r10_parts_val n _ 4 (by omega) (by omega) (by omega) (by omega),r10_parts_val n _ 4 (by omega) (by omega) (by omega) (by omega),r10_parts_val n _ 4 (by omega) (by omega) (by omega) (by omega)]
  simp only[obs]
  have a:=prt_range (x:=c.1) (e:=16) (by omega) (by omega)
  have b:=prt_range (x:=c.2.2.1.1) (e:=4) (by omega) (by omega)
  have d:=prt_range (x:=c.2.2.1.2.1) (e:=4) (by omega) (by omega)
  have f:=prt_range (x:=c.2.2.1.2.2) (e:=4) (by omega) (by omega)
  rw[w64 (x:=1+_) (by omega) (by omega),w64 (x:=1+_+_) (by omega) (by omega),w64 (x:=1+_+_+_) (by omega) (by omega),w64 (by omega) (by omega)]
  rfl
theorem in_int (n:Nat) (x a b:Int):conf_in_int (n+1) x a b=some (decide (a≤x∧x≤b)):=by
  rw[conf_in_int_eq]
  by_cases h1:a≤x<;>by_cases h2:x≤b<;>simp[h1,h2]
theorem in_int64 (n:Nat) (x a b:Int):conf_in_int64 (n+1) x a b=some (decide (a≤x∧x≤b)):=by
  rw[conf_in_int64_eq]
  by_cases h1:a≤x<;>by_cases h2:x≤b<;>simp[h1,h2]
theorem quo_w {a b:Int} (ha:1≤a∧a≤1099511627776) (hb:1≤b):IntKind.wrap .i64 (Int.tdiv a b)=a / b:=by
  rw[tdiv_nn (by omega)]
  have h2:0≤a / b:=Int.ediv_nonneg (by omega) (by omega)
  have h3:a / b≤a:=Int.ediv_le_self _ (by omega)
  rw[w64 (by omega) (by omega)]
theorem check_ok (n:Nat) {c:Conf} (h:OkC c):conf_Check (n+3) c=some 0:=by
  obtain ⟨hr,m1,d1,m2,d2,pl⟩:=h
  have hp:=place_val n hr
  obtain ⟨raw,cap,log,w0,w1,w2,n0,n1,n2⟩:=hr
  rw[conf_Check_eq]
  simp only[in_int,in_int64,obs,tfd,if_pos raw,if_pos cap,if_pos log,if_pos w0,if_pos w1,if_pos w2,if_pos n0,if_pos n1,if_pos n2]
  have z0:¬(c.2.1.1=0):=by omega
  have z1:¬(c.2.1.2.1=0):=by omega
  rw[quo_w w1 w0.1,quo_w w2 w1.1,tmod_nn (a:=c.2.1.2.1) (by omega),tmod_nn (a:=c.2.1.2.2) (by omega)]
  have l:¬(c.2.2.2.2≤plc c):=by omega
  simp only[if_neg z0,if_neg z1,if_pos m1,if_pos d1,if_pos m2,if_pos d2,tfn,tfd,hp,obs,if_neg l]
theorem check_no (n:Nat) {c:Conf} (h:¬OkC c):conf_Check (n+3) c=some 2:=by
  rw[conf_Check_eq]
  simp only[in_int,in_int64,obs,tfd,tfn]
  by_cases raw:1≤c.1∧c.1≤4096
  case neg=>rw[if_neg raw]
  rw[if_pos raw]
  by_cases cap:1≤c.2.2.2.1∧c.2.2.2.1≤65536
  case neg=>rw[if_neg cap]
  rw[if_pos cap]
  by_cases log:1≤c.2.2.2.2∧c.2.2.2.2≤8192
  case neg=>rw[if_neg log]
  rw[if_pos log]
  by_cases w0:1≤c.2.1.1∧c.2.1.1≤1099511627776
  case neg=>rw[if_neg w0]
  rw[if_pos w0]
  by_cases n0:1≤c.2.2.1.1∧c.2.2.1.1≤4096
  case neg=>rw[if_neg n0]
  rw[if_pos n0]
  by_cases w1:1≤c.2.1.2.1∧c.2.1.2.1≤1099511627776
  case neg=>rw[if_neg w1]
  rw[if_pos w1]
  by_cases n1:1≤c.2.2.1.2.1∧c.2.2.1.2.1≤4096
  case neg=>rw[if_neg n1]
  rw[if_pos n1]
  by_cases w2:1≤c.2.1.2.2∧c.2.1.2.2≤1099511627776
  case neg=>rw[if_neg w2]
  rw[if_pos w2]
  by_cases n2:1≤c.2.2.1.2.2∧c.2.2.1.2.2≤4096
  case neg=>rw[if_neg n2,if_neg n2]
  rw[if_pos n2]
  have hr:Rng c:=⟨raw,cap,log,w0,w1,w2,n0,n1,n2⟩
  have hp:=place_val n hr
  have z0:¬(c.2.1.1=0):=by omega
  have z1:¬(c.2.1.2.1=0):=by omega
  rw[quo_w w1 w0.1,quo_w w2 w1.1,tmod_nn (a:=c.2.1.2.1) (by omega),tmod_nn (a:=c.2.1.2.2) (by omega)]
  rw[if_neg z0,if_neg z0]
  by_cases m1:c.2.1.2.1 % c.2.1.1=0
  case neg=>rw[if_neg m1]
  rw[if_pos m1]
  by_cases d1:c.2.1.2.1 / c.2.1.1≤c.2.2.1.1
  case neg=>rw[if_neg d1,if_neg d1]
  rw[if_pos d1,if_neg z1,if_neg z1]
  by_cases m2:c.2.1.2.2 % c.2.1.2.1=0
  case neg=>rw[if_neg m2]
  rw[if_pos m2]
  by_cases d2:c.2.1.2.2 / c.2.1.2.1≤c.2.2.1.2.1
  case neg=>rw[if_neg d2,if_neg d2]
  rw[if_pos d2,if_pos d2,hp]
  simp only[obs]
  by_cases pl:c.2.2.2.2≤plc c
  · rw[if_pos pl]
  · exact absurd ⟨hr,m1,d1,m2,d2,by omega⟩ h
theorem r10_check_ok (n:Nat) {c:Conf} (h:OkC c):r10_Check (n+3) c=some 0:=by
  obtain ⟨hr,m1,d1,m2,d2,pl⟩:=h
  have hp:=r10_place_val n hr
  obtain ⟨raw,cap,log,w0,w1,w2,n0,n1,n2⟩:=hr
  rw[r10_Check_eq]
  rw[quo_w w1 w0.1,quo_w w2 w1.1,tmod_nn (a:=c.2.1.2.1) (by omega),tmod_nn (a:=c.2.1.2.2) (by omega)]
  have l:¬(c.2.2.2.2≤plc c):=by omega
  simp only[tfd,tfn,hp,obs]
  rw[if_neg (by omega),if_neg (by omega),if_neg (by omega),if_neg (by omega),if_neg (by omega),if_neg (by omega),if_neg (by omega),if_neg (by omega),if_neg (by omega),if_neg (by omega),if_neg (by omega),if_neg (by omega),if_neg (by omega),if_neg (by omega),if_neg (by omega)]
  rw[if_pos m1,if_neg (by omega),if_neg (by omega),if_neg (by omega),if_neg (by omega),if_neg (by omega),if_neg (by omega),if_neg (by omega)]
  rw[if_pos m2,if_neg (by omega),if_neg (by omega),if_neg l]
theorem r10_check_no (n:Nat) {c:Conf} (h:¬OkC c):r10_Check (n+3) c=some 2:=by
  rw[r10_Check_eq]
  simp only[tfd,tfn]
  by_cases raw:1≤c.1∧c.1≤4096
  case neg =>
    by_cases z:c.1<1
    · rw[if_pos z]
    · rw[if_neg z,if_pos (by omega)]
  rw[if_neg (by omega),if_neg (by omega)]
  by_cases cap:1≤c.2.2.2.1∧c.2.2.2.1≤65536
  case neg =>
    by_cases z:c.2.2.2.1<1
    · rw[if_pos z]
    · rw[if_neg z,if_pos (by omega)]
  rw[if_neg (by omega),if_neg (by omega)]
  by_cases log:1≤c.2.2.2.2∧c.2.2.2.2≤8192
  case neg =>
    by_cases z:c.2.2.2.2<1
    · rw[if_pos z]
    · rw[if_neg z,if_pos (by omega)]
  rw[if_neg (by omega),if_neg (by omega)]
  by_cases w0:1≤c.2.1.1∧c.2.1.1≤1099511627776
  case neg =>
    by_cases z:c.2.1.1<1
    · rw[if_pos z]
    · rw[if_neg z,if_pos (by omega)]
  rw[if_neg (by omega),if_neg (by omega)]
  by_cases n0:1≤c.2.2.1.1∧c.2.2.1.1≤4096
  case neg =>
    by_cases z:c.2.2.1.1<1
    · rw[if_pos z]
    · rw[if_neg z,if_pos (by omega)]
  rw[if_neg (by omega),if_neg (by omega)]
  by_cases w1:1≤c.2.1.2.1∧c.2.1.2.1≤1099511627776
  case neg =>
    by_cases z:c.2.1.2.1<1
    · rw[if_pos z]
    · rw[if_neg z,if_pos (by omega)]
  rw[if_neg (by omega),if_neg (by omega)]
  by_cases n1:1≤c.2.2.1.2.1∧c.2.2.1.2.1≤4096
  case neg =>
    by_cases z:c.2.2.1.2.1<1
    · rw[if_pos z]
    · rw[if_neg z,if_pos (by omega)]
  rw[if_neg (by omega),if_neg (by omega),if_neg (by omega)]
  rw[tmod_nn (a:=c.2.1.2.1) (by omega),quo_w w1 w0.1]
  by_cases m1:c.2.1.2.1 % c.2.1.1=0
  case neg=>rw[if_neg m1]
  rw[if_pos m1,if_neg (by omega)]
  by_cases d1:c.2.1.2.1 / c.2.1.1≤c.2.2.1.1
  case neg=>rw[if_pos (by omega)]
  rw[if_neg (by omega)]
  by_cases w2:1≤c.2.1.2.2∧c.2.1.2.2≤1099511627776
  case neg =>
    by_cases z:c.2.1.2.2<1
    · rw[if_pos z]
    · rw[if_neg z,if_pos (by omega)]
  rw[if_neg (by omega),if_neg (by omega)]
  by_cases n2:1≤c.2.2.1.2.2∧c.2.2.1.2.2≤4096
  case neg =>
    by_cases z:c.2.2.1.2.2<1
    · rw[if_pos z]
    · rw[if_neg z,if_pos (by omega)]
  rw[if_neg (by omega),if_neg (by omega),if_neg (by omega)]
  rw[tmod_nn (a:=c.2.1.2.2) (by omega),quo_w w2 w1.1]
  by_cases m2:c.2.1.2.2 % c.2.1.2.1=0
  case neg=>rw[if_neg m2]
  rw[if_pos m2,if_neg (by omega)]
  by_cases d2:c.2.1.2.2 / c.2.1.2.1≤c.2.2.1.2.1
  case neg=>rw[if_pos (by omega)]
  rw[if_neg (by omega)]
  have hr:Rng c:=⟨raw,cap,log,w0,w1,w2,n0,n1,n2⟩
  rw[r10_place_val n hr]
  simp only[obs]
  by_cases pl:c.2.2.2.2≤plc c
  · rw[if_pos pl]
  · exact absurd ⟨hr,m1,d1,m2,d2,by omega⟩ h
end Go.Proofs.YtefpnjjbopdplaaGreatDoor
namespace Go.Proofs.YtefpnjjbopdplaaGreatDoor
open Go.Flat Go.Plim
set_option linter.unusedVariables false
abbrev Trs:=List Slo×(List Slo×List Slo)
noncomputable instance (c:Conf):Decidable (OkC c):=Classical.propDecidable _
structure FoldOk (c:Conf) (s:Trs):Prop where
  cok:OkC c
  n0:(s.1.length:Int)=c.2.2.1.1
  n1:(s.2.1.length:Int)=c.2.2.1.2.1
  n2:(s.2.2.length:Int)=c.2.2.1.2.2
  t0:TierOk s.1 c.2.1.1
  t1:TierOk s.2.1 c.2.1.2.1
  t2:TierOk s.2.2 c.2.1.2.2
noncomputable instance (c:Conf) (s:Trs):Decidable (FoldOk c s):=Classical.propDecidable _
def mk1 (c:Conf) (s:Trs) (i:Int):Cel×Int:=tfold s.1 (i*(c.2.1.2.1 / c.2.1.1)) ((i+1)*(c.2.1.2.1 / c.2.1.1))
theorem mul_div_le {a w m:Int} (hw:1≤w) (h:a≤m / w):a*w≤m :=
  Int.le_trans (Int.mul_le_mul_of_nonneg_right h (by omega)) (Int.ediv_mul_le m (by omega))
def Begins (w i:Int):Prop:=0≤i∧i≤35184372088831 / w
theorem Begins.mul {w i:Int} (hw:1≤w) (h:Begins w i):0≤i*w∧i*w≤35184372088831:=⟨Int.mul_nonneg h.1 (by omega),mul_div_le hw h.2⟩
end Go.Proofs.YtefpnjjbopdplaaGreatDoor
namespace Go.Proofs.YtefpnjjbopdplaaGreatDoor
open Go.Flat Go.Plim
set_option linter.unusedVariables false
set_option linter.unusedSimpArgs false
structure TrsW (s:Trs):Prop where
  a:∀x∈s.1,SloW x
  b:∀x∈s.2.1,SloW x
  c:∀x∈s.2.2,SloW x
theorem FoldOk.w {c:Conf} {s:Trs} (h:FoldOk c s):TrsW s:=⟨tierOk_w h.t0,tierOk_w h.t1,tierOk_w h.t2⟩
theorem conf_check (n:Nat) (c:Conf):conf_Check (n+3) c=some (if OkC c then 0 else 2):=by
  by_cases h:OkC c
  · rw[if_pos h,check_ok n h]
  · rw[if_neg h,check_no n h]
theorem r10_check (n:Nat) (c:Conf):r10_Check (n+3) c=some (if OkC c then 0 else 2):=by
  by_cases h:OkC c
  · rw[if_pos h,r10_check_ok n h]
  · rw[if_neg h,r10_check_no n h]
theorem fold_open_val (n:Nat) (c:Conf) {s:Trs} (hw:TrsW s):fold_open (n+8) c s=some (if FoldOk c s then (some (c,s),0) else (none,2)):=by
  rw[fold_open_eq,conf_check (n+4),tier_check n _ _ hw.a,tier_check n _ _ hw.b,tier_check n _ _ hw.c]
  simp only[obs,tfn,tfd]
  by_cases h0:OkC c
  case neg=>rw[if_neg (mt (z02 _).1 h0),if_neg h0,if_neg (fun k:FoldOk c s=>h0 k.cok)]
  rw[if_pos ((z02 _).2 h0)]
  by_cases h1:(s.1.length:Int)=c.2.2.1.1
  case neg=>rw[if_neg h1,if_neg (fun k:FoldOk c s=>h1 k.n0)]
  rw[if_pos h1]
  by_cases h2:TierOk s.1 c.2.1.1
  case neg=>rw[if_neg (mt (z02 _).1 h2),if_neg (fun k:FoldOk c s=>h2 k.t0)]
  rw[if_pos ((z02 _).2 h2)]
  by_cases h3:(s.2.1.length:Int)=c.2.2.1.2.1
  case neg=>rw[if_neg h3,if_neg (fun k:FoldOk c s=>h3 k.n1)]
  rw[if_pos h3]
  by_cases h4:TierOk s.2.1 c.2.1.2.1
  case neg=>rw[if_neg (mt (z02 _).1 h4),if_neg (fun k:FoldOk c s=>h4 k.t1)]
  rw[if_pos ((z02 _).2 h4)]
  by_cases h5:(s.2.2.length:Int)=c.2.2.1.2.2
  case neg=>rw[if_neg h5,if_neg (fun k:FoldOk c s=>h5 k.n2)]
  rw[if_pos h5]
  by_cases h6:TierOk s.2.2 c.2.1.2.2
  case neg=>rw[if_neg (mt (z02 _).1 h6),if_neg (fun k:FoldOk c s=>h6 k.t2)]
  rw[if_pos ((z02 _).2 h6),if_pos (⟨h0,h1,h3,h5,h2,h4,h6⟩:FoldOk c s)]
theorem r14_check (n:Nat) (c:Conf) {s:Trs} (hw:TrsW s):r14_Check (n+7) c s=some (if FoldOk c s then 0 else 2):=by
  rw[r14_Check_eq,r10_check (n+3),r13_check n _ _ hw.a,r13_check n _ _ hw.b,r13_check n _ _ hw.c]
  simp only[obs,tfn,tfd]
  by_cases h0:OkC c
  case neg=>rw[if_neg (mt (z02 _).1 h0),if_neg (fun k:FoldOk c s=>h0 k.cok)]
  rw[if_pos ((z02 _).2 h0)]
  by_cases h1:(s.1.length:Int)=c.2.2.1.1
  case neg=>rw[if_neg h1,if_neg (fun k:FoldOk c s=>h1 k.n0)]
  rw[if_pos h1]
  by_cases h2:TierOk s.1 c.2.1.1
  case neg=>rw[if_neg (mt (z02 _).1 h2),if_neg (fun k:FoldOk c s=>h2 k.t0)]
  rw[if_pos ((z02 _).2 h2)]
  by_cases h3:(s.2.1.length:Int)=c.2.2.1.2.1
  case neg=>rw[if_neg h3,if_neg (fun k:FoldOk c s=>h3 k.n1)]
  rw[if_pos h3]
  by_cases h4:TierOk s.2.1 c.2.1.2.1
  case neg=>rw[if_neg (mt (z02 _).1 h4),if_neg (fun k:FoldOk c s=>h4 k.t1)]
  rw[if_pos ((z02 _).2 h4)]
  by_cases h5:(s.2.2.length:Int)=c.2.2.1.2.2
  case neg=>rw[if_neg h5,if_neg (fun k:FoldOk c s=>h5 k.n2)]
  rw[if_pos h5]
  by_cases h6:TierOk s.2.2 c.2.1.2.2
  case neg=>rw[if_neg (mt (z02 _).1 h6),if_neg (fun k:FoldOk c s=>h6 k.t2)]
  rw[if_pos ((z02 _).2 h6),if_pos (⟨h0,h1,h3,h5,h2,h4,h6⟩:FoldOk c s)]
theorem fold_check (n:Nat) (c:Conf) {s:Trs} (hw:TrsW s):fold_Check (n+9) c s=some (if FoldOk c s then 0 else 2):=by
  rw[fold_Check_eq,fold_open_val n c hw]
  by_cases h:FoldOk c s
  · rw[if_pos h,if_pos h];rfl
  · rw[if_neg h,if_neg h];rfl
noncomputable def emp (c:Conf):Trs:=if OkC c then (List.replicate c.2.2.1.1.toNat s0,(List.replicate c.2.2.1.2.1.toNat s0,List.replicate c.2.2.1.2.2.toNat s0)) else ([],([],[]))
theorem allE_okc (l:List Cel):∀c,CellOk c→CellOk (allE c l).1:=by
  induction l with
  | nil=>intro c h;exact h
  | cons x l ih =>
    intro c h
    simp only[allE]
    split
    · rename_i k;exact ih _ (mrgE_ok k).2.2.2.2
    · exact ok_z0
theorem tfold_okc (l:List Slo) (i k:Int):CellOk (tfold l i k).1:=by
  unfold tfold
  split
  · exact ok_z0
  · exact allE_okc _ _ ok_z0
theorem r10_factor1 (n:Nat) {c:Conf} (h:OkC c):r10_Factor (n+4) c 1=some (c.2.1.2.1 / c.2.1.1):=by
  have hr:=h.rng
  rw[r10_Factor_eq,r10_check n c,if_pos h]
  rw[show IntKind.wrap .i64 ((1:Int)-1)=0 from rfl]
  simp only[obs,decide_true,Bool.not_true,tff]
  rw[show (decide ((1:Int)<1))=false from rfl,tff,show (decide ((2:Int)<1))=false from rfl,tff,show (decide ((1:Int)=0))=false from rfl,tff]
  simp only[tft,tfd,if_neg (show ¬(c.2.1.1=0) by have:=hr.w0;omega),quo_w hr.w1 hr.w0.1]
theorem FoldOk.lens {c:Conf} {s:Trs} (h:FoldOk c s):s.1.length≤1000000∧s.2.1.length≤1000000∧s.2.2.length≤1000000:=by
  have:=h.t0.l1;have:=h.t1.l1;have:=h.t2.l1;omega
theorem trs_wf {s:Trs} (h:Wf (.wrap (.pair (.slice tySlot) (.pair (.slice tySlot) (.slice tySlot)))) s):TrsW s:=by
  obtain ⟨h1,h2,h3⟩:=h
  exact ⟨slos_wf h1,slos_wf h2,slos_wf h3⟩
abbrev Ser:=List Lab×(Int×(Rw×(Trs×Slo)))
structure SerW (s:Ser):Prop where
  last:I64 s.2.1
  raw:RawW s.2.2.1
  trs:TrsW s.2.2.2.1
  opn:SloW s.2.2.2.2
def NoBehind (l:List Slo) (i:Int):Prop:=∀s∈l,0<s.2.1→s.1<i
noncomputable instance (l i):Decidable (NoBehind l i):=Classical.propDecidable _
structure Fresh (s:Ser):Prop where
  raw:s.2.2.1.2.2=[]
  opn:s.2.2.2.2=s0
  b0:NoBehind s.2.2.2.1.1 0
  b1:NoBehind s.2.2.2.1.2.1 0
  b2:NoBehind s.2.2.2.1.2.2 0
structure EndsP (c:Conf) (s:Ser):Prop where
  last:∃e,s.2.2.1.2.2.getLast? = some e∧e.1=s.2.1
  ol:s.2.2.2.2.2.2.2.1.1=s.2.1
  fit:FitsP s.2.2.2.2.2 c.2.1.1 s.2.2.2.2.1
  b0:NoBehind s.2.2.2.1.1 (s.2.1 / c.2.1.1)
  b1:NoBehind s.2.2.2.1.2.1 (s.2.1 / c.2.1.2.1)
  b2:NoBehind s.2.2.2.1.2.2 (s.2.1 / c.2.1.2.2)
structure SerOk (c:Conf) (s:Ser):Prop where
  fold:FoldOk c s.2.2.2.1
  lab:LabOk s.1
  raw:RawOk s.2.2.1 c.1
  st:(s.2.1 = -1∧Fresh s)∨(s.2.1 ≠ -1∧EndsP c s)
noncomputable instance (s):Decidable (Fresh s):=Classical.propDecidable _
noncomputable instance (c s):Decidable (EndsP c s):=Classical.propDecidable _
noncomputable instance (c s):Decidable (SerOk c s):=Classical.propDecidable _
theorem contains_slot (n:Nat) {del:TSlot×Unit→Option Bool} {p:Slo→Bool} (hd:∀x,del (x,())=some (p x)) (l:List Slo) (hL:l.length≤1000000):sl_ContainsFunc_Slot (n+2) l del=some (l.any p):=by
  rw[sl_ContainsFunc_Slot_eq,sl_IndexFunc_Slot_eq]
  rcases index_l hd n l hL l [] loopFuel 0 l.length rfl rfl rfl (by unfold loopFuel;omega) with ⟨h1,h2⟩ | ⟨A,x,B,h1,h2,h3,h4⟩
  · rw[h1]
    have:l.any p=false:=by rw[List.any_eq_false];intro x hx;simp[h2 x hx]
    rw[this];rfl
  · rw[h4]
    have:l.any p=true:=List.any_eq_true.2 ⟨x,by rw[h1];simp,h3⟩
    simp only[obs,selim_inr,this,Int.zero_add]
    rw[decide_eq_true (by omega)]
theorem series_behind_val (n:Nat) (l:List Slo) (i:Int) (hL:l.length≤1000000):series_behind (n+3) l i=some (!decide (NoBehind l i)):=by
  rw[series_behind_eq,contains_slot (p:=fun s=>decide (0<s.2.1∧i≤s.1)) n (fun x=>by
    show series_behind_1 (n+1+1) x i=_
    rw[series_behind_1_eq]
    by_cases h1:0<x.2.1<;>by_cases h2:i≤x.1<;>simp[h1,h2]) l hL]
  simp only[obs]
  refine congrArg some ?_
  by_cases h:NoBehind l i
  · rw[decide_eq_true h]
    rw[List.any_eq_false.2]
    · rfl
    · intro x hx k
      have:=of_decide_eq_true k
      have:=h x hx this.1
      omega
  · rw[decide_eq_false h]
    have:∃x∈l,0<x.2.1∧i≤x.1:=Classical.byContradiction fun k=>h fun x hx hc=>by
      rcases Int.lt_or_le x.1 i with q | q
      · exact q
      · exact absurd ⟨x,hx,hc,q⟩ k
    obtain ⟨x,hx,hq⟩:=this
    rw[List.any_eq_true.2 ⟨x,hx,decide_eq_true hq⟩]
    rfl
theorem kept_fresh (n:Nat) (c:Conf) {s:Ser} (hf:FoldOk c s.2.2.2.1):srk_fresh (n+4) (c,s)=some (decide (Fresh s)):=by
  obtain ⟨l0,l1,l2⟩:=hf.lens
  rw[srk_fresh_eq,sloEq0,series_behind_val n _ _ l0,series_behind_val n _ _ l1,series_behind_val n _ _ l2]
  simp only[obs,Bool.not_not,tfd]
  by_cases h1:(s.2.2.1.2.2.length:Int)=0
  case neg=>rw[if_neg h1,decide_eq_false (fun k:Fresh s=>h1 (by rw[k.raw];rfl))]
  rw[if_pos h1]
  by_cases h2:s.2.2.2.2=s0
  case neg=>rw[if_neg h2,decide_eq_false (fun k:Fresh s=>h2 k.opn)]
  rw[if_pos h2]
  by_cases h3:NoBehind s.2.2.2.1.1 0
  case neg=>rw[if_neg h3,decide_eq_false (fun k:Fresh s=>h3 k.b0)]
  rw[if_pos h3]
  by_cases h4:NoBehind s.2.2.2.1.2.1 0
  case neg=>rw[if_neg h4,decide_eq_false (fun k:Fresh s=>h4 k.b1)]
  rw[if_pos h4]
  refine congrArg some (decide_eq_decide.2 ⟨fun k=>⟨List.length_eq_zero_iff.1 (by omega),h2,h3,h4,k⟩,fun k=>k.b2⟩)
theorem last_ok {c:Conf} {s:Ser} (hr:RawOk s.2.2.1 c.1) {e:Ev} (he:s.2.2.1.2.2.getLast? = some e):EvOk e:=hr.f.ok e (List.mem_of_getLast? he)
theorem kept_ends (n:Nat) (c:Conf) {s:Ser} (hf:FoldOk c s.2.2.2.1) (hr:RawOk s.2.2.1 c.1) (hw:SerW s):srk_ends (n+7) (c,s)=some (decide (EndsP c s)):=by
  obtain ⟨l0,l1,l2⟩:=hf.lens
  have hg:=hf.cok.rng
  have hlen:=hr.len;have hm1:=hr.m1
  rw[srk_ends_eq,raw_last (n+5) s.2.2.1 (by omega)]
  cases hl:s.2.2.1.2.2.getLast? with
  | none =>
    simp only[obs]
    rw[show (decide ((3:Int)=0))=false from rfl,tff,decide_eq_false]
    intro k
    obtain ⟨e,he,_⟩:=k.last
    rw[hl] at he;cases he
  | some e =>
    have heo:=last_ok hr hl
    simp only[obs,decide_true,tft,tfd,if_true]
    by_cases h1:e.1=s.2.1
    case neg =>
      rw[if_neg h1,decide_eq_false]
      intro k
      obtain ⟨e',he,hq⟩:=k.last
      rw[hl] at he;injection he with he;subst he;exact h1 hq
    rw[if_pos h1]
    by_cases h2:s.2.2.2.2.2.2.2.1.1=s.2.1
    case neg=>rw[if_neg h2,decide_eq_false (fun k:EndsP c s=>h2 k.ol)]
    have q0:=quo_ev heo hg.w0.1;have q1:=quo_ev heo hg.w1.1;have q2:=quo_ev heo hg.w2.1
    rw[h1] at q0 q1 q2
    rw[if_pos h2,tier_fits n hw.opn.c]
    simp only[obs,tfd,q0,q1,q2,series_behind_val (n+3) _ _ l0,series_behind_val (n+3) _ _ l1,series_behind_val (n+3) _ _ l2,Bool.not_not,if_neg (show ¬(c.2.1.1=0) by have:=hg.w0;omega),if_neg (show ¬(c.2.1.2.1=0) by have:=hg.w1;omega),if_neg (show ¬(c.2.1.2.2=0) by have:=hg.w2;omega)]
    by_cases h3:FitsP s.2.2.2.2.2 c.2.1.1 s.2.2.2.2.1
    case neg=>rw[if_neg h3,decide_eq_false (fun k:EndsP c s=>h3 k.fit)]
    rw[if_pos h3]
    by_cases h4:NoBehind s.2.2.2.1.1 (s.2.1 / c.2.1.1)
    case neg=>rw[if_neg h4,decide_eq_false (fun k:EndsP c s=>h4 k.b0)]
    rw[if_pos h4]
    by_cases h5:NoBehind s.2.2.2.1.2.1 (s.2.1 / c.2.1.2.1)
    case neg=>rw[if_neg h5,decide_eq_false (fun k:EndsP c s=>h5 k.b1)]
    rw[if_pos h5]
    refine congrArg some (decide_eq_decide.2 ⟨fun k=>⟨⟨e,hl,h1⟩,h2,h3,h4,h5,k⟩,fun k=>k.b2⟩)
theorem z08 (p:Prop) [Decidable p]:((if p then (0:Int) else 8)=0)↔p:=by by_cases h:p<;>simp[h]
theorem series_open_val (n:Nat) (c:Conf) {s:Ser} (hw:SerW s):series_open (n+10) c s=some (if SerOk c s then (some (c,s),0) else (none,2)):=by
  rw[series_open_eq,fold_check n c hw.trs,label_check (n+3),raw_check (n+4) _ _ hw.raw]
  simp only[obs,tfn,tfd]
  by_cases h1:FoldOk c s.2.2.2.1
  case neg=>rw[if_neg (mt (z02 _).1 h1),if_neg (fun k:SerOk c s=>h1 k.fold)]
  by_cases h2:LabOk s.1
  case neg=>rw[if_pos ((z02 _).2 h1),if_neg (mt (z08 _).1 h2),if_neg (fun k:SerOk c s=>h2 k.lab)]
  by_cases h3:RawOk s.2.2.1 c.1
  case neg=>rw[if_pos ((z02 _).2 h1),if_pos ((z08 _).2 h2),if_neg (mt (z02 _).1 h3),if_neg (fun k:SerOk c s=>h3 k.raw)]
  rw[if_pos ((z02 _).2 h1),if_pos ((z08 _).2 h2),if_pos ((z02 _).2 h3),kept_fresh (n+5) c h1,kept_ends (n+2) c h1 h3 hw]
  simp only[obs,tfd]
  by_cases h4:s.2.1 = -1
  · rw[if_pos h4]
    by_cases h5:Fresh s
    · rw[if_pos h5,if_pos (⟨h1,h2,h3,.inl ⟨h4,h5⟩⟩:SerOk c s)]
    · rw[if_neg h5,if_pos h4,if_neg (fun k:SerOk c s=>by
        rcases k.st with q | q
        · exact h5 q.2
        · exact q.1 h4)]
  · rw[if_neg h4,if_neg h4]
    by_cases h5:EndsP c s
    · rw[if_pos h5,if_pos (⟨h1,h2,h3,.inr ⟨h4,h5⟩⟩:SerOk c s)]
    · rw[if_neg h5,if_neg (fun k:SerOk c s=>by
        rcases k.st with q | q
        · exact h4 q.1
        · exact h5 q.2)]
theorem noBehind_iff {l:List Slo} {w:Int} (h:TierOk l w) (i:Int):NoBehind l i↔∀s∈tall l,s.1<i:=by
  constructor
  · intro k s hs
    have:=(tall_N h hs).n1
    exact k s (mem_tall.1 hs).1 (by omega)
  · intro k s hs hc
    exact k s (mem_tall.2 ⟨hs,fun e=>by rw[e] at hc;simp[s0,z0] at hc⟩)
theorem noBehind0 {l:List Slo} {w:Int} (h:TierOk l w):NoBehind l 0↔tall l=[]:=by
  rw[noBehind_iff h]
  constructor
  · intro k
    by_cases e:tall l=[]
    · exact e
    · obtain ⟨s,hs⟩:=List.exists_mem_of_ne_nil _ e
      have:=(tall_fits h hs).1.i0
      have:=k s hs
      omega
  · intro e s hs;rw[e] at hs;cases hs
theorem r15_l7_3 (n f:Nat) (s:Ser):r15_Check_l7 n (f+1) (s,(3:Int),())=some (.inl ()):=by
  rw[r15_Check_l7_eq,show (decide ((3:Int)<3))=false from rfl,tff]
theorem r15_l7 (n f:Nat) (c:Conf) {s:Ser} (h:FoldOk c s.2.2.2.1):r15_Check_l7 (n+1) (f+4) (s,(0:Int),())=some (if NoBehind s.2.2.2.1.1 0∧NoBehind s.2.2.2.1.2.1 0∧NoBehind s.2.2.2.1.2.2 0 then .inl () else .inr 2):=by
  have n0:=noBehind0 h.t0;have n1:=noBehind0 h.t1;have n2:=noBehind0 h.t2
  have len:∀ {l:List Slo},((0:Int)<(tall l).length)↔tall l≠[]:=fun {l}=>by
    have:=List.length_pos_iff (l:=tall l)
    constructor
    · intro k;exact this.1 (by omega)
    · intro k;have:=this.2 k;omega
  rw[r15_Check_l7_eq,show (decide ((0:Int)<3))=true from rfl,tft,show (decide ((0:Int)=0))=true from rfl,tft,r13_all n h.t0]
  simp only[obs,tfd]
  by_cases c0:NoBehind s.2.2.2.1.1 0
  case neg=>rw[if_pos (len.2 (mt n0.2 c0)),if_neg (fun k=>c0 k.1)]
  rw[if_neg (fun k=>(len.1 k) (n0.1 c0)),show IntKind.wrap .i64 ((0:Int)+1)=1 from rfl,r15_Check_l7_eq,show (decide ((1:Int)<3))=true from rfl,tft,show (decide ((1:Int)=0))=false from rfl,tff,show (decide ((1:Int)=1))=true from rfl,tft,r13_all n h.t1]
  simp only[obs,tfd]
  by_cases c1:NoBehind s.2.2.2.1.2.1 0
  case neg=>rw[if_pos (len.2 (mt n1.2 c1)),if_neg (fun k=>c1 k.2.1)]
  rw[if_neg (fun k=>(len.1 k) (n1.1 c1)),show IntKind.wrap .i64 ((1:Int)+1)=2 from rfl,r15_Check_l7_eq,show (decide ((2:Int)<3))=true from rfl,tft,show (decide ((2:Int)=0))=false from rfl,tff,show (decide ((2:Int)=1))=false from rfl,tff,show (decide ((2:Int)=2))=true from rfl,tft,r13_all n h.t2]
  simp only[obs,tfd]
  by_cases c2:NoBehind s.2.2.2.1.2.2 0
  case neg=>rw[if_pos (len.2 (mt n2.2 c2)),if_neg (fun k=>c2 k.2.2)]
  rw[if_neg (fun k=>(len.1 k) (n2.1 c2)),show IntKind.wrap .i64 ((2:Int)+1)=3 from rfl,r15_l7_3,if_pos ⟨c0,c1,c2⟩]
theorem r15_l19_0 (n:Nat) (c:Conf) (s:Ser) (at_:Int) (hw:1≤c.2.1.1) (hq:IntKind.wrap .i64 (Int.tdiv s.2.1 c.2.1.1)=at_) (l:List Slo) (hL:l.length≤1000000):∀(rest pre:List Slo) (f:Nat) (ix len:Int),l=pre++rest→ix=pre.length→len=l.length→rest.length<f →
    ((∀x∈rest,x.1<at_)→r15_Check_l19 n f (c,s,(0:Int),l,len,ix,())=some (.inl (c,s,(0:Int),())))∧(¬(∀x∈rest,x.1<at_)→r15_Check_l19 n f (c,s,(0:Int),l,len,ix,())=some (.inr 2)):=by
  intro rest
  induction rest with
  | nil =>
    intro pre f ix len hl hi hn hf
    obtain ⟨f,rfl⟩:∃g,f=g+1:=⟨f-1,by simp at hf;omega⟩
    rw[r15_Check_l19_eq]
    exact ⟨fun _=>by simp only[tfd,if_neg (idxe hl hi hn)],fun k=>absurd (by simp) k⟩
  | cons x rest ih =>
    intro pre f ix len hl hi hn hf
    obtain ⟨f,rfl⟩:∃g,f=g+1:=⟨f-1,by simp at hf;omega⟩
    rw[r15_Check_l19_eq,decide_eq_true (idx hl hi hn),tft,at_mid hl hi,obs]
    rw[show (decide ((0:Int)=0))=true from rfl,tft]
    simp only[tfd,if_neg (show ¬(c.2.1.1=0) by omega),hq,idxw hl hi (show l.length≤1000000000000 by omega)]
    have ih':=ih (pre++[x]) f (ix+1) len (idxl hl) (idxs hi) hn (by simp at hf;omega)
    by_cases h1:at_≤x.1
    · rw[if_pos h1]
      exact ⟨fun k=>by have:=k x (by simp);omega,fun _=>rfl⟩
    · rw[if_neg h1]
      exact ⟨fun k=>ih'.1 fun y hy=>k y (by simp[hy]),fun k=>ih'.2 fun q=>k fun y hy=>by
        rcases List.mem_cons.1 hy with rfl | hy
        · omega
        · exact q y hy⟩
theorem r15_l19_1 (n:Nat) (c:Conf) (s:Ser) (at_:Int) (hw:1≤c.2.1.2.1) (hq:IntKind.wrap .i64 (Int.tdiv s.2.1 c.2.1.2.1)=at_) (l:List Slo) (hL:l.length≤1000000):∀(rest pre:List Slo) (f:Nat) (ix len:Int),l=pre++rest→ix=pre.length→len=l.length→rest.length<f →
    ((∀x∈rest,x.1<at_)→r15_Check_l19 n f (c,s,(1:Int),l,len,ix,())=some (.inl (c,s,(1:Int),())))∧(¬(∀x∈rest,x.1<at_)→r15_Check_l19 n f (c,s,(1:Int),l,len,ix,())=some (.inr 2)):=by
  intro rest
  induction rest with
  | nil =>
    intro pre f ix len hl hi hn hf
    obtain ⟨f,rfl⟩:∃g,f=g+1:=⟨f-1,by simp at hf;omega⟩
    rw[r15_Check_l19_eq]
    exact ⟨fun _=>by simp only[tfd,if_neg (idxe hl hi hn)],fun k=>absurd (by simp) k⟩
  | cons x rest ih =>
    intro pre f ix len hl hi hn hf
    obtain ⟨f,rfl⟩:∃g,f=g+1:=⟨f-1,by simp at hf;omega⟩
    rw[r15_Check_l19_eq,decide_eq_true (idx hl hi hn),tft,at_mid hl hi,obs]
    rw[show (decide ((1:Int)=0))=false from rfl,tff,show (decide ((1:Int)=1))=true from rfl,tft]
    simp only[tfd,if_neg (show ¬(c.2.1.2.1=0) by omega),hq,idxw hl hi (show l.length≤1000000000000 by omega)]
    have ih':=ih (pre++[x]) f (ix+1) len (idxl hl) (idxs hi) hn (by simp at hf;omega)
    by_cases h1:at_≤x.1
    · rw[if_pos h1]
      exact ⟨fun k=>by have:=k x (by simp);omega,fun _=>rfl⟩
    · rw[if_neg h1]
      exact ⟨fun k=>ih'.1 fun y hy=>k y (by simp[hy]),fun k=>ih'.2 fun q=>k fun y hy=>by
        rcases List.mem_cons.1 hy with rfl | hy
        · omega
        · exact q y hy⟩
theorem r15_l19_2 (n:Nat) (c:Conf) (s:Ser) (at_:Int) (hw:1≤c.2.1.2.2) (hq:IntKind.wrap .i64 (Int.tdiv s.2.1 c.2.1.2.2)=at_) (l:List Slo) (hL:l.length≤1000000):∀(rest pre:List Slo) (f:Nat) (ix len:Int),l=pre++rest→ix=pre.length→len=l.length→rest.length<f →
    ((∀x∈rest,x.1<at_)→r15_Check_l19 n f (c,s,(2:Int),l,len,ix,())=some (.inl (c,s,(2:Int),())))∧(¬(∀x∈rest,x.1<at_)→r15_Check_l19 n f (c,s,(2:Int),l,len,ix,())=some (.inr 2)):=by
  intro rest
  induction rest with
  | nil =>
    intro pre f ix len hl hi hn hf
    obtain ⟨f,rfl⟩:∃g,f=g+1:=⟨f-1,by simp at hf;omega⟩
    rw[r15_Check_l19_eq]
    exact ⟨fun _=>by simp only[tfd,if_neg (idxe hl hi hn)],fun k=>absurd (by simp) k⟩
  | cons x rest ih =>
    intro pre f ix len hl hi hn hf
    obtain ⟨f,rfl⟩:∃g,f=g+1:=⟨f-1,by simp at hf;omega⟩
    rw[r15_Check_l19_eq,decide_eq_true (idx hl hi hn),tft,at_mid hl hi,obs]
    rw[show (decide ((2:Int)=0))=false from rfl,tff,show (decide ((2:Int)=1))=false from rfl,tff,show (decide ((2:Int)=2))=true from rfl,tft]
    simp only[tfd,if_neg (show ¬(c.2.1.2.2=0) by omega),hq,idxw hl hi (show l.length≤1000000000000 by omega)]
    have ih':=ih (pre++[x]) f (ix+1) len (idxl hl) (idxs hi) hn (by simp at hf;omega)
    by_cases h1:at_≤x.1
    · rw[if_pos h1]
      exact ⟨fun k=>by have:=k x (by simp);omega,fun _=>rfl⟩
    · rw[if_neg h1]
      exact ⟨fun k=>ih'.1 fun y hy=>k y (by simp[hy]),fun k=>ih'.2 fun q=>k fun y hy=>by
        rcases List.mem_cons.1 hy with rfl | hy
        · omega
        · exact q y hy⟩
theorem r15_l16_3 (n f:Nat) (c:Conf) (s:Ser):r15_Check_l16 n (f+1) (c,s,(3:Int),())=some (.inl ()):=by
  rw[r15_Check_l16_eq,show (decide ((3:Int)<3))=false from rfl,tff]
theorem r15_l16 (n f:Nat) (c:Conf) {s:Ser} (h:FoldOk c s.2.2.2.1) {e:Ev} (he:EvOk e) (hes:e.1=s.2.1):r15_Check_l16 (n+1) (f+4) (c,s,(0:Int),()) =
    some (if NoBehind s.2.2.2.1.1 (s.2.1 / c.2.1.1)∧NoBehind s.2.2.2.1.2.1 (s.2.1 / c.2.1.2.1)∧NoBehind s.2.2.2.1.2.2 (s.2.1 / c.2.1.2.2) then .inl () else .inr 2):=by
  have n0:=noBehind_iff h.t0 (s.2.1 / c.2.1.1);have n1:=noBehind_iff h.t1 (s.2.1 / c.2.1.2.1);have n2:=noBehind_iff h.t2 (s.2.1 / c.2.1.2.2)
  have hg:=h.cok.rng
  have q0:=quo_ev he hg.w0.1;have q1:=quo_ev he hg.w1.1;have q2:=quo_ev he hg.w2.1
  rw[hes] at q0 q1 q2
  obtain ⟨l0,l1,l2⟩:=h.lens
  have t0:=tall_len (l:=s.2.2.2.1.1);have t1:=tall_len (l:=s.2.2.2.1.2.1);have t2:=tall_len (l:=s.2.2.2.1.2.2)
  have k0:=r15_l19_0 (n+1) c s _ hg.w0.1 q0 (tall s.2.2.2.1.1) (by omega) (tall s.2.2.2.1.1) [] loopFuel 0 ((tall s.2.2.2.1.1).length:Int) rfl rfl rfl (by unfold loopFuel;omega)
  have k1:=r15_l19_1 (n+1) c s _ hg.w1.1 q1 (tall s.2.2.2.1.2.1) (by omega) (tall s.2.2.2.1.2.1) [] loopFuel 0 ((tall s.2.2.2.1.2.1).length:Int) rfl rfl rfl (by unfold loopFuel;omega)
  have k2:=r15_l19_2 (n+1) c s _ hg.w2.1 q2 (tall s.2.2.2.1.2.2) (by omega) (tall s.2.2.2.1.2.2) [] loopFuel 0 ((tall s.2.2.2.1.2.2).length:Int) rfl rfl rfl (by unfold loopFuel;omega)
  rw[←n0] at k0;rw[←n1] at k1;rw[←n2] at k2
  rw[r15_Check_l16_eq,show (decide ((0:Int)<3))=true from rfl,tft,show (decide ((0:Int)=0))=true from rfl,tft,r13_all n h.t0,obs]
  by_cases c0:NoBehind s.2.2.2.1.1 (s.2.1 / c.2.1.1)
  case neg=>rw[k0.2 c0,if_neg (fun k=>c0 k.1)];rfl
  rw[k0.1 c0]
  simp only[obs,selim_inl]
  rw[show IntKind.wrap .i64 ((0:Int)+1)=1 from rfl,r15_Check_l16_eq,show (decide ((1:Int)<3))=true from rfl,tft,show (decide ((1:Int)=0))=false from rfl,tff,show (decide ((1:Int)=1))=true from rfl,tft,r13_all n h.t1,obs]
  by_cases c1:NoBehind s.2.2.2.1.2.1 (s.2.1 / c.2.1.2.1)
  case neg=>rw[k1.2 c1,if_neg (fun k=>c1 k.2.1)];rfl
  rw[k1.1 c1]
  simp only[obs,selim_inl]
  rw[show IntKind.wrap .i64 ((1:Int)+1)=2 from rfl,r15_Check_l16_eq,show (decide ((2:Int)<3))=true from rfl,tft,show (decide ((2:Int)=0))=false from rfl,tff,show (decide ((2:Int)=1))=false from rfl,tff,show (decide ((2:Int)=2))=true from rfl,tft,r13_all n h.t2,obs]
  by_cases c2:NoBehind s.2.2.2.1.2.2 (s.2.1 / c.2.1.2.2)
  case neg=>rw[k2.2 c2,if_neg (fun k=>c2 k.2.2)];rfl
  rw[k2.1 c2]
  simp only[obs,selim_inl]
  rw[show IntKind.wrap .i64 ((2:Int)+1)=3 from rfl,r15_l16_3,if_pos ⟨c0,c1,c2⟩]
theorem r15_check (n:Nat) (c:Conf) {s:Ser} (hw:SerW s):r15_Check (n+8) c s=some (if SerOk c s then 0 else 2):=by
  rw[r15_Check_eq,r10_check (n+4),r05_check (n+5),r12_check (n+5) _ _ hw.raw,r14_check n c hw.trs]
  simp only[obs,tfn,tfd,sloEq0]
  by_cases h0:OkC c
  case neg=>rw[if_neg (mt (z02 _).1 h0),if_neg (fun k:SerOk c s=>h0 k.fold.cok)]
  by_cases h2:LabOk s.1
  case neg=>rw[if_pos ((z02 _).2 h0),if_neg (mt (z08 _).1 h2),if_neg (fun k:SerOk c s=>h2 k.lab)]
  by_cases h3:RawOk s.2.2.1 c.1
  case neg=>rw[if_pos ((z02 _).2 h0),if_pos ((z08 _).2 h2),if_neg (mt (z02 _).1 h3),if_neg (fun k:SerOk c s=>h3 k.raw)]
  by_cases h1:FoldOk c s.2.2.2.1
  case neg=>rw[if_pos ((z02 _).2 h0),if_pos ((z08 _).2 h2),if_pos ((z02 _).2 h3),if_neg (mt (z02 _).1 h1),if_neg (fun k:SerOk c s=>h1 k.fold)]
  have hlen:=h3.len;have hm1:=h3.m1
  rw[if_pos ((z02 _).2 h0),if_pos ((z08 _).2 h2),if_pos ((z02 _).2 h3),if_pos ((z02 _).2 h1),show loopFuel=(2^70-4)+4 from by decide,r15_l7 (n+6) _ c h1,r12_last _ _ (by omega),r13_fits (n+2) hw.opn.c]
  by_cases h4:s.2.1 = -1
  · rw[if_pos h4]
    by_cases h5:(0:Int)<s.2.2.1.2.2.length
    · rw[if_pos h5,if_neg (fun k:SerOk c s=>by
        rcases k.st with q | q
        · rw[q.2.raw] at h5;simp at h5
        · exact q.1 h4)]
    rw[if_neg h5]
    by_cases h6:s.2.2.2.2=s0
    case neg=>rw[if_neg h6,if_neg (fun k:SerOk c s=>by
        rcases k.st with q | q
        · exact h6 q.2.opn
        · exact q.1 h4)]
    rw[if_pos h6,obs]
    by_cases h7:NoBehind s.2.2.2.1.1 0∧NoBehind s.2.2.2.1.2.1 0∧NoBehind s.2.2.2.1.2.2 0
    · rw[if_pos h7,if_pos (⟨h1,h2,h3,.inl ⟨h4,⟨List.length_eq_zero_iff.1 (by omega),h6,h7.1,h7.2.1,h7.2.2⟩⟩⟩:SerOk c s)];rfl
    · rw[if_neg h7,if_neg (fun k:SerOk c s=>by
        rcases k.st with q | q
        · exact h7 ⟨q.2.b0,q.2.b1,q.2.b2⟩
        · exact q.1 h4)];rfl
  · rw[if_neg h4]
    have no:∀ {p:Prop},(EndsP c s→p)→¬p→(if SerOk c s then (0:Int) else 2)=2:=fun hp hn=>if_neg (fun k:SerOk c s=>by
      rcases k.st with q | q
      · exact h4 q.1
      · exact hn (hp q.2))
    cases hl:s.2.2.1.2.2.getLast? with
    | none =>
      simp only[obs]
      rw[if_neg (by decide),no (fun k=>k.last) (fun ⟨e,he,_⟩=>by rw[hl] at he;cases he)]
    | some e =>
      have heo:=last_ok h3 hl
      simp only[obs,if_true,tfd]
      by_cases h5:e.1=s.2.1
      case neg=>rw[if_neg h5,no (fun k=>k.last) (fun ⟨e',he,hq⟩=>by rw[hl] at he;injection he with he;subst he;exact h5 hq)]
      rw[if_pos h5]
      by_cases h6:FitsP s.2.2.2.2.2 c.2.1.1 s.2.2.2.2.1
      case neg=>rw[if_neg h6,no (fun k=>k.fit) h6]
      rw[if_pos h6]
      by_cases h7:s.2.2.2.2.2.2.2.1.1=s.2.1
      case neg=>rw[if_neg h7,no (fun k=>k.ol) h7]
      rw[if_pos h7,r15_l16 (n+6) _ c h1 heo h5,obs]
      by_cases h8:NoBehind s.2.2.2.1.1 (s.2.1 / c.2.1.1)∧NoBehind s.2.2.2.1.2.1 (s.2.1 / c.2.1.2.1)∧NoBehind s.2.2.2.1.2.2 (s.2.1 / c.2.1.2.2)
      · rw[if_pos h8,if_pos (⟨h1,h2,h3,.inr ⟨h4,⟨⟨e,hl,h5⟩,h7,h6,h8.1,h8.2.1,h8.2.2⟩⟩⟩:SerOk c s)];rfl
      · rw[if_neg h8,no (fun k=>And.intro k.b0 (And.intro k.b1 k.b2)) h8];rfl
theorem nn {α:Type} {a b:α} (h:a=b):¬(a≠b):=fun k=>k h
def ser0:Ser:=([],(0,(r0w,(([],([],[])),s0))))
end Go.Proofs.YtefpnjjbopdplaaGreatDoor

namespace Go.Plim
set_option linter.unusedVariables false
def below (w:Int) (l:List Ev) (t:Int):List Ev:=l.filter fun e=>decide (e.1 / w<t / w)
structure EndsAt (l:List Ev) (t:Int):Prop where
  foll:Foll l
  le:∀e∈l,e.1≤t
  last:∃e∈l,e.1=t
theorem edvm {t a b:Int} (ha:1≤a) (hb:1≤b) (hm:b % a=0):t / a*a / b=t / b∧t / a / (b / a)=t / b:=by
  have e:a*(b / a)=b:=by have:=Int.mul_ediv_add_emod b a;omega
  have h1:t / a / (b / a)=t / b:=by rw[Int.ediv_ediv_of_nonneg (by omega),e]
  refine ⟨?_,h1⟩
  rw[←h1]
  conv=>lhs;rw[←e,Int.mul_comm (t / a) a]
  exact Int.mul_ediv_mul_of_pos _ _ (by omega)
end Go.Plim
namespace Go.Proofs.YtefpnjjbopdplaaGreatDoor
open Go.Flat Go.Plim
structure FInv (c:Conf) (s:Trs) (l:List Ev) (t:Int):Prop where
  ok:FoldOk c s
  i0:TierInv s.1 c.2.1.1 (below c.2.1.1 l t)
  i1:TierInv s.2.1 c.2.1.2.1 (below c.2.1.2.1 l t)
  i2:TierInv s.2.2 c.2.1.2.2 (below c.2.1.2.2 l t)
end Go.Proofs.YtefpnjjbopdplaaGreatDoor
namespace Go.Proofs.YtefpnjjbopdplaaGreatDoor
open Go.Flat Go.Plim
set_option linter.unusedVariables false
set_option linter.unusedSimpArgs false
theorem allE_up {w:Int}:∀(L:List Slo) (c:Cel) (lo:Int),Up L→(∀s∈L,FitsP s.2 w s.1∧lo≤s.1)→CellOk c→(c=z0∨c.2.2.1.1 / w<lo)→(allE c (L.map (·.2))).2=0:=by
  intro L
  induction L with
  | nil=>intro c lo _ _ _ _;rfl
  | cons s L ih =>
    intro c lo hu hs hc hl
    unfold Up at hu
    rw[List.pairwise_cons] at hu
    obtain ⟨hf,h1⟩:=hs s (by simp)
    have ha:Ahead c s.2:=by
      rcases hl with h | h
      · exact .inl h
      · refine .inr (.inr ?_)
        have e:=hf.f
        rcases Int.lt_or_le c.2.2.1.1 s.2.2.1.1 with q | q
        · exact q
        · have:=Int.ediv_le_ediv (c:=w) (by have:=hf.w0;omega) q
          omega
    have em:mrgE c s.2=(mrg c s.2,0):=by unfold mrgE;rw[if_pos (And.intro hc hf.n.ok),if_pos ha]
    simp only[List.map_cons,allE]
    rw[em,if_pos rfl]
    refine ih _ (s.1+1) hu.2 (fun x hx=>⟨(hs x (by simp[hx])).1,by have:=hu.1 x hx;omega⟩) (mrg_ok hc hf.n.ok ha) (.inr ?_)
    have el:(mrg c s.2).2.2.1.1=s.2.2.2.1.1:=by
      unfold mrg
      by_cases k:c=z0
      · rw[if_pos k]
      · rw[if_neg k,if_neg hf.n.ne]
    rw[el,hf.l];omega
theorem tfold_none {l:List Slo} {w i k:Int} (h:TierOk l w) (h0:0≤i) (hik:i≤k):(tfold l i k).2=0:=by
  unfold tfold
  rw[if_neg (by omega)]
  unfold within
  refine allE_up (w:=w) _ z0 0 ((tall_up h).filter _) (fun s hs => ?_) ok_z0 (.inl rfl)
  have:=(tall_fits h (List.mem_filter.1 hs).1).1
  exact ⟨this,this.i0.1⟩
noncomputable def now1 (c:Conf) (s:Ser):Cel×Int:=mrgE (tfold s.2.2.2.1.1 (s.2.1 / c.2.1.2.1*(c.2.1.2.1 / c.2.1.1)) (s.2.1 / c.2.1.1)).1 s.2.2.2.2.2
noncomputable def now2 (c:Conf) (s:Ser):Cel×Int :=
  if (now1 c s).2≠0 then (z0,(now1 c s).2) else mrgE (tfold s.2.2.2.1.2.1 (s.2.1 / c.2.1.2.2*(c.2.1.2.2 / c.2.1.2.1)) (s.2.1 / c.2.1.2.1)).1 (now1 c s).1
theorem tfold_w (l:List Slo) (i k:Int):CelW (tfold l i k).1 := .of (tfold_okc l i k)
theorem serOk_ends {c:Conf} {s:Ser} (h:SerOk c s) (hn:¬(s.2.1 = -1)):EndsP c s∧∃e,EvOk e∧e.1=s.2.1:=by
  rcases h.st with q | q
  · exact absurd q.1 hn
  · obtain ⟨e,he,h1⟩:=q.2.last
    exact ⟨q.2,e,last_ok h.raw he,h1⟩
theorem over_range {a b t:Int} (ha:1≤a∧a≤1099511627776) (hb:1≤b∧b≤1099511627776) (hm:b % a=0) (ht:0≤t∧t<35184372088832) :
    0≤t / b*(b / a)∧t / b*(b / a)≤t / a∧t / a<35184372088832∧0≤t / a:=by
  have h1:=(edvm (t:=t) ha.1 hb.1 hm).2
  have h2:0≤t / b:=Int.ediv_nonneg ht.1 (by omega)
  have h3:0≤b / a:=Int.ediv_nonneg (by omega) (by omega)
  have h4:0≤t / a:=Int.ediv_nonneg ht.1 (by omega)
  have h5:t / a≤t:=Int.ediv_le_self _ ht.1
  refine ⟨Int.mul_nonneg h2 h3,?_,by omega,h4⟩
  have h6:1≤b / a:=by
    have e:a*(b / a)=b:=by have:=Int.mul_ediv_add_emod b a;omega
    rcases Int.lt_or_le 0 (b / a) with q | q
    · omega
    · have:b / a=0:=by omega
      rw[this] at e;omega
  rw[←h1]
  exact Int.ediv_mul_le _ (by omega)
structure At (c:Conf) (s:Ser):Prop where
  l0:0≤s.2.1
  l1:s.2.1<35184372088832
theorem serOk_at {c:Conf} {s:Ser} (h:SerOk c s) (hn:¬(s.2.1 = -1)):0≤s.2.1∧s.2.1<35184372088832:=by
  obtain ⟨_,e,he,h1⟩:=serOk_ends h hn
  rw[←h1];exact ⟨he.t0,he.t1⟩
theorem quo_at {t:Int} (ht:0≤t∧t<35184372088832) {w:Int} (hw:1≤w):IntKind.wrap .i64 (Int.tdiv t w)=t / w:=by
  have:0≤t / w:=Int.ediv_nonneg ht.1 (by omega)
  have:t / w≤t:=Int.ediv_le_self _ ht.1
  rw[tdiv_nn ht.1,w64 (by omega) (by omega)]
theorem nz {w:Int} (h:1≤w):¬(w=0):=by omega
theorem kept_now0 (n:Nat) (c:Conf) (s:Ser):srk_now (n+1) (c,s) 0=some (s.2.2.2.2.2,0):=by rw[srk_now_eq_0]
theorem mrgE_nn (a b:Cel):0≤(mrgE a b).2:=by
  unfold mrgE;split
  · split<;>simp
  · simp
theorem kept_now1 (n:Nat) (c:Conf) {s:Ser} (h:SerOk c s) (hw:SerW s) (hn:¬(s.2.1 = -1)):srk_now (n+19) (c,s) 1=some (now1 c s):=by
  have hr:=h.fold.cok.rng
  have ht:=serOk_at h hn
  obtain ⟨o1,o2,o3,o4⟩:=over_range hr.w0 hr.w1 h.fold.cok.m1 ht
  rw[srk_now_eq_1]
  simp only[tfd,tfn,if_neg (nz hr.w0.1),if_neg (nz hr.w1.1),quo_at ht hr.w0.1,quo_at ht hr.w1.1,quo_w hr.w1 hr.w0.1]
  rw[w64 (by omega) (by omega),tier_fold n h.fold.t0,kept_now0 (n+17)]
  simp only[obs,tfold_none h.fold.t0 o1 o2,if_true,cell_merge (n+12) (tfold_w _ _ _) hw.opn.c]
  rfl
theorem now1_w (c:Conf) (s:Ser):CelW (now1 c s).1:=mrgE_w _ _
theorem kept_now2 (n:Nat) (c:Conf) {s:Ser} (h:SerOk c s) (hw:SerW s) (hn:¬(s.2.1 = -1)):srk_now (n+20) (c,s) 2=some (now2 c s):=by
  have hr:=h.fold.cok.rng
  have ht:=serOk_at h hn
  obtain ⟨o1,o2,o3,o4⟩:=over_range hr.w1 hr.w2 h.fold.cok.m2 ht
  rw[srk_now_eq_2]
  simp only[tfd,tfn,if_neg (nz hr.w1.1),if_neg (nz hr.w2.1),quo_at ht hr.w1.1,quo_at ht hr.w2.1,quo_w hr.w2 hr.w1.1]
  rw[w64 (by omega) (by omega),tier_fold (n+1) h.fold.t1,kept_now1 n c h hw hn]
  simp only[obs,tfold_none h.fold.t1 o1 o2,if_true,cell_merge (n+13) (tfold_w _ _ _) (now1_w c s)]
  unfold now2
  by_cases k:(now1 c s).2=0
  · rw[if_pos k,if_neg (nn k)]
  · have:0≤(now1 c s).2:=mrgE_nn _ _
    rw[if_neg k,if_pos k,if_pos (by omega)];rfl
theorem one0 (n:Nat) (c:Conf) {s:Ser} (h:SerOk c s) (hn:¬(s.2.1 = -1)) (i:Int) (hi:0≤i):r15_one (n+3) c s 0 i=some (if s.2.1 / c.2.1.1<i then (z0,0) else if i<s.2.1 / c.2.1.1 then (tget s.2.2.2.1.1 i,0) else (s.2.2.2.2.2,0)):=by
  have hr:=h.fold.cok.rng
  have ht:=serOk_at h hn
  rw[r15_one_eq_0]
  simp only[tfd,if_neg hn,if_neg (nz hr.w0.1),quo_at ht hr.w0.1,r13_get n h.fold.t0.l0,obs]
  split
  · rfl
  · split<;>rfl
theorem one1 (n:Nat) (c:Conf) {s:Ser} (h:SerOk c s) (hw:SerW s) (hn:¬(s.2.1 = -1)) (i:Int) (hi:0≤i):r15_one (n+8) c s 1 i=some (if s.2.1 / c.2.1.2.1<i then (z0,0) else if i<s.2.1 / c.2.1.2.1 then (tget s.2.2.2.1.2.1 i,0) else now1 c s):=by
  have hr:=h.fold.cok.rng
  have ht:=serOk_at h hn
  obtain ⟨o1,o2,o3,o4⟩:=over_range hr.w0 hr.w1 h.fold.cok.m1 ht
  rw[r15_one_eq_1]
  simp only[tfd,tfn,if_neg hn,if_neg (nz hr.w0.1),if_neg (nz hr.w1.1),quo_at ht hr.w0.1,quo_at ht hr.w1.1,r13_get (n+5) h.fold.t1.l0,obs]
  by_cases k1:s.2.1 / c.2.1.2.1<i
  · rw[if_pos k1,if_pos k1];rfl
  rw[if_neg k1,if_neg k1]
  by_cases k2:i<s.2.1 / c.2.1.2.1
  · rw[if_pos k2,if_pos k2]
  rw[if_neg k2,if_neg k2]
  have e:i=s.2.1 / c.2.1.2.1:=by omega
  subst e
  rw[r10_factor1 (n+3) h.fold.cok]
  simp only[obs]
  rw[w64 (by omega) (by omega),r13_fold n h.fold.t0]
  simp only[obs,tfold_none h.fold.t0 o1 o2,if_true]
  rw[one0 (n+4) c h hn _ o4,if_neg (by omega),if_neg (by omega)]
  simp only[obs,if_true,r08_merge (n+2) (tfold_w _ _ _) hw.opn.c]
  rfl
end Go.Proofs.YtefpnjjbopdplaaGreatDoor
