/-
 Plain proofs about the functions of this seat, part 3 of 3.
-/
import Derived.Test.YtfibfcjepngbmaaGreatDoorQ2
import Derived.Test.YtfibfcjepngbmaaGreatDoorTr
namespace Go.Proofs.YtfibfcjepngbmaaGreatDoor
open Go.Flat
set_option linter.unusedVariables false
theorem a1c (n:Nat)  : y0o (n+1)  =
 a0a (z1h n ) fun r0 =>
 a0a (w1o n r0) fun r1 =>
 tif ((!(decide (r1.2=(0:Int))))) (
 some false) (
 a0a (d0r n ((((((97:UInt8)::[]),[])::[]),((3:Int),((1:Int),((0:Int),false))))::((((((98:UInt8)::[]),[])::[]),((4:Int),((0:Int),((0:Int),false))))::((((((97:UInt8)::[]),[])::[]),((3:Int),((1:Int),((0:Int),false))))::[])))) fun r2 =>
 a0a (d0r n ((((((97:UInt8)::[]),[])::[]),((3:Int),((1:Int),((0:Int),false))))::((((((98:UInt8)::[]),[])::[]),((4:Int),((0:Int),((0:Int),false))))::((((((97:UInt8)::[]),[])::[]),((5:Int),((9:Int),((0:Int),false))))::[])))) fun r3 =>
 a0a (d0r n []) fun r4 =>
 a0a (h0g n ((((((97:UInt8)::[]),[])::[]),((3:Int),((1:Int),((0:Int),false))))::((((((98:UInt8)::[]),[])::[]),((4:Int),((0:Int),((0:Int),false))))::((((((97:UInt8)::[]),[])::[]),((5:Int),((9:Int),((0:Int),false))))::[])))) fun r5 =>
 a0a (h0f n (1:Int) ((((((97:UInt8)::[]),[])::[]),((3:Int),((1:Int),((0:Int),false))))::((((((98:UInt8)::[]),[])::[]),((4:Int),((0:Int),((0:Int),false))))::((((((97:UInt8)::[]),[])::[]),((5:Int),((9:Int),((0:Int),false))))::[])))) fun r6 =>
 a0a (h0f n (2:Int) ((((((97:UInt8)::[]),[])::[]),((3:Int),((1:Int),((0:Int),false))))::((((((98:UInt8)::[]),[])::[]),((4:Int),((0:Int),((0:Int),false))))::((((((97:UInt8)::[]),[])::[]),((5:Int),((9:Int),((0:Int),false))))::[])))) fun r7 =>
 a0a (j0k n r1.1 ((((((97:UInt8)::[]),[])::[]),((3:Int),((1:Int),((0:Int),false))))::((((((98:UInt8)::[]),[])::[]),((4:Int),((0:Int),((0:Int),false))))::((((((97:UInt8)::[]),[])::[]),((3:Int),((1:Int),((0:Int),false))))::((((((97:UInt8)::[]),[])::[]),((5:Int),((9:Int),((0:Int),false))))::[]))))) fun r8 =>
 tif ((!(decide ((((List.length r6):Nat):Int)=(3:Int))))) (
 some false) (
 tif ((!(decide ((((List.length r7):Nat):Int)=(1:Int))))) (
 some false) (
 tif ((!(decide ((((List.length r8.1.2.2.2):Nat):Int)=(3:Int))))) (
 some false) (
 tif ((decide (r2.1=(2:Int)))) (
 tif ((decide (r2.2=(9:Int)))) (
 tif ((decide (r3.1=(0:Int)))) (
 tif ((decide (r3.2=(0:Int)))) (
 tif ((decide (r4.2=(6:Int)))) (
 a0a (h0v n r5 ((((((97:UInt8)::[]),[])::[]),((3:Int),((1:Int),((0:Int),false))))::((((((97:UInt8)::[]),[])::[]),((5:Int),((9:Int),((0:Int),false))))::((((((98:UInt8)::[]),[])::[]),((4:Int),((0:Int),((0:Int),false))))::[])))) fun r9 =>
 tif (r9) (
 a0a (at? r7 (0:Int)) fun r10 =>
 tif ((decide ((((List.length r10):Nat):Int)=(3:Int)))) (
 a0a (h0f n (0:Int) ((((((97:UInt8)::[]),[])::[]),((3:Int),((1:Int),((0:Int),false))))::[])) fun r11 =>
 tif ((decide ((((List.length r11):Nat):Int)=(0:Int)))) (
 a0a (p0z n r1.1.1) fun r12 =>
 tif ((decide (r12=(1:Int)))) (
 a0a (p0z n ((0:Int),(((0:Int),((0:Int),(0:Int))),(((0:Int),((0:Int),(0:Int))),((0:Int),(0:Int)))))) fun r13 =>
 tif ((decide (r13=(0:Int)))) (
 a0a (q0p n r8.2 ((0:Int)::((0:Int)::((9:Int)::((0:Int)::[]))))) fun r14 =>
 tif (r14) (
 a0a (p1s n r8.1) fun r15 =>
 tif ((decide (r15=(2:Int)))) (
 a0a (at? r8.1.2.2.2 (0:Int)) fun r16 =>
 some (decide (r16.2.1=(5:Int)))) (
 some false)) (
 some false)) (
 some false)) (
 some false)) (
 some false)) (
 some false)) (
 some false)) (
 some false)) (
 some false)) (
 some false)) (
 some false)) (
 some false))))):=by kernel_rfl
abbrev zC:Int×((Int×(Int×(Int×Bool)))×((Int×(Int×(Int×Bool)))×((Int×Int)×(Int×(Int×Int))))):=(0,((0,(0,(0,false))),((0,(0,(0,false))),((0,0),(0,(0,0))))))
abbrev zS:Int×(Int×((Int×(Int×(Int×Bool)))×((Int×(Int×(Int×Bool)))×((Int×Int)×(Int×(Int×Int)))))):=(0,zC)
abbrev c0e:a0s:=((20,((10,(20,60)),((4,(5,6)),(3,9)))),(0,((-1),[([([97],[])],(5,((0,(0,[(3,(1,(0,false))),(5,(9,(0,false)))])),(([zS,zS,zS,zS],([zS,zS,zS,zS,zS],[zS,zS,zS,zS,zS,zS])),(0,(2,((3,(1,(0,false))),((5,(9,(0,false))),((0,8),(0,(0,2))))))))))),([([98],[])],(4,((0,(0,[(4,(0,(0,false)))])),(([zS,zS,zS,zS],([zS,zS,zS,zS,zS],[zS,zS,zS,zS,zS,zS])),(0,(1,((4,(0,(0,false))),((4,(0,(0,false))),((0,0),(0,(0,0))))))))))),([],(0,((0,(0,[])),(([],([],[])),zS))))])))
abbrev f0p:a0s:=((20,((10,(20,60)),((4,(5,6)),(3,9)))),(0,((-1),[([([97],[])],(3,((0,(0,[(3,(1,(0,false)))])),(([zS,zS,zS,zS],([zS,zS,zS,zS,zS],[zS,zS,zS,zS,zS,zS])),(0,(1,((3,(1,(0,false))),((3,(1,(0,false))),((0,0),(0,(0,0))))))))))),([([98],[])],(4,((0,(0,[(4,(0,(0,false)))])),(([zS,zS,zS,zS],([zS,zS,zS,zS,zS],[zS,zS,zS,zS,zS,zS])),(0,(1,((4,(0,(0,false))),((4,(0,(0,false))),((0,0),(0,(0,0))))))))))),([],(0,((0,(0,[])),(([],([],[])),zS))))])))
abbrev l0b:a0s:=((20,((10,(20,60)),((4,(5,6)),(3,9)))),(0,((-1),[([([97],[])],(3,((0,(0,[(3,(1,(0,false)))])),(([zS,zS,zS,zS],([zS,zS,zS,zS,zS],[zS,zS,zS,zS,zS,zS])),(0,(1,((3,(1,(0,false))),((3,(1,(0,false))),((0,0),(0,(0,0))))))))))),([],(0,((0,(0,[])),(([],([],[])),zS)))),([],(0,((0,(0,[])),(([],([],[])),zS))))])))
theorem f1r (n:Nat):z1h (n+59)=some (20,((10,(20,60)),((4,(5,6)),(3,9)))):=by kernel_rfl
theorem f1q (n:Nat):w1o (n+59) (20,((10,(20,60)),((4,(5,6)),(3,9))))=some (((20,((10,(20,60)),((4,(5,6)),(3,9)))),(0,((-1),[([],(0,((0,(0,[])),(([],([],[])),zS)))),([],(0,((0,(0,[])),(([],([],[])),zS)))),([],(0,((0,(0,[])),(([],([],[])),zS))))]))),0):=by kernel_rfl
theorem f1p (n:Nat):d0r (n+59) [([([97],[])],(3,(1,(0,false)))),([([98],[])],(4,(0,(0,false)))),([([97],[])],(3,(1,(0,false))))]=some (2,9):=by kernel_rfl
theorem f1o (n:Nat):d0r (n+59) [([([97],[])],(3,(1,(0,false)))),([([98],[])],(4,(0,(0,false)))),([([97],[])],(5,(9,(0,false))))]=some (0,0):=by kernel_rfl
theorem f1n (n:Nat):d0r (n+59) []=some (0,6):=by kernel_rfl
theorem f1m (n:Nat):h0g (n+59) [([([97],[])],(3,(1,(0,false)))),([([98],[])],(4,(0,(0,false)))),([([97],[])],(5,(9,(0,false))))]=some [([([97],[])],(3,(1,(0,false)))),([([97],[])],(5,(9,(0,false)))),([([98],[])],(4,(0,(0,false))))]:=by kernel_rfl
theorem f1l (n:Nat):h0f (n+59) (1) [([([97],[])],(3,(1,(0,false)))),([([98],[])],(4,(0,(0,false)))),([([97],[])],(5,(9,(0,false))))]=some [[([([97],[])],(3,(1,(0,false))))],[([([98],[])],(4,(0,(0,false))))],[([([97],[])],(5,(9,(0,false))))]]:=by kernel_rfl
theorem f1k (n:Nat):h0f (n+59) (2) [([([97],[])],(3,(1,(0,false)))),([([98],[])],(4,(0,(0,false)))),([([97],[])],(5,(9,(0,false))))]=some [[([([97],[])],(3,(1,(0,false)))),([([98],[])],(4,(0,(0,false)))),([([97],[])],(5,(9,(0,false))))]]:=by kernel_rfl
theorem f1j (n:Nat):j0n (n+58) ((20,((10,(20,60)),((4,(5,6)),(3,9)))),(0,((-1),[([],(0,((0,(0,[])),(([],([],[])),zS)))),([],(0,((0,(0,[])),(([],([],[])),zS)))),([],(0,((0,(0,[])),(([],([],[])),zS))))]))) [([97],[])] (3,(1,(0,false)))=some (l0b,0):=by kernel_rfl
theorem f1i (n:Nat):j0n (n+58) l0b [([98],[])] (4,(0,(0,false)))=some (f0p,0):=by kernel_rfl
theorem a1q (n:Nat):j0n (n+58) f0p [([97],[])] (3,(1,(0,false)))=some (((0,((0,(0,0)),((0,(0,0)),(0,0)))),(0,(0,[]))),9):=by kernel_rfl
theorem a1p (n:Nat):j0n (n+58) f0p [([97],[])] (5,(9,(0,false)))=some (c0e,0):=by kernel_rfl
theorem a1o (n f:Nat):c0f (n+58) (f+1) (c0e,(((0,((0,(0,0)),((0,(0,0)),(0,0)))),(0,(0,[]))),([0,0,9,0],([([([97],[])],(3,(1,(0,false)))),([([98],[])],(4,(0,(0,false)))),([([97],[])],(3,(1,(0,false)))),([([97],[])],(5,(9,(0,false))))],(4,(4,()))))))=some (.inl (c0e,(((0,((0,(0,0)),((0,(0,0)),(0,0)))),(0,(0,[]))),([0,0,9,0],())))):=by
 rw[c0n];refine tf (by kernel_rfl) ?_
 kernel_rfl
theorem a1n (n f:Nat):c0f (n+58) (f+2) (f0p,(((0,((0,(0,0)),((0,(0,0)),(0,0)))),(0,(0,[]))),([0,0,9,0],([([([97],[])],(3,(1,(0,false)))),([([98],[])],(4,(0,(0,false)))),([([97],[])],(3,(1,(0,false)))),([([97],[])],(5,(9,(0,false))))],(4,(3,()))))))=some (.inl (c0e,(((0,((0,(0,0)),((0,(0,0)),(0,0)))),(0,(0,[]))),([0,0,9,0],())))):=by
 rw[c0n];refine tt (by kernel_rfl) ?_;refine ob (x:=([([97],[])],(5,(9,(0,false))))) (by kernel_rfl) ?_;refine ob (a1p (n+0)) ?_;refine ob (x:=0) (by kernel_rfl) ?_;refine ob (x:=0) (by kernel_rfl) ?_;refine tt (by kernel_rfl) ?_;exact a1o n f
theorem a1m (n f:Nat):c0f (n+58) (f+3) (f0p,(((0,((0,(0,0)),((0,(0,0)),(0,0)))),(0,(0,[]))),([0,0,0,0],([([([97],[])],(3,(1,(0,false)))),([([98],[])],(4,(0,(0,false)))),([([97],[])],(3,(1,(0,false)))),([([97],[])],(5,(9,(0,false))))],(4,(2,()))))))=some (.inl (c0e,(((0,((0,(0,0)),((0,(0,0)),(0,0)))),(0,(0,[]))),([0,0,9,0],())))):=by
 rw[c0n];refine tt (by kernel_rfl) ?_;refine ob (x:=([([97],[])],(3,(1,(0,false))))) (by kernel_rfl) ?_;refine ob (a1q (n+0)) ?_;refine ob (x:=0) (by kernel_rfl) ?_;refine ob (x:=0) (by kernel_rfl) ?_;refine tf (by kernel_rfl) ?_;exact a1n n f
theorem a1l (n f:Nat):c0f (n+58) (f+4) (l0b,(((0,((0,(0,0)),((0,(0,0)),(0,0)))),(0,(0,[]))),([0,0,0,0],([([([97],[])],(3,(1,(0,false)))),([([98],[])],(4,(0,(0,false)))),([([97],[])],(3,(1,(0,false)))),([([97],[])],(5,(9,(0,false))))],(4,(1,()))))))=some (.inl (c0e,(((0,((0,(0,0)),((0,(0,0)),(0,0)))),(0,(0,[]))),([0,0,9,0],())))):=by
 rw[c0n];refine tt (by kernel_rfl) ?_;refine ob (x:=([([98],[])],(4,(0,(0,false))))) (by kernel_rfl) ?_;refine ob (f1i (n+0)) ?_;refine ob (x:=0) (by kernel_rfl) ?_;refine ob (x:=0) (by kernel_rfl) ?_;refine tt (by kernel_rfl) ?_;exact a1m n f
theorem a1k (n f:Nat):c0f (n+58) (f+5) (((20,((10,(20,60)),((4,(5,6)),(3,9)))),(0,((-1),[([],(0,((0,(0,[])),(([],([],[])),zS)))),([],(0,((0,(0,[])),(([],([],[])),zS)))),([],(0,((0,(0,[])),(([],([],[])),zS))))]))),(((0,((0,(0,0)),((0,(0,0)),(0,0)))),(0,(0,[]))),([0,0,0,0],([([([97],[])],(3,(1,(0,false)))),([([98],[])],(4,(0,(0,false)))),([([97],[])],(3,(1,(0,false)))),([([97],[])],(5,(9,(0,false))))],(4,(0,()))))))=some (.inl (c0e,(((0,((0,(0,0)),((0,(0,0)),(0,0)))),(0,(0,[]))),([0,0,9,0],())))):=by
 rw[c0n];refine tt (by kernel_rfl) ?_;refine ob (x:=([([97],[])],(3,(1,(0,false))))) (by kernel_rfl) ?_;refine ob (f1j (n+0)) ?_;refine ob (x:=0) (by kernel_rfl) ?_;refine ob (x:=0) (by kernel_rfl) ?_;refine tt (by kernel_rfl) ?_;exact a1l n f
theorem a1j (n:Nat):j0k (n+59) ((20,((10,(20,60)),((4,(5,6)),(3,9)))),(0,((-1),[([],(0,((0,(0,[])),(([],([],[])),zS)))),([],(0,((0,(0,[])),(([],([],[])),zS)))),([],(0,((0,(0,[])),(([],([],[])),zS))))]))) [([([97],[])],(3,(1,(0,false)))),([([98],[])],(4,(0,(0,false)))),([([97],[])],(3,(1,(0,false)))),([([97],[])],(5,(9,(0,false))))]=some (c0e,[0,0,9,0]):=by
 rw[t0p];refine tt (by kernel_rfl) ?_;refine ob (atFuel (h:=by unfold a0b;omega) (a1k n (a0b-5))) ?_;refine Eq.trans (b0p ..) ?_
 kernel_rfl
theorem a1i (n:Nat):h0v (n+59) [([([97],[])],(3,(1,(0,false)))),([([97],[])],(5,(9,(0,false)))),([([98],[])],(4,(0,(0,false))))] [([([97],[])],(3,(1,(0,false)))),([([97],[])],(5,(9,(0,false)))),([([98],[])],(4,(0,(0,false))))]=some true:=by kernel_rfl
theorem a1h (n:Nat):h0f (n+59) (0) [([([97],[])],(3,(1,(0,false))))]=some []:=by kernel_rfl
theorem a1g (n:Nat):p0z (n+59) (20,((10,(20,60)),((4,(5,6)),(3,9))))=some 1:=by kernel_rfl
theorem a1f (n:Nat):p0z (n+59) (0,((0,(0,0)),((0,(0,0)),(0,0))))=some 0:=by kernel_rfl
theorem a1e (n:Nat):q0p (n+59) [0,0,9,0] [0,0,9,0]=some true:=by kernel_rfl
theorem a1d (n:Nat):p1s (n+59) c0e=some 2:=by kernel_rfl
theorem a1v (n:Nat):y0o (n+60)=some true:=by
 rw[a1c];refine ob (f1r (n+0)) ?_;refine ob (f1q (n+0)) ?_;refine tf (by kernel_rfl) ?_;refine ob (f1p (n+0)) ?_;refine ob (f1o (n+0)) ?_;refine ob (f1n (n+0)) ?_;refine ob (f1m (n+0)) ?_;refine ob (f1l (n+0)) ?_;refine ob (f1k (n+0)) ?_;refine ob (a1j n) ?_;refine tf (by kernel_rfl) ?_;refine tf (by kernel_rfl) ?_;refine tf (by kernel_rfl) ?_;refine tt (by kernel_rfl) ?_;refine tt (by kernel_rfl) ?_;refine tt (by kernel_rfl) ?_;refine tt (by kernel_rfl) ?_;refine tt (by kernel_rfl) ?_
 refine ob (a1i (n+0)) ?_;refine tt (by kernel_rfl) ?_;refine ob (x:=[([([97],[])],(3,(1,(0,false)))),([([98],[])],(4,(0,(0,false)))),([([97],[])],(5,(9,(0,false))))]) (by kernel_rfl) ?_;refine tt (by kernel_rfl) ?_;refine ob (a1h (n+0)) ?_;refine tt (by kernel_rfl) ?_;refine ob (a1g (n+0)) ?_;refine tt (by kernel_rfl) ?_;refine ob (a1f (n+0)) ?_;refine tt (by kernel_rfl) ?_;refine ob (a1e (n+0)) ?_;refine tt (by kernel_rfl) ?_;refine ob (a1d (n+0)) ?_;refine tt (by kernel_rfl) ?_
 refine ob (x:=([([97],[])],(5,((0,(0,[(3,(1,(0,false))),(5,(9,(0,false)))])),(([zS,zS,zS,zS],([zS,zS,zS,zS,zS],[zS,zS,zS,zS,zS,zS])),(0,(2,((3,(1,(0,false))),((5,(9,(0,false))),((0,8),(0,(0,2)))))))))))) (by kernel_rfl) ?_
 kernel_rfl
end Go.Proofs.YtfibfcjepngbmaaGreatDoor
namespace Go.Proofs.YtfibfcjepngbmaaGreatDoor
open Go.Flat Go.Plim
set_option linter.unusedVariables false
set_option linter.unusedSimpArgs false
theorem rows_wf {rows:List c0o} (h:Wf (.slice b0i) rows):(∀x∈rows,x.1.length≤9223372036854775807)∧∀x∈rows,EvW x.2:=by
 refine ⟨fun x hx => ?_,fun x hx => ?_⟩
 ·obtain ⟨h1,_⟩:=h.2 x hx;have:=h1.1
  simpa only [maxLen] using this
 ·obtain ⟨_,h2⟩:=h.2 x hx;exact ev_wf h2
theorem write_at {s:Sta} {m:List Lab} {f:Ev} {j:Nat} {b:Bool} {x:Ser} (h:d0f s m f=((j:Int),(b,0))) (hx:xOf s m ((j:Int),(b,0))=x) :
  c0g s m f=if (putE s.1 x f).2≠0 then (sta0,(putE s.1 x f).2) else (setS s j (putE s.1 x f).1,0):=by
 unfold c0g;rw[h,hx,if_neg (show ¬(((j:Int),(b,(0:Int))).2.2≠0) from fun k=>k rfl)];rfl
theorem x1h {s:Sta} {i j:Nat} (hij:i≠j) (y z:Ser):setS (setS s i y) j z=setS (setS s j z) i y:=by
 unfold setS;simp only[List.set_comm _ _ hij]
theorem k1t {s:Sta} {i j:Nat} (hij:i≠j) {l m:List Lab} (hlm:l≠m) (hj:i0d s m=some j) {y:Ser} (hy:y.1=l):i0d (setS s i y) m=some j:=by
 obtain ⟨x,hx,h1,h2,h3⟩:=g0b.1 hj;refine g0b.2 ⟨x,by rw[g0h,if_neg hij];exact hx,h1,h2,fun k hk z hz hn => ?_⟩;rw[g0h] at hz;by_cases hik:i=k
 ·rw[if_pos hik] at hz;split at hz
  ·cases hz;exact hlm (hy.symm.trans hn.1)
  ·cases hz
 ·rw[if_neg hik] at hz;exact h3 k hk z hz hn
structure Wrote (u:Sta) (l:List Lab) (e:Ev) (t:Sta) (i:Nat) (x:Ser) (b:Bool) (y:Ser):Prop where
 g:Goes u l e
 p:PlaceAt u l e i x b
 q:putE u.1 x e=(y,0)
 tt:t=setS u i y
 ok:StaOk t
 lb:y.1=l
 lv:LvX u y
 at_:t.2.2.2[i]? = some y
 tm:y.2.1=e.1
 xl:x.2.1<e.1
theorem wrote {u t:Sta} {l:List Lab} {e:Ev} (h:c0g u l e=(t,0)):∃i x b y,Wrote u l e t i x b y:=by
 have hok:=m1n h;obtain ⟨hg,i,z,b,y,hp,hput,rfl,_⟩:=d1l h;obtain ⟨p1,p2,p3,p4⟩:=w0s hg hp;obtain ⟨q1,q2,q3,q4,q5⟩:=x0y p1 hput;have hne:y≠ser0:=fun k=>by
  have e1:y.1=[]:=congrArg Prod.fst k;have:=q1.lab.n0;rw[e1] at this;simp at this
 exact ⟨i,z,b,y,hg,hp,hput,rfl,hok,q5.trans p2,y1p hg.st hne (by rw[q4];exact hg.lo) (by rw[q4];exact hg.ev.t1),by rw[g0h,if_pos rfl,if_pos p3],q4,p4⟩
theorem p1n {u:Sta} {l:List Lab} {e:Ev} {i:Nat} {x:Ser} {b:Bool} {y:Ser} (hg:Goes u l e) (hp:PlaceAt u l e i x b) (hput:putE u.1 x e=(y,0)):c0g u l e=(setS u i y,0):=by
 have hw:d0f u l e=((i:Int),(b,0))∧xOf u l ((i:Int),(b,0))=x:=by
  unfold d0f;rw[if_neg (fun k=>k hg.st),if_neg (fun k=>k hg.lab),if_neg (fun k=>k hg.ev),if_neg (by have:=hg.lo;have:=hg.hi;omega)];cases hp with
  | found hf hx hl hlv ht =>
   rw[hf];simp only[hx,Option.getD_some];rw[if_neg (by omega)];exact ⟨rfl,by unfold xOf;simp[hx]⟩
  | room hf hs hr =>
   rw[hf,hr];simp only;rw[if_neg (by rw[hs];simp)];exact ⟨rfl,by unfold xOf;rw[if_pos rfl,o1b hg.st.whole.1 hg.lab]⟩
 rw[write_at hw.1 hw.2,hput];exact if_neg fun k=>k rfl
theorem Wrote.found {u t:Sta} {l:List Lab} {e:Ev} {i x b y} (h:Wrote u l e t i x b y):i0d t l=some i:=by
 have:=a2j h.ok h.at_ (by rw[h.tt];exact h.lv);rw[h.lb] at this;exact this
theorem Wrote.ne {u t:Sta} {l m:List Lab} {e:Ev} {i x b y} (h:Wrote u l e t i x b y) (hlm:l≠m) {j:Nat} (hj:i0d u m=some j):i≠j:=by
 obtain ⟨z,hz,z1,z2,_⟩:=g0b.1 hj;rintro rfl;cases h.p with
 | found hf hx hl hlv ht=>rw[hx] at hz;cases hz;exact hlm (hl.symm.trans z1)
 | room hf hs hr =>
  obtain ⟨w,hw,hn,_⟩:=l0k.1 hr;rw[hz] at hw;cases hw;exact hn z2
theorem Wrote.kept {u t:Sta} {l m:List Lab} {e:Ev} {i x b y} (h:Wrote u l e t i x b y) (hlm:l≠m) {j:Nat} (hj:i0d u m=some j):i0d t m=some j∧t.2.2.2[j]? = u.2.2.2[j]? := by
 have hij:=h.ne hlm hj;rw[h.tt];exact ⟨k1t hij hlm hj h.lb,by rw[g0h,if_neg hij]⟩
theorem w1m {u u1 u2:Sta} {l m:List Lab} {e f:Ev} (hlm:l≠m) {j:Nat} (hj:i0d u m=some j) (h1:c0g u l e=(u1,0)) (h2:c0g u1 m f=(u2,0)):∃v,c0g u m f=(v,0)∧c0g v l e=(u2,0):=by
 obtain ⟨i,x,b,y,A⟩:=wrote h1;obtain ⟨j',x',b',z,B⟩:=wrote h2;obtain ⟨k1,k2⟩:=A.kept hlm hj;have hij:=A.ne hlm hj;have hu1:u1.1=u.1:=by rw[A.tt];rfl
 have hpm:PlaceAt u m f j x' false∧j'=j:=by
  cases B.p with
  | found hf hx hl hlv ht =>
   rw[k1] at hf;cases hf;rw[k2] at hx;exact ⟨.found hj hx hl (by rw[A.tt] at hlv;exact hlv) ht,rfl⟩
  | room hf hs hr=>rw[k1] at hf;cases hf
 obtain ⟨hpm,rfl⟩:=hpm;have hgm:Goes u m f:=⟨A.g.st,B.g.lab,B.g.ev,by have:=B.g.lo;rw[A.tt] at this;exact this,by have:=B.g.hi;rw[A.tt] at this;exact this⟩;have hqm:putE u.1 x' f=(z,0):=by have:=B.q;rw[hu1] at this;exact this
 have hv:=p1n hgm hpm hqm;obtain ⟨j2,x2,b2,z2,C⟩:=wrote hv;have hzl:LvX u z:=by have:=B.lv;rw[A.tt] at this;exact this
 refine ⟨setS u j' z,hv,?_⟩;have hgl:Goes (setS u j' z) l e:=⟨C.ok,A.g.lab,A.g.ev,A.g.lo,A.g.hi⟩;have hpl:PlaceAt (setS u j' z) l e i x b:=by
  cases A.p with
  | found hf hx hl hlv ht=>exact .found (k1t (Ne.symm hij) (Ne.symm hlm) hf B.lb) (by rw[g0h,if_neg (Ne.symm hij)];exact hx) hl hlv ht
  | room hf hs hr =>
   refine .room ?_ hs ?_
   ·refine l0t.2 fun w hw hn => ?_
    obtain ⟨k,hk⟩:=List.mem_iff_getElem?.1 hw;rw[g0h] at hk;by_cases hjk:j'=k
    ·rw[if_pos hjk] at hk;split at hk
     ·cases hk;exact hlm (hn.1.symm.trans B.lb)
     ·cases hk
    ·rw[if_neg hjk] at hk;exact l0t.1 hf w (List.mem_of_getElem? hk) hn
   ·obtain ⟨w,hw,hn,hfst⟩:=l0k.1 hr;refine l0k.2 ⟨w,by rw[g0h,if_neg (Ne.symm hij)];exact hw,hn,fun k hk v hv => ?_⟩;rw[g0h] at hv;by_cases hjk:j'=k
    ·rw[if_pos hjk] at hv;split at hv
     ·cases hv;exact hzl
     ·cases hv
    ·rw[if_neg hjk] at hv;exact hfst k hk v hv
 rw[p1n hgl hpl A.q,B.tt,A.tt,x1h hij]
noncomputable def runV:Sta→List (List Lab×Ev)→Option Sta
 | s,[]=>some s
 | s,x::r=>if (c0g s x.1 x.2).2=0 then runV (c0g s x.1 x.2).1 r else none
theorem i0x {s t:Sta} {x:List Lab×Ev} {r:List (List Lab×Ev)}:runV s (x::r)=some t↔∃u,c0g s x.1 x.2=(u,0)∧runV u r=some t:=by
 rw[runV];constructor
 ·intro h;split at h
  ·rename_i h0;exact ⟨_,Prod.ext rfl h0,h⟩
  ·cases h
 ·rintro ⟨u,h1,h2⟩;rw[h1];exact h2
theorem r0c {t:Sta}:∀ {a:List (List Lab×Ev)} {s:Sta} {b:List (List Lab×Ev)},runV s (a++b)=some t↔∃u,runV s a=some u∧runV u b=some t:=by
 intro a;induction a with
 | nil=>intro s b;simp[runV]
 | cons x a ih =>
  intro s b;rw[List.cons_append,i0x];constructor
  ·rintro ⟨u,h1,h2⟩;obtain ⟨v,k1,k2⟩:=ih.1 h2;exact ⟨v,i0x.2 ⟨u,h1,k1⟩,k2⟩
  ·rintro ⟨v,k1,k2⟩;obtain ⟨u,h1,h2⟩:=i0x.1 k1;exact ⟨u,h1,ih.2 ⟨v,h2,k2⟩⟩
theorem x1m {s t:Sta} {x:List Lab×Ev}:runV s [x]=some t↔c0g s x.1 x.2=(t,0):=by
 rw[i0x];simp[runV]
theorem j1c {s t:Sta} {a:List (List Lab×Ev)}:runV s a=some t→∀y∈a,∃j z,i0d t y.1=some j∧t.2.2.2[j]? = some z∧y.2.1≤z.2.1:=by
 induction a using list_snoc generalizing t with
 | h0=>intro _ y hy;simp at hy
 | h1 a x ih =>
  intro h y hy;obtain ⟨u,h1,h2⟩:=r0c.1 h;obtain ⟨i,w,b,z,A⟩:=wrote (x1m.1 h2);by_cases e:x.1=y.1
  ·rw[←e];refine ⟨i,z,A.found,A.at_,?_⟩;rw[A.tm];rcases List.mem_append.1 hy with hy | hy
   ·obtain ⟨j,v,k1,k2,k3⟩:=ih h1 y hy;rw[←e] at k1;have hxl:=A.xl;cases A.p with
    | found hf hx hl hlv ht=>rw[k1] at hf;cases hf;rw[k2] at hx;cases hx;omega
    | room hf hs hr=>rw[k1] at hf;cases hf
   ·simp at hy;subst hy;exact Int.le_refl _
  ·have hy:y∈a:=by
    rcases List.mem_append.1 hy with hy | hy
    ·exact hy
    ·simp at hy;subst hy;exact absurd rfl e
   obtain ⟨j,v,k1,k2,k3⟩:=ih h1 y hy;obtain ⟨m1,m2⟩:=A.kept e k1;exact ⟨j,v,m1,m2.trans k2,k3⟩
theorem run_back {x:List Lab×Ev}:∀ {post:List (List Lab×Ev)} {u t:Sta} {j:Nat},i0d u x.1=some j→(∀y∈post,y.1≠x.1)→runV u (post++[x])=some t→runV u (x::post)=some t:=by
 intro post;induction post with
 | nil=>intro u t j _ _ h;exact h
 | cons y post ih =>
  intro u t j hj hne h;obtain ⟨u1,h1,h2⟩:=i0x.1 h;obtain ⟨i,w,b,z,A⟩:=wrote h1;have h3:=ih (A.kept (hne y (by simp)) hj).1 (fun v hv=>hne v (by simp[hv])) h2;obtain ⟨u2,h4,h5⟩:=i0x.1 h3;obtain ⟨v,k1,k2⟩:=w1m (hne y (by simp)) hj h1 h4;exact i0x.2 ⟨v,k1,i0x.2 ⟨u2,k2,h5⟩⟩
theorem run_grp {s:Sta} {l:List (List Lab×Ev)}:∀ {t:Sta},runV s l=some t→runV s (grpV l)=some t:=by
 induction l using list_snoc with
 | h0=>intro t h;exact h
 | h1 l x ih =>
  intro t h;obtain ⟨u,h1,h2⟩:=r0c.1 h;have h3:=ih h1;by_cases hx:x.1∈firsts l
  ·obtain ⟨w,post,e1,e2,⟨y,hy,ey⟩,hne⟩:=grp_old hx;rw[e1] at h3;obtain ⟨v,k1,k2⟩:=r0c.1 h3;obtain ⟨j,z,f1,_⟩:=j1c k1 y hy;rw[ey] at f1;rw[e2];exact r0c.2 ⟨v,k1,run_back f1 hne (r0c.2 ⟨u,k2,h2⟩)⟩
  ·rw[grp_new hx];exact r0c.2 ⟨u,h3,h2⟩
theorem x1l {bad:List Lab×Ev→Int} (hb:∀x,LabOk x.1→EvOk x.2→bad x=0) {s t:Sta} {l:List (List Lab×Ev)}:runV s l=some t→t0s bad (fun e:Ev=>e.1) l:=by
 induction l using list_snoc generalizing t with
 | h0=>intro _;exact ⟨by simp,fun k=>by simp[ofK]⟩
 | h1 l x ih =>
  intro h;obtain ⟨u,h1,h2⟩:=r0c.1 h;obtain ⟨i,w,b,z,A⟩:=wrote (x1m.1 h2);refine (r0g bad _ l x).2 ⟨ih h1,hb x A.g.lab A.g.ev,?_⟩;rintro ⟨y,hy,ey,ht⟩;have ht:x.2.1≤y.2.1:=ht;obtain ⟨j,v,k1,k2,k3⟩:=j1c h1 y hy;rw[ey] at k1;have hxl:=A.xl;cases A.p with
  | found hf hx hl hlv htt=>rw[k1] at hf;cases hf;rw[k2] at hx;cases hx;omega
  | room hf hs hr=>rw[k1] at hf;cases hf
theorem x1n:∀(r:List c0o) (s t:Sta),runV s r=some t↔(∀e∈erE s r,e=0)∧stE s r=t:=by
 intro r;induction r with
 | nil=>intro s t;simp[runV,erE,stE]
 | cons x r ih =>
  intro s t;rw[i0x];constructor
  ·rintro ⟨u,h1,h2⟩;have hn:o0m s x=u:=by unfold o0m;rw[h1];rfl
   obtain ⟨k1,k2⟩:=(ih u t).1 h2;refine ⟨fun e he => ?_,?_⟩
   ·have he:e∈(c0g s x.1 x.2).2::erE (o0m s x) r:=he;rw[h1,hn] at he;rcases List.mem_cons.1 he with rfl | he
    ·rfl
    ·exact k1 e he
   ·show stE (o0m s x) r=t;rw[hn];exact k2
  ·rintro ⟨h1,h2⟩;have h0:(c0g s x.1 x.2).2=0:=h1 _ (by show _∈(c0g s x.1 x.2).2::_;simp);have hn:o0m s x=(c0g s x.1 x.2).1:=by unfold o0m;rw[if_pos h0]
   refine ⟨(c0g s x.1 x.2).1,Prod.ext rfl h0,(ih _ t).2 ⟨fun e he=>h1 e ?_,?_⟩⟩
   ·show e∈(c0g s x.1 x.2).2::erE (o0m s x) r;rw[hn];simp[he]
   ·rw[←hn];exact h2
theorem z1y (n:Nat) (rows:List c0o) (s:Sta) (g:List c0o) (w1:Int) (a:Sta) {E:List Int} (hL:E.length≤1000000):∀(rest pre:List Int) (f:Nat) (i:Int),E=pre++rest→i=pre.length→rest.length<f →
  e0n n f (rows,s,g,w1,a,E,(E.length:Int),i,())=some (if ∀e∈rest,e=0 then .inl (rows,(s,(g,(w1,(a,()))))) else .inr true):=by
 intro rest;induction rest with
 | nil =>
  intro pre f i hl hi hf;obtain ⟨f,rfl⟩:∃g,f=g+1:=⟨f-1,by simp at hf;omega⟩;rw[i0b];simp only[tfd,if_neg (idxe hl hi rfl)];rw[if_pos (by simp)]
 | cons x rest ih =>
  intro pre f i hl hi hf;obtain ⟨f,rfl⟩:∃g,f=g+1:=⟨f-1,by simp at hf;omega⟩;have hlen:=congrArg List.length hl;simp at hlen;rw[i0b,decide_eq_true (idx hl hi rfl),tft,b0u hl hi,obs,tfn,tfd,w64 (x:=i+1) (by omega) (by omega),ih (pre++[x]) f (i+1) (idxl hl) (idxs hi) (by simp at hf;omega)];by_cases h:x=0
  ·rw[if_pos h];congr 1;refine ite_iff ⟨fun k e he => ?_,fun k e he=>k e (by simp[he])⟩ _ _;rcases List.mem_cons.1 he with rfl | he
   ·exact h
   ·exact k e he
  ·rw[if_neg h,if_neg fun k=>h (k x (by simp))]
theorem z1x (n:Nat) (rows:List c0o) (g:List c0o) (w1:Int) (a b:Sta) (v:List Int) {E:List Int} (hL:E.length≤1000000) (h0:∀e∈E,e=0):∀(rest pre:List Int) (f:Nat) (i:Int),E=pre++rest→i=pre.length→rest.length<f →
  e0m n f (rows,g,w1,a,b,v,E,(E.length:Int),i,())=some (.inl (rows,(g,(w1,(a,(b,(v,()))))))):=by
 intro rest;induction rest with
 | nil =>
  intro pre f i hl hi hf;obtain ⟨f,rfl⟩:∃g,f=g+1:=⟨f-1,by simp at hf;omega⟩;rw[i0a];simp only[tfd,if_neg (idxe hl hi rfl)]
 | cons x rest ih =>
  intro pre f i hl hi hf;obtain ⟨f,rfl⟩:∃g,f=g+1:=⟨f-1,by simp at hf;omega⟩;have hlen:=congrArg List.length hl;simp at hlen;rw[i0a,decide_eq_true (idx hl hi rfl),tft,b0u hl hi,obs,h0 x (by rw[hl];simp),decide_eq_true rfl,Bool.not_true,tff,w64 (x:=i+1) (by omega) (by omega)];exact ih (pre++[x]) f (i+1) (idxl hl) (idxs hi) (by simp at hf;omega)
theorem u0x (rows:List c0o):(q0u rows).2=0↔(1≤rows.length∧rows.length≤1024)∧t0s badR tm36 rows:=by
 unfold q0u;have h:=(r1i badR tm36 9 (by decide) rows [] ⟨by simp,fun k=>by simp[ofK]⟩).1;rw[List.nil_append] at h;by_cases h1:rows.length<1∨1024<rows.length
 ·rw[if_pos h1];exact ⟨fun k=>(by cases k),fun k=>(by omega)⟩
 ·rw[if_neg h1,h];exact ⟨fun k=>⟨by omega,k⟩,fun k=>k.2⟩
theorem l1c (rows:List c0o):(q0u rows).2=0↔(q0u (grpV rows)).2=0:=by
 rw[u0x,u0x,grpV_len,t1v]
theorem z0j (n:Nat) (s:Sta) (rows:List c0o) (hs:Wf a0o s) (hr:Wf (.slice b0i) rows):q0q (n+61) s rows=some true:=by
 obtain ⟨hl9,hw⟩:=rows_wf hr;have hsw:=sta_wf hs;rw[u0r,a1v n,obs,Bool.not_true,tff];rcases z1e (n+57) hsw with h0 | ⟨h0,_⟩
 ·rw[h0];rfl
 rw[h0,obs,decide_eq_false (by decide),tff];rcases small36 (n+58) hl9 with h | ⟨h,h40,hsh⟩
 ·rw[h];rfl
 rw[h,obs,decide_eq_false (by decide),tff,x0o (n+46) hsw,obs];by_cases hok:StaOk s
 case neg=>rw[if_neg hok];rfl
 have hgl:=grpV_len rows;have hgw:∀x∈grpV rows,EvW x.2:=fun x hx=>hw x (f1g.1 hx)
 rw[if_pos hok,decide_eq_true rfl,Bool.not_true,tff,z0h (n+52) hsh (by omega),obs,z0i (n+51) hw,obs,z0i (n+51) hgw,obs,
  decide_eq_true (show (((grpV rows).length:Nat):Int)=((rows.length:Nat):Int) by omega),Bool.not_true,tff]
 have hc:(decide ((q0u rows).2=0)==decide ((q0u (grpV rows)).2=0))=true:=by
  by_cases q:(q0u rows).2=0
  ·rw[decide_eq_true q,decide_eq_true ((l1c rows).1 q)];rfl
  ·rw[decide_eq_false q,decide_eq_false fun k=>q ((l1c rows).2 k)];rfl
 rw[hc,Bool.not_true,tff,z0h (n+52) (fun x hx=>hsh x (f1g.1 hx)) (by omega),obs,grp_grp,same36 (n+57) (l:=grpV rows) (by omega) (fun r hr=>hl9 r (f1g.1 hr)),obs,Bool.not_true,tff,
  d1h (n+35) hsw hw (by omega),obs]
 have he:=a2n rows s;dsimp only;rw[decide_eq_true (show (((erE s rows).length:Nat):Int)=((rows.length:Nat):Int) by omega),Bool.not_true,tff,
  z1y (n+60) rows s (grpV rows) _ _ (E:=erE s rows) (by omega) (erE s rows) [] a0b 0 rfl rfl (by unfold a0b;omega),obs]
 by_cases hz:∀e∈erE s rows,e=0
 case neg=>rw[if_neg hz,l0j]
 have hrun:=(x1n rows s (stE s rows)).2 ⟨hz,rfl⟩;have hgrun:=run_grp hrun;obtain ⟨g1,g2⟩:=(x1n (grpV rows) s (stE s rows)).1 hgrun;have hge:=a2n (grpV rows) s;rw[if_pos hz,b0p];dsimp only;rw[d1h (n+35) hsw hgw (by omega),obs];dsimp only;rw[z1x (n+60) rows (grpV rows) _ _ _ _ (E:=erE s (grpV rows)) (by omega) g1 (erE s (grpV rows)) [] a0b 0 rfl rfl (by unfold a0b;omega),obs,b0p];dsimp only
 rw[decide_eq_true (show (((erE s (grpV rows)).length:Nat):Int)=(((grpV rows).length:Nat):Int) by omega),tft,stt_same (n+55) (stE_w rows hsw),obs,g2,decide_eq_true rfl,tft,tfd];by_cases h1:(q0u rows).2=0
 ·rw[if_pos h1]
 ·rw[if_neg h1];have hright:=x1l (bad:=badR) (fun x a b=>badR_ok a b) hrun;have:rows.length=0:=Decidable.byContradiction fun k=>h1 ((u0x rows).2 ⟨by omega,hright⟩)
  rw[decide_eq_true (show ((rows.length:Nat):Int)=0 by omega)]
end Go.Proofs.YtfibfcjepngbmaaGreatDoor
