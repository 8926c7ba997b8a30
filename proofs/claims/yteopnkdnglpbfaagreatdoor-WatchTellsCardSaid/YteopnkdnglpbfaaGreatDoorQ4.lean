/-
 Plain proofs about the functions of this seat, part 4 of 4.
-/
import Derived.Test.YteopnkdnglpbfaaGreatDoorQ3
import Derived.Test.YteopnkdnglpbfaaGreatDoorTr
namespace Go.Proofs.YteopnkdnglpbfaaGreatDoor
open Go.Flat
set_option linter.unusedVariables false
theorem g1i (n:Nat)  : o0n (n+1)  =
 a0a (j2r n ) fun r0 =>
 a0a (g2w n r0) fun r1 =>
 tif (!(decide (r1.2=(0:Int)))) (
 some false) (
 a0a (q1k n r1.1 ((((97:UInt8)::[]),[])::[]) (((2:Int),((1:Int),((0:Int),false)))::(((4:Int),((5:Int),((0:Int),false)))::[]))) fun r2 =>
 tif (!(decide (r2.2.1=(2:Int)))) (
 some false) (
 tif (!(decide (r2.2.2=(0:Int)))) (
 some false) (
 a0a (m0q n (2000:Int) (1:Int)) fun r3 =>
 a0a (m0q n (2001:Int) (1:Int)) fun r4 =>
 a0a (m0q n (1:Int) (3:Int)) fun r5 =>
 a0a (c0r n r2.1 ((((((97:UInt8)::[]),[])::[]),((1:Int),((0:Int),(10:Int)))),r3)) fun r6 =>
 a0a (c0r n r2.1 ((((((97:UInt8)::[]),[])::[]),((1:Int),((0:Int),(10:Int)))),r4)) fun r7 =>
 a0a (c0r n r1.1 ((((((97:UInt8)::[]),[])::[]),((1:Int),((0:Int),(10:Int)))),r3)) fun r8 =>
 a0a (m0q n (2:Int) (4:Int)) fun r9 =>
 a0a (c0r n r2.1 ((((((97:UInt8)::[]),[])::[]),((1:Int),((0:Int),(10:Int)))),r9)) fun r10 =>
 a0a (l0e n r2.1 (((((((97:UInt8)::[]),[])::[]),((1:Int),((0:Int),(10:Int)))),r3)::(((((((97:UInt8)::[]),[])::[]),((1:Int),((0:Int),(10:Int)))),r4)::(((((((97:UInt8)::[]),[])::[]),((1:Int),((0:Int),(10:Int)))),r5)::[])))) fun r11 =>
 a0a (f0o n r1.1 r2.1 (((((((97:UInt8)::[]),[])::[]),((1:Int),((0:Int),(10:Int)))),r3)::(((((((97:UInt8)::[]),[])::[]),((1:Int),((0:Int),(10:Int)))),r4)::(((((((97:UInt8)::[]),[])::[]),((1:Int),((0:Int),(10:Int)))),r5)::[])))) fun r12 =>
 a0a (f0o n r2.1 r1.1 (((((((97:UInt8)::[]),[])::[]),((1:Int),((0:Int),(10:Int)))),r4)::(((((((97:UInt8)::[]),[])::[]),((1:Int),((0:Int),(10:Int)))),r5)::[]))) fun r13 =>
 tif (r6.1) (
 tif (decide (r6.2=(0:Int))) (
 tif (!r7.1) (
 tif (decide (r7.2=(0:Int))) (
 tif (decide (r8.2=(12:Int))) (
 tif (decide (r10.2=(2:Int))) (
 a0a (i0z n r11.1 ((0:Int)::((2:Int)::[]))) fun r14 =>
 tif (r14) (
 tif (decide (r11.2=(0:Int))) (
 a0a (i0z n r12.1 ((0:Int)::((2:Int)::[]))) fun r15 =>
 tif (r15) (
 tif (decide ((((List.length r12.2.1):Nat):Int)=(0:Int))) (
 tif (decide (r12.2.2=(0:Int))) (
 tif (decide ((((List.length r13.1):Nat):Int)=(0:Int))) (
 a0a (i0z n r13.2.1 ((1:Int)::[])) fun r16 =>
 tif (r16) (
 some (decide (r13.2.2=(0:Int)))) (
 some false)) (
 some false)) (
 some false)) (
 some false)) (
 some false)) (
 some false)) (
 some false)) (
 some false)) (
 some false)) (
 some false)) (
 some false)) (
 some false)) (
 some false)))):=by kernel_rfl
abbrev a0l:a0m:=((Int.ofNat 20,(Int.ofNat 10,Int.ofNat 20,Int.ofNat 60),(Int.ofNat 4,Int.ofNat 5,Int.ofNat 6),Int.ofNat 3,Int.ofNat 9),Int.ofNat 0,Int.negSucc 0,[([([UInt8.ofNat 97],[])],Int.ofNat 4,(Int.ofNat 0,Int.ofNat 0,[(Int.ofNat 2,Int.ofNat 1,Int.ofNat 0,false),(Int.ofNat 4,Int.ofNat 5,Int.ofNat 0,false)]),([(Int.ofNat 0,Int.ofNat 0,(Int.ofNat 0,Int.ofNat 0,Int.ofNat 0,false),(Int.ofNat 0,Int.ofNat 0,Int.ofNat 0,false),(Int.ofNat 0,Int.ofNat 0),Int.ofNat 0,Int.ofNat 0,Int.ofNat 0),(Int.ofNat 0,Int.ofNat 0,(Int.ofNat 0,Int.ofNat 0,Int.ofNat 0,false),(Int.ofNat 0,Int.ofNat 0,Int.ofNat 0,false),(Int.ofNat 0,Int.ofNat 0),Int.ofNat 0,Int.ofNat 0,Int.ofNat 0),(Int.ofNat 0,Int.ofNat 0,(Int.ofNat 0,Int.ofNat 0,Int.ofNat 0,false),(Int.ofNat 0,Int.ofNat 0,Int.ofNat 0,false),(Int.ofNat 0,Int.ofNat 0),Int.ofNat 0,Int.ofNat 0,Int.ofNat 0),(Int.ofNat 0,Int.ofNat 0,(Int.ofNat 0,Int.ofNat 0,Int.ofNat 0,false),(Int.ofNat 0,Int.ofNat 0,Int.ofNat 0,false),(Int.ofNat 0,Int.ofNat 0),Int.ofNat 0,Int.ofNat 0,Int.ofNat 0)],[(Int.ofNat 0,Int.ofNat 0,(Int.ofNat 0,Int.ofNat 0,Int.ofNat 0,false),(Int.ofNat 0,Int.ofNat 0,Int.ofNat 0,false),(Int.ofNat 0,Int.ofNat 0),Int.ofNat 0,Int.ofNat 0,Int.ofNat 0),(Int.ofNat 0,Int.ofNat 0,(Int.ofNat 0,Int.ofNat 0,Int.ofNat 0,false),(Int.ofNat 0,Int.ofNat 0,Int.ofNat 0,false),(Int.ofNat 0,Int.ofNat 0),Int.ofNat 0,Int.ofNat 0,Int.ofNat 0),(Int.ofNat 0,Int.ofNat 0,(Int.ofNat 0,Int.ofNat 0,Int.ofNat 0,false),(Int.ofNat 0,Int.ofNat 0,Int.ofNat 0,false),(Int.ofNat 0,Int.ofNat 0),Int.ofNat 0,Int.ofNat 0,Int.ofNat 0),(Int.ofNat 0,Int.ofNat 0,(Int.ofNat 0,Int.ofNat 0,Int.ofNat 0,false),(Int.ofNat 0,Int.ofNat 0,Int.ofNat 0,false),(Int.ofNat 0,Int.ofNat 0),Int.ofNat 0,Int.ofNat 0,Int.ofNat 0),(Int.ofNat 0,Int.ofNat 0,(Int.ofNat 0,Int.ofNat 0,Int.ofNat 0,false),(Int.ofNat 0,Int.ofNat 0,Int.ofNat 0,false),(Int.ofNat 0,Int.ofNat 0),Int.ofNat 0,Int.ofNat 0,Int.ofNat 0)],[(Int.ofNat 0,Int.ofNat 0,(Int.ofNat 0,Int.ofNat 0,Int.ofNat 0,false),(Int.ofNat 0,Int.ofNat 0,Int.ofNat 0,false),(Int.ofNat 0,Int.ofNat 0),Int.ofNat 0,Int.ofNat 0,Int.ofNat 0),(Int.ofNat 0,Int.ofNat 0,(Int.ofNat 0,Int.ofNat 0,Int.ofNat 0,false),(Int.ofNat 0,Int.ofNat 0,Int.ofNat 0,false),(Int.ofNat 0,Int.ofNat 0),Int.ofNat 0,Int.ofNat 0,Int.ofNat 0),(Int.ofNat 0,Int.ofNat 0,(Int.ofNat 0,Int.ofNat 0,Int.ofNat 0,false),(Int.ofNat 0,Int.ofNat 0,Int.ofNat 0,false),(Int.ofNat 0,Int.ofNat 0),Int.ofNat 0,Int.ofNat 0,Int.ofNat 0),(Int.ofNat 0,Int.ofNat 0,(Int.ofNat 0,Int.ofNat 0,Int.ofNat 0,false),(Int.ofNat 0,Int.ofNat 0,Int.ofNat 0,false),(Int.ofNat 0,Int.ofNat 0),Int.ofNat 0,Int.ofNat 0,Int.ofNat 0),(Int.ofNat 0,Int.ofNat 0,(Int.ofNat 0,Int.ofNat 0,Int.ofNat 0,false),(Int.ofNat 0,Int.ofNat 0,Int.ofNat 0,false),(Int.ofNat 0,Int.ofNat 0),Int.ofNat 0,Int.ofNat 0,Int.ofNat 0),(Int.ofNat 0,Int.ofNat 0,(Int.ofNat 0,Int.ofNat 0,Int.ofNat 0,false),(Int.ofNat 0,Int.ofNat 0,Int.ofNat 0,false),(Int.ofNat 0,Int.ofNat 0),Int.ofNat 0,Int.ofNat 0,Int.ofNat 0)]),Int.ofNat 0,Int.ofNat 2,(Int.ofNat 2,Int.ofNat 1,Int.ofNat 0,false),(Int.ofNat 4,Int.ofNat 5,Int.ofNat 0,false),(Int.ofNat 0,Int.ofNat 4),Int.ofNat 0,Int.ofNat 0,Int.ofNat 2),([],Int.ofNat 0,(Int.ofNat 0,Int.ofNat 0,[]),([],[],[]),Int.ofNat 0,Int.ofNat 0,(Int.ofNat 0,Int.ofNat 0,Int.ofNat 0,false),(Int.ofNat 0,Int.ofNat 0,Int.ofNat 0,false),(Int.ofNat 0,Int.ofNat 0),Int.ofNat 0,Int.ofNat 0,Int.ofNat 0),([],Int.ofNat 0,(Int.ofNat 0,Int.ofNat 0,[]),([],[],[]),Int.ofNat 0,Int.ofNat 0,(Int.ofNat 0,Int.ofNat 0,Int.ofNat 0,false),(Int.ofNat 0,Int.ofNat 0,Int.ofNat 0,false),(Int.ofNat 0,Int.ofNat 0),Int.ofNat 0,Int.ofNat 0,Int.ofNat 0)])
abbrev zC:Int×((Int×(Int×(Int×Bool)))×((Int×(Int×(Int×Bool)))×((Int×Int)×(Int×(Int×Int))))):=(0,((0,(0,(0,false))),((0,(0,(0,false))),((0,0),(0,(0,0))))))
abbrev zS:Int×(Int×((Int×(Int×(Int×Bool)))×((Int×(Int×(Int×Bool)))×((Int×Int)×(Int×(Int×Int)))))):=(0,zC)
abbrev a0o:a0m:=((20,((10,(20,60)),((4,(5,6)),(3,9)))),(0,((-1),[([([97],[])],(4,((0,(0,[(2,(1,(0,false))),(4,(5,(0,false)))])),(([zS,zS,zS,zS],([zS,zS,zS,zS,zS],[zS,zS,zS,zS,zS,zS])),(0,(2,((2,(1,(0,false))),((4,(5,(0,false))),((0,4),(0,(0,2))))))))))),([],(0,((0,(0,[])),(([],([],[])),zS)))),([],(0,((0,(0,[])),(([],([],[])),zS))))])))
abbrev a0q:a0m:=((Int.ofNat 20,(Int.ofNat 10,Int.ofNat 20,Int.ofNat 60),(Int.ofNat 4,Int.ofNat 5,Int.ofNat 6),Int.ofNat 3,Int.ofNat 9),Int.ofNat 0,Int.negSucc 0,[([],Int.ofNat 0,(Int.ofNat 0,Int.ofNat 0,[]),([],[],[]),Int.ofNat 0,Int.ofNat 0,(Int.ofNat 0,Int.ofNat 0,Int.ofNat 0,false),(Int.ofNat 0,Int.ofNat 0,Int.ofNat 0,false),(Int.ofNat 0,Int.ofNat 0),Int.ofNat 0,Int.ofNat 0,Int.ofNat 0),([],Int.ofNat 0,(Int.ofNat 0,Int.ofNat 0,[]),([],[],[]),Int.ofNat 0,Int.ofNat 0,(Int.ofNat 0,Int.ofNat 0,Int.ofNat 0,false),(Int.ofNat 0,Int.ofNat 0,Int.ofNat 0,false),(Int.ofNat 0,Int.ofNat 0),Int.ofNat 0,Int.ofNat 0,Int.ofNat 0),([],Int.ofNat 0,(Int.ofNat 0,Int.ofNat 0,[]),([],[],[]),Int.ofNat 0,Int.ofNat 0,(Int.ofNat 0,Int.ofNat 0,Int.ofNat 0,false),(Int.ofNat 0,Int.ofNat 0,Int.ofNat 0,false),(Int.ofNat 0,Int.ofNat 0),Int.ofNat 0,Int.ofNat 0,Int.ofNat 0)])
theorem o1w (n:Nat):j2r (n+39)=some (20,((10,(20,60)),((4,(5,6)),(3,9)))):=by kernel_rfl
theorem o1v (n:Nat):g2w (n+39) (20,((10,(20,60)),((4,(5,6)),(3,9))))=some (((20,((10,(20,60)),((4,(5,6)),(3,9)))),(0,((-1),[([],(0,((0,(0,[])),(([],([],[])),zS)))),([],(0,((0,(0,[])),(([],([],[])),zS)))),([],(0,((0,(0,[])),(([],([],[])),zS))))]))),0):=by kernel_rfl
theorem o1u (n:Nat):q1k (n+39) ((20,((10,(20,60)),((4,(5,6)),(3,9)))),(0,((-1),[([],(0,((0,(0,[])),(([],([],[])),zS)))),([],(0,((0,(0,[])),(([],([],[])),zS)))),([],(0,((0,(0,[])),(([],([],[])),zS))))]))) [([97],[])] [(2,(1,(0,false))),(4,(5,(0,false)))]=some (a0o,(2,0)):=by kernel_rfl
theorem o1t (n:Nat):m0q (n+39) (2000) (1)=some ((0,2000),(0,1)):=by kernel_rfl
theorem o1s (n:Nat):m0q (n+39) (2001) (1)=some ((0,2001),(0,1)):=by kernel_rfl
theorem o1r (n:Nat):m0q (n+39) (1) (3)=some ((0,1),(0,3)):=by kernel_rfl
theorem d0i (n:Nat):h0g (n+16) a0o=some 0:=by kernel_rfl
theorem k0j (n:Nat):e0z (n+8) ((0,2000),(0,1))=some 0:=by kernel_rfl
theorem i0b (n:Nat):x0p (n+25) a0o ([([97],[])],(1,(0,10)))=some ((1,((2,((2,(1,(0,false))),((4,(5,(0,false))),((0,4),(0,(0,2)))))),(((0,2000),(0,1)),0))),0):=by kernel_rfl
theorem y0b (n:Nat):i0s (n+9) ((0,2000),(0,1)) ((0,2000),(0,1))=some (false,0):=by kernel_rfl
theorem j1g (n:Nat):c0r (n+39) a0o (([([97],[])],(1,(0,10))),((0,2000),(0,1)))=some (true,0):=by
 rw[c0y];refine ob (d0i (n+22)) ?_;refine tf (by kernel_rfl) ?_;refine ob (k0j (n+30)) ?_;refine tf (by kernel_rfl) ?_;refine ob (i0b (n+13)) ?_;refine tt (by kernel_rfl) ?_;refine tf (by kernel_rfl) ?_;refine ob (y0b (n+29)) ?_;refine tt (by kernel_rfl) ?_
 kernel_rfl
theorem n0n (n:Nat):e0z (n+8) ((0,2001),(0,1))=some 0:=by kernel_rfl
theorem u0q (n:Nat):i0s (n+9) ((0,2000),(0,1)) ((0,2001),(0,1))=some (true,0):=by kernel_rfl
theorem j1f (n:Nat):c0r (n+39) a0o (([([97],[])],(1,(0,10))),((0,2001),(0,1)))=some (false,0):=by
 rw[c0y];refine ob (d0i (n+22)) ?_;refine tf (by kernel_rfl) ?_;refine ob (n0n (n+30)) ?_;refine tf (by kernel_rfl) ?_;refine ob (i0b (n+13)) ?_;refine tt (by kernel_rfl) ?_;refine tf (by kernel_rfl) ?_;refine ob (u0q (n+29)) ?_;refine tt (by kernel_rfl) ?_
 kernel_rfl
theorem f0i (n:Nat):h0g (n+16) ((20,((10,(20,60)),((4,(5,6)),(3,9)))),(0,((-1),[([],(0,((0,(0,[])),(([],([],[])),zS)))),([],(0,((0,(0,[])),(([],([],[])),zS)))),([],(0,((0,(0,[])),(([],([],[])),zS))))])))=some 0:=by kernel_rfl
theorem j0d (n:Nat):x0p (n+25) ((20,((10,(20,60)),((4,(5,6)),(3,9)))),(0,((-1),[([],(0,((0,(0,[])),(([],([],[])),zS)))),([],(0,((0,(0,[])),(([],([],[])),zS)))),([],(0,((0,(0,[])),(([],([],[])),zS))))]))) ([([97],[])],(1,(0,10)))=some ((1,(zC,(((0,0),(0,0)),12))),0):=by kernel_rfl
theorem j1e (n:Nat):c0r (n+39) ((20,((10,(20,60)),((4,(5,6)),(3,9)))),(0,((-1),[([],(0,((0,(0,[])),(([],([],[])),zS)))),([],(0,((0,(0,[])),(([],([],[])),zS)))),([],(0,((0,(0,[])),(([],([],[])),zS))))]))) (([([97],[])],(1,(0,10))),((0,2000),(0,1)))=some (false,12):=by
 rw[c0y];refine ob (f0i (n+22)) ?_;refine tf (by kernel_rfl) ?_;refine ob (k0j (n+30)) ?_;refine tf (by kernel_rfl) ?_;refine ob (j0d (n+13)) ?_;refine tt (by kernel_rfl) ?_;refine tt (by kernel_rfl) ?_
 kernel_rfl
theorem j1d (n:Nat):m0q (n+39) (2) (4)=some ((0,2),(0,4)):=by kernel_rfl
theorem j1c (n:Nat):e0z (n+8) ((0,2),(0,4))=some 2:=by kernel_rfl
theorem j1b (n:Nat):c0r (n+39) a0o (([([97],[])],(1,(0,10))),((0,2),(0,4)))=some (false,2):=by
 rw[c0y];refine ob (d0i (n+22)) ?_;refine tf (by kernel_rfl) ?_;refine ob (j1c (n+30)) ?_;refine tt (by kernel_rfl) ?_
 kernel_rfl
theorem j1a (n f:Nat):b0e (n+37) (f+1) ([a0o],(1,(1,())))=some (.inl ()):=by
 rw[b0f];refine tf (by kernel_rfl) ?_
 kernel_rfl
theorem i1z (n f:Nat):b0e (n+37) (f+2) ([a0o],(1,(0,())))=some (.inl ()):=by
 rw[b0f];refine tt (by kernel_rfl) ?_;refine ob (x:=a0o) (by kernel_rfl) ?_;refine ob (d0i (n+21)) ?_;refine tf (by kernel_rfl) ?_;exact j1a n f
theorem i1y (n:Nat):c0s (n+38) [(([([97],[])],(1,(0,10))),((0,2000),(0,1))),(([([97],[])],(1,(0,10))),((0,2001),(0,1))),(([([97],[])],(1,(0,10))),((0,1),(0,3)))] [a0o]=some 0:=by
 rw[e0j];refine tf (by kernel_rfl) ?_;refine ob (b1l (h:=by unfold a0b;omega) (i1z n (a0b-2))) ?_;refine Eq.trans (a0t ..) ?_
 kernel_rfl
theorem n0m (n:Nat):s0t (n+38) a0o=some (fun y0=>Go.Proofs.YteopnkdnglpbfaaGreatDoor.a0e (n+37) y0.fst (a0l,Int.ofNat 2,Int.ofNat 0).fst):=by
 rw[l0c]
 kernel_rfl
theorem i1x (n:Nat):c0r (n+36) a0o (([([97],[])],(1,(0,10))),((0,2000),(0,1)))=some (true,0):=by
 rw[c0y];refine ob (d0i (n+19)) ?_;refine tf (by kernel_rfl) ?_;refine ob (k0j (n+27)) ?_;refine tf (by kernel_rfl) ?_;refine ob (i0b (n+10)) ?_;refine tt (by kernel_rfl) ?_;refine tf (by kernel_rfl) ?_;refine ob (y0b (n+26)) ?_;refine tt (by kernel_rfl) ?_
 kernel_rfl
theorem u0p (n:Nat):a0e (n+37) (([([97],[])],(1,(0,10))),((0,2000),(0,1))) a0o=some true:=by
 rw[e0v];refine ob (i1x n) ?_
 kernel_rfl
theorem i1w (n:Nat):c0r (n+36) a0o (([([97],[])],(1,(0,10))),((0,2001),(0,1)))=some (false,0):=by
 rw[c0y];refine ob (d0i (n+19)) ?_;refine tf (by kernel_rfl) ?_;refine ob (n0n (n+27)) ?_;refine tf (by kernel_rfl) ?_;refine ob (i0b (n+10)) ?_;refine tt (by kernel_rfl) ?_;refine tf (by kernel_rfl) ?_;refine ob (u0q (n+26)) ?_;refine tt (by kernel_rfl) ?_
 kernel_rfl
theorem n0l (n:Nat):a0e (n+37) (([([97],[])],(1,(0,10))),((0,2001),(0,1))) a0o=some false:=by
 rw[e0v];refine ob (i1w n) ?_
 kernel_rfl
theorem u0o (n:Nat):e0z (n+8) ((0,1),(0,3))=some 0:=by kernel_rfl
theorem i1v (n:Nat):i0s (n+9) ((0,2000),(0,1)) ((0,1),(0,3))=some (false,0):=by kernel_rfl
theorem i1u (n:Nat):c0r (n+36) a0o (([([97],[])],(1,(0,10))),((0,1),(0,3)))=some (true,0):=by
 rw[c0y];refine ob (d0i (n+19)) ?_;refine tf (by kernel_rfl) ?_;refine ob (u0o (n+27)) ?_;refine tf (by kernel_rfl) ?_;refine ob (i0b (n+10)) ?_;refine tt (by kernel_rfl) ?_;refine tf (by kernel_rfl) ?_;refine ob (i1v (n+26)) ?_;refine tt (by kernel_rfl) ?_
 kernel_rfl
theorem n0k (n:Nat):a0e (n+37) (([([97],[])],(1,(0,10))),((0,1),(0,3))) a0o=some true:=by
 rw[e0v];refine ob (i1u n) ?_
 kernel_rfl
theorem i1t (n f:Nat):a0g (n+37) (f+1) ((fun y0=>Go.Proofs.YteopnkdnglpbfaaGreatDoor.a0e (n+37) y0.fst (a0l,Int.ofNat 2,Int.ofNat 0).fst),([0,2],([(([([97],[])],(1,(0,10))),((0,2000),(0,1))),(([([97],[])],(1,(0,10))),((0,2001),(0,1))),(([([97],[])],(1,(0,10))),((0,1),(0,3)))],(3,(3,())))))=some (.inl ([0,2],())):=by
 rw[a0f];refine tf (by kernel_rfl) ?_
 kernel_rfl
theorem i1s (n f:Nat):a0g (n+37) (f+2) ((fun y0=>Go.Proofs.YteopnkdnglpbfaaGreatDoor.a0e (n+37) y0.fst (a0l,Int.ofNat 2,Int.ofNat 0).fst),([0],([(([([97],[])],(1,(0,10))),((0,2000),(0,1))),(([([97],[])],(1,(0,10))),((0,2001),(0,1))),(([([97],[])],(1,(0,10))),((0,1),(0,3)))],(3,(2,())))))=some (.inl ([0,2],())):=by
 rw[a0f];refine tt (by kernel_rfl) ?_;refine ob (x:=(([([97],[])],(1,(0,10))),((0,1),(0,3)))) (by kernel_rfl) ?_;refine ob (n0k n) ?_;refine tt (by kernel_rfl) ?_;refine tt (by kernel_rfl) ?_;exact i1t n f
theorem i1r (n f:Nat):a0g (n+37) (f+3) ((fun y0=>Go.Proofs.YteopnkdnglpbfaaGreatDoor.a0e (n+37) y0.fst (a0l,Int.ofNat 2,Int.ofNat 0).fst),([0],([(([([97],[])],(1,(0,10))),((0,2000),(0,1))),(([([97],[])],(1,(0,10))),((0,2001),(0,1))),(([([97],[])],(1,(0,10))),((0,1),(0,3)))],(3,(1,())))))=some (.inl ([0,2],())):=by
 rw[a0f];refine tt (by kernel_rfl) ?_;refine ob (x:=(([([97],[])],(1,(0,10))),((0,2001),(0,1)))) (by kernel_rfl) ?_;refine ob (n0l n) ?_;refine tf (by kernel_rfl) ?_;exact i1s n f
theorem i1q (n f:Nat):a0g (n+37) (f+4) ((fun y0=>Go.Proofs.YteopnkdnglpbfaaGreatDoor.a0e (n+37) y0.fst (a0l,Int.ofNat 2,Int.ofNat 0).fst),([],([(([([97],[])],(1,(0,10))),((0,2000),(0,1))),(([([97],[])],(1,(0,10))),((0,2001),(0,1))),(([([97],[])],(1,(0,10))),((0,1),(0,3)))],(3,(0,())))))=some (.inl ([0,2],())):=by
 rw[a0f];refine tt (by kernel_rfl) ?_;refine ob (x:=(([([97],[])],(1,(0,10))),((0,2000),(0,1)))) (by kernel_rfl) ?_;refine ob (u0p n) ?_;refine tt (by kernel_rfl) ?_;refine tt (by kernel_rfl) ?_;exact i1r n f
theorem i1p (n:Nat):b0q (n+38) [(([([97],[])],(1,(0,10))),((0,2000),(0,1))),(([([97],[])],(1,(0,10))),((0,2001),(0,1))),(([([97],[])],(1,(0,10))),((0,1),(0,3)))] (fun y0=>Go.Proofs.YteopnkdnglpbfaaGreatDoor.a0e (n+37) y0.fst (a0l,Int.ofNat 2,Int.ofNat 0).fst)=some [0,2]:=by
 rw[c0h];refine ob (b1l (h:=by unfold a0b;omega) (i1q n (a0b-4))) ?_;refine Eq.trans (a0t ..) ?_
 kernel_rfl
theorem i1o (n:Nat):l0e (n+39) a0o [(([([97],[])],(1,(0,10))),((0,2000),(0,1))),(([([97],[])],(1,(0,10))),((0,2001),(0,1))),(([([97],[])],(1,(0,10))),((0,1),(0,3)))]=some ([0,2],0):=by
 rw[t0u];refine ob (i1y n) ?_;refine tf (by kernel_rfl) ?_;refine ob (n0m n) ?_;refine ob (i1p n) ?_
 kernel_rfl
theorem i1n (n f:Nat):b0e (n+37) (f+1) ([((20,((10,(20,60)),((4,(5,6)),(3,9)))),(0,((-1),[([],(0,((0,(0,[])),(([],([],[])),zS)))),([],(0,((0,(0,[])),(([],([],[])),zS)))),([],(0,((0,(0,[])),(([],([],[])),zS))))]))),a0o],(2,(2,())))=some (.inl ()):=by
 rw[b0f];refine tf (by kernel_rfl) ?_
 kernel_rfl
theorem i1m (n f:Nat):b0e (n+37) (f+2) ([((20,((10,(20,60)),((4,(5,6)),(3,9)))),(0,((-1),[([],(0,((0,(0,[])),(([],([],[])),zS)))),([],(0,((0,(0,[])),(([],([],[])),zS)))),([],(0,((0,(0,[])),(([],([],[])),zS))))]))),a0o],(2,(1,())))=some (.inl ()):=by
 rw[b0f];refine tt (by kernel_rfl) ?_;refine ob (x:=a0o) (by kernel_rfl) ?_;refine ob (d0i (n+21)) ?_;refine tf (by kernel_rfl) ?_;exact i1n n f
theorem i1l (n f:Nat):b0e (n+37) (f+3) ([((20,((10,(20,60)),((4,(5,6)),(3,9)))),(0,((-1),[([],(0,((0,(0,[])),(([],([],[])),zS)))),([],(0,((0,(0,[])),(([],([],[])),zS)))),([],(0,((0,(0,[])),(([],([],[])),zS))))]))),a0o],(2,(0,())))=some (.inl ()):=by
 rw[b0f];refine tt (by kernel_rfl) ?_;refine ob (x:=((20,((10,(20,60)),((4,(5,6)),(3,9)))),(0,((-1),[([],(0,((0,(0,[])),(([],([],[])),zS)))),([],(0,((0,(0,[])),(([],([],[])),zS)))),([],(0,((0,(0,[])),(([],([],[])),zS))))])))) (by kernel_rfl) ?_;refine ob (f0i (n+21)) ?_;refine tf (by kernel_rfl) ?_;exact i1m n f
theorem i1k (n:Nat):c0s (n+38) [(([([97],[])],(1,(0,10))),((0,2000),(0,1))),(([([97],[])],(1,(0,10))),((0,2001),(0,1))),(([([97],[])],(1,(0,10))),((0,1),(0,3)))] [((20,((10,(20,60)),((4,(5,6)),(3,9)))),(0,((-1),[([],(0,((0,(0,[])),(([],([],[])),zS)))),([],(0,((0,(0,[])),(([],([],[])),zS)))),([],(0,((0,(0,[])),(([],([],[])),zS))))]))),a0o]=some 0:=by
 rw[e0j];refine tf (by kernel_rfl) ?_;refine ob (b1l (h:=by unfold a0b;omega) (i1l n (a0b-3))) ?_;refine Eq.trans (a0t ..) ?_
 kernel_rfl
theorem u0n (n:Nat):s0t (n+38) ((20,((10,(20,60)),((4,(5,6)),(3,9)))),(0,((-1),[([],(0,((0,(0,[])),(([],([],[])),zS)))),([],(0,((0,(0,[])),(([],([],[])),zS)))),([],(0,((0,(0,[])),(([],([],[])),zS))))])))=some (fun y0=>Go.Proofs.YteopnkdnglpbfaaGreatDoor.a0e (n+37) y0.fst (a0q,Int.ofNat 0).fst):=by
 rw[l0c]
 kernel_rfl
theorem i1j (n:Nat):c0r (n+36) ((20,((10,(20,60)),((4,(5,6)),(3,9)))),(0,((-1),[([],(0,((0,(0,[])),(([],([],[])),zS)))),([],(0,((0,(0,[])),(([],([],[])),zS)))),([],(0,((0,(0,[])),(([],([],[])),zS))))]))) (([([97],[])],(1,(0,10))),((0,2000),(0,1)))=some (false,12):=by
 rw[c0y];refine ob (f0i (n+19)) ?_;refine tf (by kernel_rfl) ?_;refine ob (k0j (n+27)) ?_;refine tf (by kernel_rfl) ?_;refine ob (j0d (n+10)) ?_;refine tt (by kernel_rfl) ?_;refine tt (by kernel_rfl) ?_
 kernel_rfl
theorem u0m (n:Nat):a0e (n+37) (([([97],[])],(1,(0,10))),((0,2000),(0,1))) ((20,((10,(20,60)),((4,(5,6)),(3,9)))),(0,((-1),[([],(0,((0,(0,[])),(([],([],[])),zS)))),([],(0,((0,(0,[])),(([],([],[])),zS)))),([],(0,((0,(0,[])),(([],([],[])),zS))))])))=some false:=by
 rw[e0v];refine ob (i1j n) ?_
 kernel_rfl
theorem i1i (n:Nat):b0h (n+38) (([([97],[])],(1,(0,10))),((0,2000),(0,1))) (fun y0=>Go.Proofs.YteopnkdnglpbfaaGreatDoor.a0e (n+37) y0.fst (a0l,Int.ofNat 2,Int.ofNat 0).fst) (fun y0=>Go.Proofs.YteopnkdnglpbfaaGreatDoor.a0e (n+37) y0.fst (a0q,Int.ofNat 0).fst)=some true:=by
 rw[d0o];refine ob (u0p n) ?_;refine tt (by kernel_rfl) ?_;refine ob (u0m n) ?_
 kernel_rfl
theorem i1h (n:Nat):b0h (n+38) (([([97],[])],(1,(0,10))),((0,2001),(0,1))) (fun y0=>Go.Proofs.YteopnkdnglpbfaaGreatDoor.a0e (n+37) y0.fst (a0l,Int.ofNat 2,Int.ofNat 0).fst) (fun y0=>Go.Proofs.YteopnkdnglpbfaaGreatDoor.a0e (n+37) y0.fst (a0q,Int.ofNat 0).fst)=some false:=by
 rw[d0o];refine ob (n0l n) ?_;refine tf (by kernel_rfl) ?_
 kernel_rfl
theorem i1g (n:Nat):c0r (n+36) ((20,((10,(20,60)),((4,(5,6)),(3,9)))),(0,((-1),[([],(0,((0,(0,[])),(([],([],[])),zS)))),([],(0,((0,(0,[])),(([],([],[])),zS)))),([],(0,((0,(0,[])),(([],([],[])),zS))))]))) (([([97],[])],(1,(0,10))),((0,1),(0,3)))=some (false,12):=by
 rw[c0y];refine ob (f0i (n+19)) ?_;refine tf (by kernel_rfl) ?_;refine ob (u0o (n+27)) ?_;refine tf (by kernel_rfl) ?_;refine ob (j0d (n+10)) ?_;refine tt (by kernel_rfl) ?_;refine tt (by kernel_rfl) ?_
 kernel_rfl
theorem j0c (n:Nat):a0e (n+37) (([([97],[])],(1,(0,10))),((0,1),(0,3))) ((20,((10,(20,60)),((4,(5,6)),(3,9)))),(0,((-1),[([],(0,((0,(0,[])),(([],([],[])),zS)))),([],(0,((0,(0,[])),(([],([],[])),zS)))),([],(0,((0,(0,[])),(([],([],[])),zS))))])))=some false:=by
 rw[e0v];refine ob (i1g n) ?_
 kernel_rfl
theorem i1f (n:Nat):b0h (n+38) (([([97],[])],(1,(0,10))),((0,1),(0,3))) (fun y0=>Go.Proofs.YteopnkdnglpbfaaGreatDoor.a0e (n+37) y0.fst (a0l,Int.ofNat 2,Int.ofNat 0).fst) (fun y0=>Go.Proofs.YteopnkdnglpbfaaGreatDoor.a0e (n+37) y0.fst (a0q,Int.ofNat 0).fst)=some true:=by
 rw[d0o];refine ob (n0k n) ?_;refine tt (by kernel_rfl) ?_;refine ob (j0c n) ?_
 kernel_rfl
theorem i1e (n f:Nat):a0g (n+37) (f+1) ((fun y3=>Go.Proofs.YteopnkdnglpbfaaGreatDoor.b0h (n+38) y3.fst (fun y0=>Go.Proofs.YteopnkdnglpbfaaGreatDoor.a0e (n+37) y0.fst (a0l,Int.ofNat 2,Int.ofNat 0).fst) fun y0=>Go.Proofs.YteopnkdnglpbfaaGreatDoor.a0e (n+37) y0.fst (a0q,Int.ofNat 0).fst),([0,2],([(([([97],[])],(1,(0,10))),((0,2000),(0,1))),(([([97],[])],(1,(0,10))),((0,2001),(0,1))),(([([97],[])],(1,(0,10))),((0,1),(0,3)))],(3,(3,())))))=some (.inl ([0,2],())):=by
 rw[a0f];refine tf (by kernel_rfl) ?_
 kernel_rfl
theorem i1d (n f:Nat):a0g (n+37) (f+2) ((fun y3=>Go.Proofs.YteopnkdnglpbfaaGreatDoor.b0h (n+38) y3.fst (fun y0=>Go.Proofs.YteopnkdnglpbfaaGreatDoor.a0e (n+37) y0.fst (a0l,Int.ofNat 2,Int.ofNat 0).fst) fun y0=>Go.Proofs.YteopnkdnglpbfaaGreatDoor.a0e (n+37) y0.fst (a0q,Int.ofNat 0).fst),([0],([(([([97],[])],(1,(0,10))),((0,2000),(0,1))),(([([97],[])],(1,(0,10))),((0,2001),(0,1))),(([([97],[])],(1,(0,10))),((0,1),(0,3)))],(3,(2,())))))=some (.inl ([0,2],())):=by
 rw[a0f];refine tt (by kernel_rfl) ?_;refine ob (x:=(([([97],[])],(1,(0,10))),((0,1),(0,3)))) (by kernel_rfl) ?_;refine ob (i1f n) ?_;refine tt (by kernel_rfl) ?_;refine tt (by kernel_rfl) ?_;exact i1e n f
theorem i1c (n f:Nat):a0g (n+37) (f+3) ((fun y3=>Go.Proofs.YteopnkdnglpbfaaGreatDoor.b0h (n+38) y3.fst (fun y0=>Go.Proofs.YteopnkdnglpbfaaGreatDoor.a0e (n+37) y0.fst (a0l,Int.ofNat 2,Int.ofNat 0).fst) fun y0=>Go.Proofs.YteopnkdnglpbfaaGreatDoor.a0e (n+37) y0.fst (a0q,Int.ofNat 0).fst),([0],([(([([97],[])],(1,(0,10))),((0,2000),(0,1))),(([([97],[])],(1,(0,10))),((0,2001),(0,1))),(([([97],[])],(1,(0,10))),((0,1),(0,3)))],(3,(1,())))))=some (.inl ([0,2],())):=by
 rw[a0f];refine tt (by kernel_rfl) ?_;refine ob (x:=(([([97],[])],(1,(0,10))),((0,2001),(0,1)))) (by kernel_rfl) ?_;refine ob (i1h n) ?_;refine tf (by kernel_rfl) ?_;exact i1d n f
theorem i1b (n f:Nat):a0g (n+37) (f+4) ((fun y3=>Go.Proofs.YteopnkdnglpbfaaGreatDoor.b0h (n+38) y3.fst (fun y0=>Go.Proofs.YteopnkdnglpbfaaGreatDoor.a0e (n+37) y0.fst (a0l,Int.ofNat 2,Int.ofNat 0).fst) fun y0=>Go.Proofs.YteopnkdnglpbfaaGreatDoor.a0e (n+37) y0.fst (a0q,Int.ofNat 0).fst),([],([(([([97],[])],(1,(0,10))),((0,2000),(0,1))),(([([97],[])],(1,(0,10))),((0,2001),(0,1))),(([([97],[])],(1,(0,10))),((0,1),(0,3)))],(3,(0,())))))=some (.inl ([0,2],())):=by
 rw[a0f];refine tt (by kernel_rfl) ?_;refine ob (x:=(([([97],[])],(1,(0,10))),((0,2000),(0,1)))) (by kernel_rfl) ?_;refine ob (i1i n) ?_;refine tt (by kernel_rfl) ?_;refine tt (by kernel_rfl) ?_;exact i1c n f
theorem i1a (n:Nat):b0q (n+38) [(([([97],[])],(1,(0,10))),((0,2000),(0,1))),(([([97],[])],(1,(0,10))),((0,2001),(0,1))),(([([97],[])],(1,(0,10))),((0,1),(0,3)))] (fun y3=>Go.Proofs.YteopnkdnglpbfaaGreatDoor.b0h (n+38) y3.fst (fun y0=>Go.Proofs.YteopnkdnglpbfaaGreatDoor.a0e (n+37) y0.fst (a0l,Int.ofNat 2,Int.ofNat 0).fst) fun y0=>Go.Proofs.YteopnkdnglpbfaaGreatDoor.a0e (n+37) y0.fst (a0q,Int.ofNat 0).fst)=some [0,2]:=by
 rw[c0h];refine ob (b1l (h:=by unfold a0b;omega) (i1b n (a0b-4))) ?_;refine Eq.trans (a0t ..) ?_
 kernel_rfl
theorem h1y (n:Nat):b0g (n+38) (([([97],[])],(1,(0,10))),((0,2000),(0,1))) (fun y0=>Go.Proofs.YteopnkdnglpbfaaGreatDoor.a0e (n+37) y0.fst (a0q,Int.ofNat 0).fst) (fun y0=>Go.Proofs.YteopnkdnglpbfaaGreatDoor.a0e (n+37) y0.fst (a0l,Int.ofNat 2,Int.ofNat 0).fst)=some false:=by
 rw[d0n];refine ob (u0m n) ?_;refine tf (by kernel_rfl) ?_
 kernel_rfl
theorem h1w (n:Nat):c0r (n+36) ((20,((10,(20,60)),((4,(5,6)),(3,9)))),(0,((-1),[([],(0,((0,(0,[])),(([],([],[])),zS)))),([],(0,((0,(0,[])),(([],([],[])),zS)))),([],(0,((0,(0,[])),(([],([],[])),zS))))]))) (([([97],[])],(1,(0,10))),((0,2001),(0,1)))=some (false,12):=by
 rw[c0y];refine ob (f0i (n+19)) ?_;refine tf (by kernel_rfl) ?_;refine ob (n0n (n+27)) ?_;refine tf (by kernel_rfl) ?_;refine ob (j0d (n+10)) ?_;refine tt (by kernel_rfl) ?_;refine tt (by kernel_rfl) ?_
 kernel_rfl
theorem u0l (n:Nat):a0e (n+37) (([([97],[])],(1,(0,10))),((0,2001),(0,1))) ((20,((10,(20,60)),((4,(5,6)),(3,9)))),(0,((-1),[([],(0,((0,(0,[])),(([],([],[])),zS)))),([],(0,((0,(0,[])),(([],([],[])),zS)))),([],(0,((0,(0,[])),(([],([],[])),zS))))])))=some false:=by
 rw[e0v];refine ob (h1w n) ?_
 kernel_rfl
theorem h1u (n:Nat):b0g (n+38) (([([97],[])],(1,(0,10))),((0,2001),(0,1))) (fun y0=>Go.Proofs.YteopnkdnglpbfaaGreatDoor.a0e (n+37) y0.fst (a0q,Int.ofNat 0).fst) (fun y0=>Go.Proofs.YteopnkdnglpbfaaGreatDoor.a0e (n+37) y0.fst (a0l,Int.ofNat 2,Int.ofNat 0).fst)=some false:=by
 rw[d0n];refine ob (u0l n) ?_;refine tf (by kernel_rfl) ?_
 kernel_rfl
theorem h1s (n:Nat):b0g (n+38) (([([97],[])],(1,(0,10))),((0,1),(0,3))) (fun y0=>Go.Proofs.YteopnkdnglpbfaaGreatDoor.a0e (n+37) y0.fst (a0q,Int.ofNat 0).fst) (fun y0=>Go.Proofs.YteopnkdnglpbfaaGreatDoor.a0e (n+37) y0.fst (a0l,Int.ofNat 2,Int.ofNat 0).fst)=some false:=by
 rw[d0n];refine ob (j0c n) ?_;refine tf (by kernel_rfl) ?_
 kernel_rfl
theorem h1q (n f:Nat):a0g (n+37) (f+1) ((fun y5=>Go.Proofs.YteopnkdnglpbfaaGreatDoor.b0g (n+38) y5.fst (fun y0=>Go.Proofs.YteopnkdnglpbfaaGreatDoor.a0e (n+37) y0.fst (a0q,Int.ofNat 0).fst) fun y0=>Go.Proofs.YteopnkdnglpbfaaGreatDoor.a0e (n+37) y0.fst (a0l,Int.ofNat 2,Int.ofNat 0).fst),([],([(([([97],[])],(1,(0,10))),((0,2000),(0,1))),(([([97],[])],(1,(0,10))),((0,2001),(0,1))),(([([97],[])],(1,(0,10))),((0,1),(0,3)))],(3,(3,())))))=some (.inl ([],())):=by
 rw[a0f];refine tf (by kernel_rfl) ?_
 kernel_rfl
theorem h1p (n f:Nat):a0g (n+37) (f+2) ((fun y5=>Go.Proofs.YteopnkdnglpbfaaGreatDoor.b0g (n+38) y5.fst (fun y0=>Go.Proofs.YteopnkdnglpbfaaGreatDoor.a0e (n+37) y0.fst (a0q,Int.ofNat 0).fst) fun y0=>Go.Proofs.YteopnkdnglpbfaaGreatDoor.a0e (n+37) y0.fst (a0l,Int.ofNat 2,Int.ofNat 0).fst),([],([(([([97],[])],(1,(0,10))),((0,2000),(0,1))),(([([97],[])],(1,(0,10))),((0,2001),(0,1))),(([([97],[])],(1,(0,10))),((0,1),(0,3)))],(3,(2,())))))=some (.inl ([],())):=by
 rw[a0f];refine tt (by kernel_rfl) ?_;refine ob (x:=(([([97],[])],(1,(0,10))),((0,1),(0,3)))) (by kernel_rfl) ?_;refine ob (h1s n) ?_;refine tf (by kernel_rfl) ?_;exact h1q n f
theorem h1o (n f:Nat):a0g (n+37) (f+3) ((fun y5=>Go.Proofs.YteopnkdnglpbfaaGreatDoor.b0g (n+38) y5.fst (fun y0=>Go.Proofs.YteopnkdnglpbfaaGreatDoor.a0e (n+37) y0.fst (a0q,Int.ofNat 0).fst) fun y0=>Go.Proofs.YteopnkdnglpbfaaGreatDoor.a0e (n+37) y0.fst (a0l,Int.ofNat 2,Int.ofNat 0).fst),([],([(([([97],[])],(1,(0,10))),((0,2000),(0,1))),(([([97],[])],(1,(0,10))),((0,2001),(0,1))),(([([97],[])],(1,(0,10))),((0,1),(0,3)))],(3,(1,())))))=some (.inl ([],())):=by
 rw[a0f];refine tt (by kernel_rfl) ?_;refine ob (x:=(([([97],[])],(1,(0,10))),((0,2001),(0,1)))) (by kernel_rfl) ?_;refine ob (h1u n) ?_;refine tf (by kernel_rfl) ?_;exact h1p n f
theorem h1m (n f:Nat):a0g (n+37) (f+4) ((fun y5=>Go.Proofs.YteopnkdnglpbfaaGreatDoor.b0g (n+38) y5.fst (fun y0=>Go.Proofs.YteopnkdnglpbfaaGreatDoor.a0e (n+37) y0.fst (a0q,Int.ofNat 0).fst) fun y0=>Go.Proofs.YteopnkdnglpbfaaGreatDoor.a0e (n+37) y0.fst (a0l,Int.ofNat 2,Int.ofNat 0).fst),([],([(([([97],[])],(1,(0,10))),((0,2000),(0,1))),(([([97],[])],(1,(0,10))),((0,2001),(0,1))),(([([97],[])],(1,(0,10))),((0,1),(0,3)))],(3,(0,())))))=some (.inl ([],())):=by
 rw[a0f];refine tt (by kernel_rfl) ?_;refine ob (x:=(([([97],[])],(1,(0,10))),((0,2000),(0,1)))) (by kernel_rfl) ?_;refine ob (h1y n) ?_;refine tf (by kernel_rfl) ?_;exact h1o n f
theorem h1l (n:Nat):b0q (n+38) [(([([97],[])],(1,(0,10))),((0,2000),(0,1))),(([([97],[])],(1,(0,10))),((0,2001),(0,1))),(([([97],[])],(1,(0,10))),((0,1),(0,3)))] (fun y5=>Go.Proofs.YteopnkdnglpbfaaGreatDoor.b0g (n+38) y5.fst (fun y0=>Go.Proofs.YteopnkdnglpbfaaGreatDoor.a0e (n+37) y0.fst (a0q,Int.ofNat 0).fst) fun y0=>Go.Proofs.YteopnkdnglpbfaaGreatDoor.a0e (n+37) y0.fst (a0l,Int.ofNat 2,Int.ofNat 0).fst)=some []:=by
 rw[c0h];refine ob (b1l (h:=by unfold a0b;omega) (h1m n (a0b-4))) ?_;refine Eq.trans (a0t ..) ?_
 kernel_rfl
theorem h1j (n:Nat):f0o (n+39) ((20,((10,(20,60)),((4,(5,6)),(3,9)))),(0,((-1),[([],(0,((0,(0,[])),(([],([],[])),zS)))),([],(0,((0,(0,[])),(([],([],[])),zS)))),([],(0,((0,(0,[])),(([],([],[])),zS))))]))) a0o [(([([97],[])],(1,(0,10))),((0,2000),(0,1))),(([([97],[])],(1,(0,10))),((0,2001),(0,1))),(([([97],[])],(1,(0,10))),((0,1),(0,3)))]=some ([0,2],([],0)):=by
 rw[l0d];refine ob (i1k n) ?_;refine tf (by kernel_rfl) ?_;refine ob (u0n n) ?_;refine ob (n0m n) ?_;refine ob (i1a n) ?_;refine ob (h1l n) ?_
 kernel_rfl
theorem h1h (n f:Nat):b0e (n+37) (f+1) ([a0o,((20,((10,(20,60)),((4,(5,6)),(3,9)))),(0,((-1),[([],(0,((0,(0,[])),(([],([],[])),zS)))),([],(0,((0,(0,[])),(([],([],[])),zS)))),([],(0,((0,(0,[])),(([],([],[])),zS))))])))],(2,(2,())))=some (.inl ()):=by
 rw[b0f];refine tf (by kernel_rfl) ?_
 kernel_rfl
theorem h1g (n f:Nat):b0e (n+37) (f+2) ([a0o,((20,((10,(20,60)),((4,(5,6)),(3,9)))),(0,((-1),[([],(0,((0,(0,[])),(([],([],[])),zS)))),([],(0,((0,(0,[])),(([],([],[])),zS)))),([],(0,((0,(0,[])),(([],([],[])),zS))))])))],(2,(1,())))=some (.inl ()):=by
 rw[b0f];refine tt (by kernel_rfl) ?_;refine ob (x:=((20,((10,(20,60)),((4,(5,6)),(3,9)))),(0,((-1),[([],(0,((0,(0,[])),(([],([],[])),zS)))),([],(0,((0,(0,[])),(([],([],[])),zS)))),([],(0,((0,(0,[])),(([],([],[])),zS))))])))) (by kernel_rfl) ?_;refine ob (f0i (n+21)) ?_;refine tf (by kernel_rfl) ?_;exact h1h n f
theorem h1e (n f:Nat):b0e (n+37) (f+3) ([a0o,((20,((10,(20,60)),((4,(5,6)),(3,9)))),(0,((-1),[([],(0,((0,(0,[])),(([],([],[])),zS)))),([],(0,((0,(0,[])),(([],([],[])),zS)))),([],(0,((0,(0,[])),(([],([],[])),zS))))])))],(2,(0,())))=some (.inl ()):=by
 rw[b0f];refine tt (by kernel_rfl) ?_;refine ob (x:=a0o) (by kernel_rfl) ?_;refine ob (d0i (n+21)) ?_;refine tf (by kernel_rfl) ?_;exact h1g n f
theorem g1z (n:Nat):c0s (n+38) [(([([97],[])],(1,(0,10))),((0,2001),(0,1))),(([([97],[])],(1,(0,10))),((0,1),(0,3)))] [a0o,((20,((10,(20,60)),((4,(5,6)),(3,9)))),(0,((-1),[([],(0,((0,(0,[])),(([],([],[])),zS)))),([],(0,((0,(0,[])),(([],([],[])),zS)))),([],(0,((0,(0,[])),(([],([],[])),zS))))])))]=some 0:=by
 rw[e0j];refine tf (by kernel_rfl) ?_;refine ob (b1l (h:=by unfold a0b;omega) (h1e n (a0b-3))) ?_;refine Eq.trans (a0t ..) ?_
 kernel_rfl
theorem g1y (n:Nat):b0h (n+38) (([([97],[])],(1,(0,10))),((0,2001),(0,1))) (fun y0=>Go.Proofs.YteopnkdnglpbfaaGreatDoor.a0e (n+37) y0.fst (a0q,Int.ofNat 0).fst) (fun y0=>Go.Proofs.YteopnkdnglpbfaaGreatDoor.a0e (n+37) y0.fst (a0l,Int.ofNat 2,Int.ofNat 0).fst)=some false:=by
 rw[d0o];refine ob (u0l n) ?_;refine tf (by kernel_rfl) ?_
 kernel_rfl
theorem g1x (n:Nat):b0h (n+38) (([([97],[])],(1,(0,10))),((0,1),(0,3))) (fun y0=>Go.Proofs.YteopnkdnglpbfaaGreatDoor.a0e (n+37) y0.fst (a0q,Int.ofNat 0).fst) (fun y0=>Go.Proofs.YteopnkdnglpbfaaGreatDoor.a0e (n+37) y0.fst (a0l,Int.ofNat 2,Int.ofNat 0).fst)=some false:=by
 rw[d0o];refine ob (j0c n) ?_;refine tf (by kernel_rfl) ?_
 kernel_rfl
theorem g1w (n f:Nat):a0g (n+37) (f+1) ((fun y3=>Go.Proofs.YteopnkdnglpbfaaGreatDoor.b0h (n+38) y3.fst (fun y0=>Go.Proofs.YteopnkdnglpbfaaGreatDoor.a0e (n+37) y0.fst (a0q,Int.ofNat 0).fst) fun y0=>Go.Proofs.YteopnkdnglpbfaaGreatDoor.a0e (n+37) y0.fst (a0l,Int.ofNat 2,Int.ofNat 0).fst),([],([(([([97],[])],(1,(0,10))),((0,2001),(0,1))),(([([97],[])],(1,(0,10))),((0,1),(0,3)))],(2,(2,())))))=some (.inl ([],())):=by
 rw[a0f];refine tf (by kernel_rfl) ?_
 kernel_rfl
theorem g1v (n f:Nat):a0g (n+37) (f+2) ((fun y3=>Go.Proofs.YteopnkdnglpbfaaGreatDoor.b0h (n+38) y3.fst (fun y0=>Go.Proofs.YteopnkdnglpbfaaGreatDoor.a0e (n+37) y0.fst (a0q,Int.ofNat 0).fst) fun y0=>Go.Proofs.YteopnkdnglpbfaaGreatDoor.a0e (n+37) y0.fst (a0l,Int.ofNat 2,Int.ofNat 0).fst),([],([(([([97],[])],(1,(0,10))),((0,2001),(0,1))),(([([97],[])],(1,(0,10))),((0,1),(0,3)))],(2,(1,())))))=some (.inl ([],())):=by
 rw[a0f];refine tt (by kernel_rfl) ?_;refine ob (x:=(([([97],[])],(1,(0,10))),((0,1),(0,3)))) (by kernel_rfl) ?_;refine ob (g1x n) ?_;refine tf (by kernel_rfl) ?_;exact g1w n f
theorem g1u (n f:Nat):a0g (n+37) (f+3) ((fun y3=>Go.Proofs.YteopnkdnglpbfaaGreatDoor.b0h (n+38) y3.fst (fun y0=>Go.Proofs.YteopnkdnglpbfaaGreatDoor.a0e (n+37) y0.fst (a0q,Int.ofNat 0).fst) fun y0=>Go.Proofs.YteopnkdnglpbfaaGreatDoor.a0e (n+37) y0.fst (a0l,Int.ofNat 2,Int.ofNat 0).fst),([],([(([([97],[])],(1,(0,10))),((0,2001),(0,1))),(([([97],[])],(1,(0,10))),((0,1),(0,3)))],(2,(0,())))))=some (.inl ([],())):=by
 rw[a0f];refine tt (by kernel_rfl) ?_;refine ob (x:=(([([97],[])],(1,(0,10))),((0,2001),(0,1)))) (by kernel_rfl) ?_;refine ob (g1y n) ?_;refine tf (by kernel_rfl) ?_;exact g1v n f
theorem g1t (n:Nat):b0q (n+38) [(([([97],[])],(1,(0,10))),((0,2001),(0,1))),(([([97],[])],(1,(0,10))),((0,1),(0,3)))] (fun y3=>Go.Proofs.YteopnkdnglpbfaaGreatDoor.b0h (n+38) y3.fst (fun y0=>Go.Proofs.YteopnkdnglpbfaaGreatDoor.a0e (n+37) y0.fst (a0q,Int.ofNat 0).fst) fun y0=>Go.Proofs.YteopnkdnglpbfaaGreatDoor.a0e (n+37) y0.fst (a0l,Int.ofNat 2,Int.ofNat 0).fst)=some []:=by
 rw[c0h];refine ob (b1l (h:=by unfold a0b;omega) (g1u n (a0b-3))) ?_;refine Eq.trans (a0t ..) ?_
 kernel_rfl
theorem g1s (n:Nat):b0g (n+38) (([([97],[])],(1,(0,10))),((0,2001),(0,1))) (fun y0=>Go.Proofs.YteopnkdnglpbfaaGreatDoor.a0e (n+37) y0.fst (a0l,Int.ofNat 2,Int.ofNat 0).fst) (fun y0=>Go.Proofs.YteopnkdnglpbfaaGreatDoor.a0e (n+37) y0.fst (a0q,Int.ofNat 0).fst)=some false:=by
 rw[d0n];refine ob (n0l n) ?_;refine tf (by kernel_rfl) ?_
 kernel_rfl
theorem g1r (n:Nat):b0g (n+38) (([([97],[])],(1,(0,10))),((0,1),(0,3))) (fun y0=>Go.Proofs.YteopnkdnglpbfaaGreatDoor.a0e (n+37) y0.fst (a0l,Int.ofNat 2,Int.ofNat 0).fst) (fun y0=>Go.Proofs.YteopnkdnglpbfaaGreatDoor.a0e (n+37) y0.fst (a0q,Int.ofNat 0).fst)=some true:=by
 rw[d0n];refine ob (n0k n) ?_;refine tt (by kernel_rfl) ?_;refine ob (j0c n) ?_
 kernel_rfl
theorem g1q (n f:Nat):a0g (n+37) (f+1) ((fun y5=>Go.Proofs.YteopnkdnglpbfaaGreatDoor.b0g (n+38) y5.fst (fun y0=>Go.Proofs.YteopnkdnglpbfaaGreatDoor.a0e (n+37) y0.fst (a0l,Int.ofNat 2,Int.ofNat 0).fst) fun y0=>Go.Proofs.YteopnkdnglpbfaaGreatDoor.a0e (n+37) y0.fst (a0q,Int.ofNat 0).fst),([1],([(([([97],[])],(1,(0,10))),((0,2001),(0,1))),(([([97],[])],(1,(0,10))),((0,1),(0,3)))],(2,(2,())))))=some (.inl ([1],())):=by
 rw[a0f];refine tf (by kernel_rfl) ?_
 kernel_rfl
theorem g1p (n f:Nat):a0g (n+37) (f+2) ((fun y5=>Go.Proofs.YteopnkdnglpbfaaGreatDoor.b0g (n+38) y5.fst (fun y0=>Go.Proofs.YteopnkdnglpbfaaGreatDoor.a0e (n+37) y0.fst (a0l,Int.ofNat 2,Int.ofNat 0).fst) fun y0=>Go.Proofs.YteopnkdnglpbfaaGreatDoor.a0e (n+37) y0.fst (a0q,Int.ofNat 0).fst),([],([(([([97],[])],(1,(0,10))),((0,2001),(0,1))),(([([97],[])],(1,(0,10))),((0,1),(0,3)))],(2,(1,())))))=some (.inl ([1],())):=by
 rw[a0f];refine tt (by kernel_rfl) ?_;refine ob (x:=(([([97],[])],(1,(0,10))),((0,1),(0,3)))) (by kernel_rfl) ?_;refine ob (g1r n) ?_;refine tt (by kernel_rfl) ?_;refine tt (by kernel_rfl) ?_;exact g1q n f
theorem g1n (n f:Nat):a0g (n+37) (f+3) ((fun y5=>Go.Proofs.YteopnkdnglpbfaaGreatDoor.b0g (n+38) y5.fst (fun y0=>Go.Proofs.YteopnkdnglpbfaaGreatDoor.a0e (n+37) y0.fst (a0l,Int.ofNat 2,Int.ofNat 0).fst) fun y0=>Go.Proofs.YteopnkdnglpbfaaGreatDoor.a0e (n+37) y0.fst (a0q,Int.ofNat 0).fst),([],([(([([97],[])],(1,(0,10))),((0,2001),(0,1))),(([([97],[])],(1,(0,10))),((0,1),(0,3)))],(2,(0,())))))=some (.inl ([1],())):=by
 rw[a0f];refine tt (by kernel_rfl) ?_;refine ob (x:=(([([97],[])],(1,(0,10))),((0,2001),(0,1)))) (by kernel_rfl) ?_;refine ob (g1s n) ?_;refine tf (by kernel_rfl) ?_;exact g1p n f
theorem g1m (n:Nat):b0q (n+38) [(([([97],[])],(1,(0,10))),((0,2001),(0,1))),(([([97],[])],(1,(0,10))),((0,1),(0,3)))] (fun y5=>Go.Proofs.YteopnkdnglpbfaaGreatDoor.b0g (n+38) y5.fst (fun y0=>Go.Proofs.YteopnkdnglpbfaaGreatDoor.a0e (n+37) y0.fst (a0l,Int.ofNat 2,Int.ofNat 0).fst) fun y0=>Go.Proofs.YteopnkdnglpbfaaGreatDoor.a0e (n+37) y0.fst (a0q,Int.ofNat 0).fst)=some [1]:=by
 rw[c0h];refine ob (b1l (h:=by unfold a0b;omega) (g1n n (a0b-3))) ?_;refine Eq.trans (a0t ..) ?_
 kernel_rfl
theorem g1l (n:Nat):f0o (n+39) a0o ((20,((10,(20,60)),((4,(5,6)),(3,9)))),(0,((-1),[([],(0,((0,(0,[])),(([],([],[])),zS)))),([],(0,((0,(0,[])),(([],([],[])),zS)))),([],(0,((0,(0,[])),(([],([],[])),zS))))]))) [(([([97],[])],(1,(0,10))),((0,2001),(0,1))),(([([97],[])],(1,(0,10))),((0,1),(0,3)))]=some ([],([1],0)):=by
 rw[l0d];refine ob (g1z n) ?_;refine tf (by kernel_rfl) ?_;refine ob (n0m n) ?_;refine ob (u0n n) ?_;refine ob (g1t n) ?_;refine ob (g1m n) ?_
 kernel_rfl
theorem u0k (n:Nat):i0z (n+39) [0,2] [0,2]=some true:=by kernel_rfl
theorem g1j (n:Nat):i0z (n+39) [1] [1]=some true:=by kernel_rfl
theorem j1m (n:Nat):o0n (n+40)=some true:=by
 rw[g1i];refine ob (o1w (n+0)) ?_;refine ob (o1v (n+0)) ?_;refine tf (by kernel_rfl) ?_;refine ob (o1u (n+0)) ?_;refine tf (by kernel_rfl) ?_;refine tf (by kernel_rfl) ?_;refine ob (o1t (n+0)) ?_;refine ob (o1s (n+0)) ?_;refine ob (o1r (n+0)) ?_;refine ob (j1g n) ?_;refine ob (j1f n) ?_;refine ob (j1e n) ?_;refine ob (j1d (n+0)) ?_;refine ob (j1b n) ?_;refine ob (i1o n) ?_;refine ob (h1j n) ?_;refine ob (g1l n) ?_
 refine tt (by kernel_rfl) ?_;refine tt (by kernel_rfl) ?_;refine tt (by kernel_rfl) ?_;refine tt (by kernel_rfl) ?_;refine tt (by kernel_rfl) ?_;refine tt (by kernel_rfl) ?_;refine ob (u0k (n+0)) ?_;refine tt (by kernel_rfl) ?_;refine tt (by kernel_rfl) ?_;refine ob (u0k (n+0)) ?_;refine tt (by kernel_rfl) ?_;refine tt (by kernel_rfl) ?_;refine tt (by kernel_rfl) ?_;refine tt (by kernel_rfl) ?_;refine ob (g1j (n+0)) ?_;refine tt (by kernel_rfl) ?_
 kernel_rfl
end Go.Proofs.YteopnkdnglpbfaaGreatDoor
namespace Go.Proofs.YteopnkdnglpbfaaGreatDoor
open Go.Flat Go.Plim
set_option linter.unusedVariables false
set_option linter.unusedSimpArgs false
theorem h2t (n:Nat) {s:Sta} (hw:StaW s) {w:Wat} (hf:FrW w.2):n1k (n+14) s w=some (oneW s w):=by
 rw[d2s,l0s (n+4) hw,obs];unfold oneW;by_cases h:StaOk s
 case neg=>rw[q0n h,q0n h];rfl
 rw[q0z h,q0z h,e1a (n+7) hf];simp only[decide_true,q2s,tff,obs];by_cases h2:o0y w.2
 case neg=>rw[q0n h2,q0n h2];rfl
 rw[q0z h2,q0z h2,r22_do n hw w.1];simp only[decide_true,q2s,tff,obs,tfd,tfn];have hq:=(doQ_w s w.1.1 w.1.2.1 w.1.2.2.1 w.1.2.2.2).1;generalize doQ s w.1.1 w.1.2.1 w.1.2.2.1 w.1.2.2.2=d at *
 by_cases h3:d.2=0
 case neg=>rw[q0n h3,q0n h3]
 rw[q0z h3,q0z h3];by_cases h4:d.1.2.2.2=0
 case neg=>rw[q0n h4,q0n h4]
 rw[q0z h4,q0z h4,i2g (n+6) hq hf,obs];by_cases h5:(j1h d.1.2.2.1 w.2).2=0
 ·rw[q0z h5,q0z h5]
 ·rw[q0n h5,q0n h5]
theorem p0q (n:Nat) {s:Sta} (hw:StaW s) {w:Wat} (hf:FrW w.2):r0k (n+15) s w=some (m0j s w):=by
 rw[s1a,h2t n hw hf,obs];unfold m0j;cases h:(oneW s w).1 with
 | true=>rw[tft,oneW_ok h];rfl
 | false=>rw[tff]
theorem x1d (n:Nat) {s:Sta} (hw:StaW s) {l:List Wat} (hL:l.length<=1000000) (hf:∀w∈l,FrW w.2):∀(rest pre:List Wat) (f:Nat) (out:List Int) (i len:Int),l=pre++rest->i=pre.length->len=l.length->rest.length<f->out.length<=pre.length ->
  j0k (n+15) f (s,out,l,len,i,())=some (.inl (out++plcs (m0j s) rest i,())):=by
 intro rest;induction rest with
 | nil =>
  intro pre f out i len h hi hn hf2 ho;obtain ⟨f,rfl⟩:∃g,f=g+1:=⟨f-1,by simp at hf2;omega⟩;rw[r0l,q1z (idxe h hi hn),tff];simp[plcs]
 | cons x rest ih =>
  intro pre f out i len h hi hn hf2 ho;obtain ⟨f,rfl⟩:∃g,f=g+1:=⟨f-1,by simp at hf2;omega⟩;have hlen:=congrArg List.length h;simp only[q2d,q2k] at hlen;rw[r0l,q2a (idx h hi hn),tft,c0e h hi,obs,p0q n hw (hf x (by rw[h];simp)),obs,idxw h hi (by omega),plcs];cases hb:m0j s x with
  | true =>
   rw[tft,tfd,q0z (by omega),ih (pre++[x]) f (out++[i]) (i+1) len (idxl h) (idxs hi) hn (by simp at hf2;omega) (by simp;omega),q0z rfl,q2g];rfl
  | false =>
   rw[tff,ih (pre++[x]) f out (i+1) len (idxl h) (idxs hi) hn (by simp at hf2;omega) (by simp;omega),q0n (by decide)]
theorem n1j (n:Nat) {s:Sta} (hw:StaW s) {ws:List Wat} (hf:WsW ws):d1p (n+16) s ws=some (k1m s ws):=by
 rw[s1b,tfd];unfold k1m;by_cases h:256<ws.length
 ·rw[q0z (by omega),q0z h]
 rw[q0n (by omega),q0n h,l0s (n+6) hw,obs];by_cases h1:StaOk s
 case neg=>rw[q0n h1,q0n h1];rfl
 rw[q0z h1,q0z h1,q2a rfl,q2s,tff,x1d n hw (by omega) hf.fr ws [] a0b [] 0 _ rfl rfl rfl (by unfold a0b;omega) (by simp),obs];rfl
theorem r1z (n:Nat) {a b:Sta} (ha:StaW a) (hb:StaW b) {l:List Wat} (hL:l.length<=1000000) (hf:∀w∈l,FrW w.2):∀(rest pre:List Wat) (f:Nat) (up down:List Int) (i len:Int),l=pre++rest->i=pre.length->len=l.length->rest.length<f->up.length<=pre.length->down.length<=pre.length ->
  c0k (n+15) f (a,b,up,down,l,len,i,())=some (.inl (up++plcs (upB a b) rest i,(down++plcs (upB b a) rest i,()))):=by
 intro rest;induction rest with
 | nil =>
  intro pre f up down i len h hi hn hf2 h1 h2;obtain ⟨f,rfl⟩:∃g,f=g+1:=⟨f-1,by simp at hf2;omega⟩;rw[q0r,q1z (idxe h hi hn),tff];simp[plcs]
 | cons x rest ih =>
  intro pre f up down i len h hi hn hf2 h1 h2;obtain ⟨f,rfl⟩:∃g,f=g+1:=⟨f-1,by simp at hf2;omega⟩;have hlen:=congrArg List.length h;simp only[q2d,q2k] at hlen;have hx:=hf x (by rw[h];simp);have IH:=fun up down h1 h2=>ih (pre++[x]) f up down (i+1) len (idxl h) (idxs hi) hn (by simp at hf2;omega) h1 h2
  have a1:(up++[i]).length<=(pre++[x]).length:=by simp;omega
  have a2:(down++[i]).length<=(pre++[x]).length:=by simp;omega
  have a3:up.length<=(pre++[x]).length:=by simp;omega
  have a4:down.length<=(pre++[x]).length:=by simp;omega
  rw[q0r,q2a (idx h hi hn),tft,c0e h hi,obs,p0q n ha hx,obs,p0q n hb hx,obs,idxw h hi (by omega),plcs,plcs];unfold upB;rw[q2a (show (up.length+1)*8<=140737488355328 by omega),q2a (show (down.length+1)*8<=140737488355328 by omega)];have e1:=IH (up++[i]) down a1 a4;have e2:=IH up (down++[i]) a3 a2;have e3:=IH up down a3 a4;unfold upB at e1 e2 e3
  cases h5:m0j a x<;>cases h6:m0j b x<;>simp only[h5,h6,tft,tff,q2s,q3c,Bool.and_true,Bool.and_false,Bool.true_and,Bool.false_and,e1,e2,e3,if_true,if_false,q2g,List.singleton_append,Bool.false_eq_true]
theorem f1y (n:Nat) {a b:Sta} (ha:StaW a) (hb:StaW b) {ws:List Wat} (hf:WsW ws):z0g (n+16) a b ws=some (q1w a b ws):=by
 rw[n1i,tfd];unfold q1w;by_cases h:256<ws.length
 ·rw[q0z (by omega),q0z h]
 rw[q0n (by omega),q0n h,l0s (n+6) ha,obs];by_cases h1:StaOk a
 case neg=>rw[q0n h1,q0n (fun k=>h1 k.1)];rfl
 rw[q0z h1,q2a rfl,q2s,tff,l0s (n+6) hb,obs];by_cases h2:StaOk b
 case neg=>rw[q0n h2,q0n (fun k=>h2 k.2)];rfl
 rw[q0z h2,q0z ⟨h1,h2⟩,q2a rfl,q2s,tff,r1z n ha hb (by omega) hf.fr ws [] a0b [] [] 0 _ rfl rfl rfl (by unfold a0b;omega) (by simp) (by simp),obs];rfl
theorem c2z (n:Nat) {s:Sta} (hw:StaW s) (o:Sta) {l:List Wat} (hL:l.length<=1000000) (hf:∀w∈l,FrW w.2):∀(rest pre:List Wat) (f:Nat) (i len:Int),l=pre++rest->i=pre.length->len=l.length->rest.length<f ->
  g0e (n+25) f (l,s,o,l,len,i,())=some (.inl (l,(s,(o,())))):=by
 intro rest;induction rest with
 | nil =>
  intro pre f i len h hi hn hf2;obtain ⟨f,rfl⟩:∃g,f=g+1:=⟨f-1,by simp at hf2;omega⟩;rw[k0c,q1z (idxe h hi hn),tff]
 | cons x rest ih =>
  intro pre f i len h hi hn hf2;obtain ⟨f,rfl⟩:∃g,f=g+1:=⟨f-1,by simp at hf2;omega⟩;have hlen:=congrArg List.length h;simp only[q2d,q2k] at hlen;have hx:=hf x (by rw[h];simp);rw[k0c,q2a (idx h hi hn),tft,c0e h hi,obs,tfd];by_cases h12:i=12
  ·rw[q0z h12]
  rw[q0n h12,q1u n hw hx,obs,h2t (n+11) hw hx,obs,beq_self_eq_true,q2s,tff,q2a rfl,q2s,tff,idxw h hi (by omega)];exact ih (pre++[x]) f (i+1) len (idxl h) (idxs hi) hn (by simp at hf2;omega)
theorem ask_lenw {q:List Lab×(Int×(Int×Int))} (h:Wf l1y q):q.1.length<=9223372036854775807:=h.1.1
theorem fr_wfw {f:Wd×Wd} (h:Wf b0s f):FrW f:=⟨⟨h.1.1,h.1.2⟩,⟨h.2.1,h.2.2⟩⟩
theorem h2f (n:Nat) (ws:List Wat) (hL:ws.length<=1000000) (hq:∀w∈ws,w.1.1.length<=9223372036854775807):∀(rest pre:List Wat) (f:Nat) (i len:Int),ws=pre++rest->i=pre.length->len=ws.length->rest.length<f ->
  e0s (n+1) f (ws,len,i,())=some (.inr 0)\/e0s (n+1) f (ws,len,i,())=some (.inl ()):=by
 intro rest;induction rest with
 | nil =>
  intro pre f i len hl hi hn hf;obtain ⟨f,rfl⟩:∃g,f=g+1:=⟨f-1,by simp at hf;omega⟩;rw[s0j,q1z (idxe hl hi hn),tff];exact .inr rfl
 | cons x rest ih =>
  intro pre f i len hl hi hn hf;obtain ⟨f,rfl⟩:∃g,f=g+1:=⟨f-1,by simp at hf;omega⟩;rw[s0j,q2a (idx hl hi hn),tft,c0e hl hi,obs];rcases u1l n x.1.1 (hq x (by rw[hl];simp)) with h | h
  ·rw[h];exact .inl rfl
  ·rw[h,obs,show (decide ((1:Int)=0))=false from rfl,tff,idxw hl hi (show ws.length<=1000000000000 by omega)];exact ih (pre++[x]) f (i+1) len (idxl hl) (idxs hi) hn (by simp at hf;omega)
theorem j2o (n:Nat) (ws:List Wat) (hq:∀w∈ws,w.1.1.length<=9223372036854775807):y0d (n+2) ws=some 0\/(y0d (n+2) ws=some 1/\ws.length<=300):=by
 rw[u1g];simp only[tfd];by_cases h3:(300:Int)<(ws.length:Int)
 ·simp only[q0z h3];rw[q0z (show (12:Int)<(ws.length:Int) by omega),q0n (show ¬(ws.length:Int)<=256 by omega)];exact .inl rfl
 simp only[q0n h3];have key:(a0a (e0s (n+1) a0b (ws,((ws.length:Nat):Int),(0:Int),())) fun r=>b0x (fun y=>some (1:Int)) (fun z=>some z) r)=some 0\/(a0a (e0s (n+1) a0b (ws,((ws.length:Nat):Int),(0:Int),())) fun r=>b0x (fun y=>some (1:Int)) (fun z=>some z) r)=some 1:=by
  rcases h2f n ws (by omega) hq ws [] a0b 0 _ rfl rfl rfl (by unfold a0b;omega) with h | h
  ·rw[h];exact .inl rfl
  ·rw[h];exact .inr rfl
 by_cases h1:(12:Int)<(ws.length:Int)
 ·rw[q0z h1];by_cases h2:(ws.length:Int)<=256
  ·rw[q0z h2];exact .inl rfl
  ·rw[q0n h2];exact key.imp id fun k=>⟨k,by omega⟩
 ·rw[q0n h1];exact key.imp id fun k=>⟨k,by omega⟩
theorem c1u (n:Nat) (s o:Sta) (ws:List Wat) (hs:Wf a0j s) (ho:Wf a0j o) (hws:Wf (.slice b0r) ws):u0r (n+41) s o ws=some true:=by
 have wa:=sta_wf hs;have wb:=sta_wf ho;have hW:WsW ws:=⟨fun w hw=>fr_wfw (hws.2 w hw).2⟩;rw[z0x,j1m n];rcases u1h (n+37) wa with h | ⟨h,_⟩
 ·rw[h];rfl
 rw[h,obs,show (decide ((1:Int)=0))=false from rfl,tff];rcases u1h (n+37) wb with h | ⟨h,_⟩
 ·rw[h];rfl
 rw[h,obs,show (decide ((1:Int)=0))=false from rfl,tff];rcases j2o (n+38) ws (fun w hw=>ask_lenw (hws.2 w hw).1) with h | ⟨h,hlen⟩
 ·rw[h];rfl
 have l1:=o1i (upB s o) ws 0;have l2:=o1i (upB o s) ws 0;have l3:=o1i (m0j s) ws 0;rw[h,obs,show (decide ((1:Int)=0))=false from rfl,tff,c2z (n+15) wa o (by omega) hW.fr ws [] a0b 0 _ rfl rfl rfl (by unfold a0b;omega),obs,a0t];dsimp only;rw[v1z (n+12) wa hW,obs,n1j (n+24) wa hW,obs,q1t (n+11) wa wb hW,obs,f1y (n+24) wa wb hW,obs,obs,tft];have b1:(k1m s ws).1.length<=1000000:=by
  unfold k1m;split
  ·simp
  split
  ·dsimp only;omega
  ·simp
 have b2:(q1w s o ws).1.length<=1000000:=by
  unfold q1w;split
  ·simp
  split
  ·dsimp only;omega
  ·simp
 have b3:(q1w s o ws).2.1.length<=1000000:=by
  unfold q1w;split
  ·simp
  split
  ·dsimp only;omega
  ·simp
 rw[p0w (n+39) _ b1,obs,tft,q2a rfl,tft,p0w (n+39) _ b2,obs,tft,p0w (n+39) _ b3,obs,tft,q2a rfl]
end Go.Proofs.YteopnkdnglpbfaaGreatDoor
