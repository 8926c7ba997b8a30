/-
  Plain proofs about the functions of this seat, part 3 of 3.
-/
import Derived.Test.YtjeabebacegikaaGreatDoorQ2
import Derived.Test.YtjeabebacegikaaGreatDoorTr
import Derived.KernelRfl
namespace Go.Proofs.YtjeabebacegikaaGreatDoor
open Go.Flat
set_option linter.unusedVariables false
theorem l22_lives_eq (n:Nat)  : l22_lives (n+1)  =
  obind (l10_Fit n ) fun r0 =>
  obind (stt_New n r0) fun r1 =>
  tif ((!(decide (r1.2=(0:Int))))) (
  some false) (
  obind (write_All n r1.1 ((((97:UInt8)::[]),[])::[]) (((2:Int),((1:Int),((0:Int),false)))::(((4:Int),((5:Int),((0:Int),false)))::[]))) fun r2 =>
  tif ((!(decide (r2.2.1=(2:Int))))) (
  some false) (
  tif ((!(decide (r2.2.2=(0:Int))))) (
  some false) (
  obind (query_Do n (r2.1.1,((45:Int),r2.1.2.2)) (((((97:UInt8)::[]),[])::[]),((1:Int),((0:Int),(10:Int))))) fun r3 =>
  obind (query_Do n (r2.1.1,((45:Int),r2.1.2.2)) (((((97:UInt8)::[]),[])::[]),((0:Int),((0:Int),(20:Int))))) fun r4 =>
  obind (query_Do n (r2.1.1,((45:Int),r2.1.2.2)) (((((97:UInt8)::[]),[])::[]),((0:Int),((0:Int),(25:Int))))) fun r5 =>
  obind (query_Do n (r2.1.1,((45:Int),r2.1.2.2)) (((((97:UInt8)::[]),[])::[]),((2:Int),((10:Int),(20:Int))))) fun r6 =>
  obind (query_Do n (r2.1.1,((45:Int),r2.1.2.2)) (((((98:UInt8)::[]),[])::[]),((3:Int),((0:Int),(60:Int))))) fun r7 =>
  obind (query_Raw n (r2.1.1,((45:Int),r2.1.2.2)) ((((97:UInt8)::[]),[])::[]) (3:Int) (30:Int)) fun r8 =>
  tif ((decide (r3.2=(11:Int)))) (
  tif ((decide (r3.1.1=(0:Int)))) (
  tif ((decide (r4.1.1=(2:Int)))) (
  tif ((decide (r4.1.2.1.1=(2:Int)))) (
  tif (((decide (r4.1.2.2.1.1.1=(0:Int)))&&((decide (r4.1.2.2.1.1.2=(2000:Int)))&&((decide (r4.1.2.2.1.2.1=(0:Int)))&&(decide (r4.1.2.2.1.2.2=(1:Int))))))) (
  tif ((decide (r4.1.2.2.2=(0:Int)))) (
  tif ((decide (r4.2=(0:Int)))) (
  tif ((decide (r5.2=(10:Int)))) (
  tif ((decide (r6.2=(10:Int)))) (
  tif (((decide (r7.1.2.1.1=(0:Int)))&&((decide (r7.1.2.1.2.1.1=(0:Int)))&&((decide (r7.1.2.1.2.1.2.1=(0:Int)))&&((decide (r7.1.2.1.2.1.2.2.1=(0:Int)))&&((r7.1.2.1.2.1.2.2.2==false)&&((decide (r7.1.2.1.2.2.1.1=(0:Int)))&&((decide (r7.1.2.1.2.2.1.2.1=(0:Int)))&&((decide (r7.1.2.1.2.2.1.2.2.1=(0:Int)))&&((r7.1.2.1.2.2.1.2.2.2==false)&&((decide (r7.1.2.1.2.2.2.1.1=(0:Int)))&&((decide (r7.1.2.1.2.2.2.1.2=(0:Int)))&&((decide (r7.1.2.1.2.2.2.2.1=(0:Int)))&&((decide (r7.1.2.1.2.2.2.2.2.1=(0:Int)))&&(decide (r7.1.2.1.2.2.2.2.2.2=(0:Int))))))))))))))))) (
  tif ((decide (r7.1.2.2.2=(12:Int)))) (
  tif ((decide (r7.2=(0:Int)))) (
  tif ((decide ((((List.length r8.1):Nat):Int)=(1:Int)))) (
  obind (at? r8.1 (0:Int)) fun r9 =>
  tif ((decide (r9.2.1=(5:Int)))) (
  some (decide (r8.2=(0:Int)))) (
  some false)) (
  some false)) (
  some false)) (
  some false)) (
  some false)) (
  some false)) (
  some false)) (
  some false)) (
  some false)) (
  some false)) (
  some false)) (
  some false)) (
  some false)) (
  some false)))):=by kernel_rfl
theorem lvl22_lives_0 (n:Nat):l10_Fit (n+39)=some (20,((10,(20,60)),((4,(5,6)),(3,9)))):=by kernel_rfl
theorem lvl22_lives_1 (n:Nat):stt_New (n+39) (20,((10,(20,60)),((4,(5,6)),(3,9))))=some (((20,((10,(20,60)),((4,(5,6)),(3,9)))),(0,((-1),[([],(0,((0,(0,[])),(([],([],[])),(0,(0,((0,(0,(0,false))),((0,(0,(0,false))),((0,0),(0,(0,0))))))))))),([],(0,((0,(0,[])),(([],([],[])),(0,(0,((0,(0,(0,false))),((0,(0,(0,false))),((0,0),(0,(0,0))))))))))),([],(0,((0,(0,[])),(([],([],[])),(0,(0,((0,(0,(0,false))),((0,(0,(0,false))),((0,0),(0,(0,0)))))))))))]))),0):=by kernel_rfl
theorem lvl22_lives_2 (n:Nat):write_All (n+39) ((20,((10,(20,60)),((4,(5,6)),(3,9)))),(0,((-1),[([],(0,((0,(0,[])),(([],([],[])),(0,(0,((0,(0,(0,false))),((0,(0,(0,false))),((0,0),(0,(0,0))))))))))),([],(0,((0,(0,[])),(([],([],[])),(0,(0,((0,(0,(0,false))),((0,(0,(0,false))),((0,0),(0,(0,0))))))))))),([],(0,((0,(0,[])),(([],([],[])),(0,(0,((0,(0,(0,false))),((0,(0,(0,false))),((0,0),(0,(0,0)))))))))))]))) [([97],[])] [(2,(1,(0,false))),(4,(5,(0,false)))]=some (((20,((10,(20,60)),((4,(5,6)),(3,9)))),(0,((-1),[([([97],[])],(4,((0,(0,[(2,(1,(0,false))),(4,(5,(0,false)))])),(([(0,(0,((0,(0,(0,false))),((0,(0,(0,false))),((0,0),(0,(0,0))))))),(0,(0,((0,(0,(0,false))),((0,(0,(0,false))),((0,0),(0,(0,0))))))),(0,(0,((0,(0,(0,false))),((0,(0,(0,false))),((0,0),(0,(0,0))))))),(0,(0,((0,(0,(0,false))),((0,(0,(0,false))),((0,0),(0,(0,0)))))))],([(0,(0,((0,(0,(0,false))),((0,(0,(0,false))),((0,0),(0,(0,0))))))),(0,(0,((0,(0,(0,false))),((0,(0,(0,false))),((0,0),(0,(0,0))))))),(0,(0,((0,(0,(0,false))),((0,(0,(0,false))),((0,0),(0,(0,0))))))),(0,(0,((0,(0,(0,false))),((0,(0,(0,false))),((0,0),(0,(0,0))))))),(0,(0,((0,(0,(0,false))),((0,(0,(0,false))),((0,0),(0,(0,0)))))))],[(0,(0,((0,(0,(0,false))),((0,(0,(0,false))),((0,0),(0,(0,0))))))),(0,(0,((0,(0,(0,false))),((0,(0,(0,false))),((0,0),(0,(0,0))))))),(0,(0,((0,(0,(0,false))),((0,(0,(0,false))),((0,0),(0,(0,0))))))),(0,(0,((0,(0,(0,false))),((0,(0,(0,false))),((0,0),(0,(0,0))))))),(0,(0,((0,(0,(0,false))),((0,(0,(0,false))),((0,0),(0,(0,0))))))),(0,(0,((0,(0,(0,false))),((0,(0,(0,false))),((0,0),(0,(0,0)))))))])),(0,(2,((2,(1,(0,false))),((4,(5,(0,false))),((0,4),(0,(0,2))))))))))),([],(0,((0,(0,[])),(([],([],[])),(0,(0,((0,(0,(0,false))),((0,(0,(0,false))),((0,0),(0,(0,0))))))))))),([],(0,((0,(0,[])),(([],([],[])),(0,(0,((0,(0,(0,false))),((0,(0,(0,false))),((0,0),(0,(0,0)))))))))))]))),(2,0)):=by kernel_rfl
theorem lvl22_lives_3 (n:Nat):query_Do (n+39) ((20,((10,(20,60)),((4,(5,6)),(3,9)))),(45,((-1),[([([97],[])],(4,((0,(0,[(2,(1,(0,false))),(4,(5,(0,false)))])),(([(0,(0,((0,(0,(0,false))),((0,(0,(0,false))),((0,0),(0,(0,0))))))),(0,(0,((0,(0,(0,false))),((0,(0,(0,false))),((0,0),(0,(0,0))))))),(0,(0,((0,(0,(0,false))),((0,(0,(0,false))),((0,0),(0,(0,0))))))),(0,(0,((0,(0,(0,false))),((0,(0,(0,false))),((0,0),(0,(0,0)))))))],([(0,(0,((0,(0,(0,false))),((0,(0,(0,false))),((0,0),(0,(0,0))))))),(0,(0,((0,(0,(0,false))),((0,(0,(0,false))),((0,0),(0,(0,0))))))),(0,(0,((0,(0,(0,false))),((0,(0,(0,false))),((0,0),(0,(0,0))))))),(0,(0,((0,(0,(0,false))),((0,(0,(0,false))),((0,0),(0,(0,0))))))),(0,(0,((0,(0,(0,false))),((0,(0,(0,false))),((0,0),(0,(0,0)))))))],[(0,(0,((0,(0,(0,false))),((0,(0,(0,false))),((0,0),(0,(0,0))))))),(0,(0,((0,(0,(0,false))),((0,(0,(0,false))),((0,0),(0,(0,0))))))),(0,(0,((0,(0,(0,false))),((0,(0,(0,false))),((0,0),(0,(0,0))))))),(0,(0,((0,(0,(0,false))),((0,(0,(0,false))),((0,0),(0,(0,0))))))),(0,(0,((0,(0,(0,false))),((0,(0,(0,false))),((0,0),(0,(0,0))))))),(0,(0,((0,(0,(0,false))),((0,(0,(0,false))),((0,0),(0,(0,0)))))))])),(0,(2,((2,(1,(0,false))),((4,(5,(0,false))),((0,4),(0,(0,2))))))))))),([],(0,((0,(0,[])),(([],([],[])),(0,(0,((0,(0,(0,false))),((0,(0,(0,false))),((0,0),(0,(0,0))))))))))),([],(0,((0,(0,[])),(([],([],[])),(0,(0,((0,(0,(0,false))),((0,(0,(0,false))),((0,0),(0,(0,0)))))))))))]))) ([([97],[])],(1,(0,10)))=some ((0,((0,((0,(0,(0,false))),((0,(0,(0,false))),((0,0),(0,(0,0)))))),(((0,0),(0,0)),0))),11):=by kernel_rfl
theorem lvl22_lives_4 (n:Nat):query_Do (n+39) ((20,((10,(20,60)),((4,(5,6)),(3,9)))),(45,((-1),[([([97],[])],(4,((0,(0,[(2,(1,(0,false))),(4,(5,(0,false)))])),(([(0,(0,((0,(0,(0,false))),((0,(0,(0,false))),((0,0),(0,(0,0))))))),(0,(0,((0,(0,(0,false))),((0,(0,(0,false))),((0,0),(0,(0,0))))))),(0,(0,((0,(0,(0,false))),((0,(0,(0,false))),((0,0),(0,(0,0))))))),(0,(0,((0,(0,(0,false))),((0,(0,(0,false))),((0,0),(0,(0,0)))))))],([(0,(0,((0,(0,(0,false))),((0,(0,(0,false))),((0,0),(0,(0,0))))))),(0,(0,((0,(0,(0,false))),((0,(0,(0,false))),((0,0),(0,(0,0))))))),(0,(0,((0,(0,(0,false))),((0,(0,(0,false))),((0,0),(0,(0,0))))))),(0,(0,((0,(0,(0,false))),((0,(0,(0,false))),((0,0),(0,(0,0))))))),(0,(0,((0,(0,(0,false))),((0,(0,(0,false))),((0,0),(0,(0,0)))))))],[(0,(0,((0,(0,(0,false))),((0,(0,(0,false))),((0,0),(0,(0,0))))))),(0,(0,((0,(0,(0,false))),((0,(0,(0,false))),((0,0),(0,(0,0))))))),(0,(0,((0,(0,(0,false))),((0,(0,(0,false))),((0,0),(0,(0,0))))))),(0,(0,((0,(0,(0,false))),((0,(0,(0,false))),((0,0),(0,(0,0))))))),(0,(0,((0,(0,(0,false))),((0,(0,(0,false))),((0,0),(0,(0,0))))))),(0,(0,((0,(0,(0,false))),((0,(0,(0,false))),((0,0),(0,(0,0)))))))])),(0,(2,((2,(1,(0,false))),((4,(5,(0,false))),((0,4),(0,(0,2))))))))))),([],(0,((0,(0,[])),(([],([],[])),(0,(0,((0,(0,(0,false))),((0,(0,(0,false))),((0,0),(0,(0,0))))))))))),([],(0,((0,(0,[])),(([],([],[])),(0,(0,((0,(0,(0,false))),((0,(0,(0,false))),((0,0),(0,(0,0)))))))))))]))) ([([97],[])],(0,(0,20)))=some ((2,((2,((2,(1,(0,false))),((4,(5,(0,false))),((0,4),(0,(0,2)))))),(((0,2000),(0,1)),0))),0):=by kernel_rfl
theorem lvl22_lives_5 (n:Nat):query_Do (n+39) ((20,((10,(20,60)),((4,(5,6)),(3,9)))),(45,((-1),[([([97],[])],(4,((0,(0,[(2,(1,(0,false))),(4,(5,(0,false)))])),(([(0,(0,((0,(0,(0,false))),((0,(0,(0,false))),((0,0),(0,(0,0))))))),(0,(0,((0,(0,(0,false))),((0,(0,(0,false))),((0,0),(0,(0,0))))))),(0,(0,((0,(0,(0,false))),((0,(0,(0,false))),((0,0),(0,(0,0))))))),(0,(0,((0,(0,(0,false))),((0,(0,(0,false))),((0,0),(0,(0,0)))))))],([(0,(0,((0,(0,(0,false))),((0,(0,(0,false))),((0,0),(0,(0,0))))))),(0,(0,((0,(0,(0,false))),((0,(0,(0,false))),((0,0),(0,(0,0))))))),(0,(0,((0,(0,(0,false))),((0,(0,(0,false))),((0,0),(0,(0,0))))))),(0,(0,((0,(0,(0,false))),((0,(0,(0,false))),((0,0),(0,(0,0))))))),(0,(0,((0,(0,(0,false))),((0,(0,(0,false))),((0,0),(0,(0,0)))))))],[(0,(0,((0,(0,(0,false))),((0,(0,(0,false))),((0,0),(0,(0,0))))))),(0,(0,((0,(0,(0,false))),((0,(0,(0,false))),((0,0),(0,(0,0))))))),(0,(0,((0,(0,(0,false))),((0,(0,(0,false))),((0,0),(0,(0,0))))))),(0,(0,((0,(0,(0,false))),((0,(0,(0,false))),((0,0),(0,(0,0))))))),(0,(0,((0,(0,(0,false))),((0,(0,(0,false))),((0,0),(0,(0,0))))))),(0,(0,((0,(0,(0,false))),((0,(0,(0,false))),((0,0),(0,(0,0)))))))])),(0,(2,((2,(1,(0,false))),((4,(5,(0,false))),((0,4),(0,(0,2))))))))))),([],(0,((0,(0,[])),(([],([],[])),(0,(0,((0,(0,(0,false))),((0,(0,(0,false))),((0,0),(0,(0,0))))))))))),([],(0,((0,(0,[])),(([],([],[])),(0,(0,((0,(0,(0,false))),((0,(0,(0,false))),((0,0),(0,(0,0)))))))))))]))) ([([97],[])],(0,(0,25)))=some ((0,((0,((0,(0,(0,false))),((0,(0,(0,false))),((0,0),(0,(0,0)))))),(((0,0),(0,0)),0))),10):=by kernel_rfl
theorem lvl22_lives_6 (n:Nat):query_Do (n+39) ((20,((10,(20,60)),((4,(5,6)),(3,9)))),(45,((-1),[([([97],[])],(4,((0,(0,[(2,(1,(0,false))),(4,(5,(0,false)))])),(([(0,(0,((0,(0,(0,false))),((0,(0,(0,false))),((0,0),(0,(0,0))))))),(0,(0,((0,(0,(0,false))),((0,(0,(0,false))),((0,0),(0,(0,0))))))),(0,(0,((0,(0,(0,false))),((0,(0,(0,false))),((0,0),(0,(0,0))))))),(0,(0,((0,(0,(0,false))),((0,(0,(0,false))),((0,0),(0,(0,0)))))))],([(0,(0,((0,(0,(0,false))),((0,(0,(0,false))),((0,0),(0,(0,0))))))),(0,(0,((0,(0,(0,false))),((0,(0,(0,false))),((0,0),(0,(0,0))))))),(0,(0,((0,(0,(0,false))),((0,(0,(0,false))),((0,0),(0,(0,0))))))),(0,(0,((0,(0,(0,false))),((0,(0,(0,false))),((0,0),(0,(0,0))))))),(0,(0,((0,(0,(0,false))),((0,(0,(0,false))),((0,0),(0,(0,0)))))))],[(0,(0,((0,(0,(0,false))),((0,(0,(0,false))),((0,0),(0,(0,0))))))),(0,(0,((0,(0,(0,false))),((0,(0,(0,false))),((0,0),(0,(0,0))))))),(0,(0,((0,(0,(0,false))),((0,(0,(0,false))),((0,0),(0,(0,0))))))),(0,(0,((0,(0,(0,false))),((0,(0,(0,false))),((0,0),(0,(0,0))))))),(0,(0,((0,(0,(0,false))),((0,(0,(0,false))),((0,0),(0,(0,0))))))),(0,(0,((0,(0,(0,false))),((0,(0,(0,false))),((0,0),(0,(0,0)))))))])),(0,(2,((2,(1,(0,false))),((4,(5,(0,false))),((0,4),(0,(0,2))))))))))),([],(0,((0,(0,[])),(([],([],[])),(0,(0,((0,(0,(0,false))),((0,(0,(0,false))),((0,0),(0,(0,0))))))))))),([],(0,((0,(0,[])),(([],([],[])),(0,(0,((0,(0,(0,false))),((0,(0,(0,false))),((0,0),(0,(0,0)))))))))))]))) ([([97],[])],(2,(10,20)))=some ((0,((0,((0,(0,(0,false))),((0,(0,(0,false))),((0,0),(0,(0,0)))))),(((0,0),(0,0)),0))),10):=by kernel_rfl
theorem lvl22_lives_7 (n:Nat):query_Do (n+39) ((20,((10,(20,60)),((4,(5,6)),(3,9)))),(45,((-1),[([([97],[])],(4,((0,(0,[(2,(1,(0,false))),(4,(5,(0,false)))])),(([(0,(0,((0,(0,(0,false))),((0,(0,(0,false))),((0,0),(0,(0,0))))))),(0,(0,((0,(0,(0,false))),((0,(0,(0,false))),((0,0),(0,(0,0))))))),(0,(0,((0,(0,(0,false))),((0,(0,(0,false))),((0,0),(0,(0,0))))))),(0,(0,((0,(0,(0,false))),((0,(0,(0,false))),((0,0),(0,(0,0)))))))],([(0,(0,((0,(0,(0,false))),((0,(0,(0,false))),((0,0),(0,(0,0))))))),(0,(0,((0,(0,(0,false))),((0,(0,(0,false))),((0,0),(0,(0,0))))))),(0,(0,((0,(0,(0,false))),((0,(0,(0,false))),((0,0),(0,(0,0))))))),(0,(0,((0,(0,(0,false))),((0,(0,(0,false))),((0,0),(0,(0,0))))))),(0,(0,((0,(0,(0,false))),((0,(0,(0,false))),((0,0),(0,(0,0)))))))],[(0,(0,((0,(0,(0,false))),((0,(0,(0,false))),((0,0),(0,(0,0))))))),(0,(0,((0,(0,(0,false))),((0,(0,(0,false))),((0,0),(0,(0,0))))))),(0,(0,((0,(0,(0,false))),((0,(0,(0,false))),((0,0),(0,(0,0))))))),(0,(0,((0,(0,(0,false))),((0,(0,(0,false))),((0,0),(0,(0,0))))))),(0,(0,((0,(0,(0,false))),((0,(0,(0,false))),((0,0),(0,(0,0))))))),(0,(0,((0,(0,(0,false))),((0,(0,(0,false))),((0,0),(0,(0,0)))))))])),(0,(2,((2,(1,(0,false))),((4,(5,(0,false))),((0,4),(0,(0,2))))))))))),([],(0,((0,(0,[])),(([],([],[])),(0,(0,((0,(0,(0,false))),((0,(0,(0,false))),((0,0),(0,(0,0))))))))))),([],(0,((0,(0,[])),(([],([],[])),(0,(0,((0,(0,(0,false))),((0,(0,(0,false))),((0,0),(0,(0,0)))))))))))]))) ([([98],[])],(3,(0,60)))=some ((3,((0,((0,(0,(0,false))),((0,(0,(0,false))),((0,0),(0,(0,0)))))),(((0,0),(0,0)),12))),0):=by kernel_rfl
theorem lvl22_lives_8 (n:Nat):query_Raw (n+39) ((20,((10,(20,60)),((4,(5,6)),(3,9)))),(45,((-1),[([([97],[])],(4,((0,(0,[(2,(1,(0,false))),(4,(5,(0,false)))])),(([(0,(0,((0,(0,(0,false))),((0,(0,(0,false))),((0,0),(0,(0,0))))))),(0,(0,((0,(0,(0,false))),((0,(0,(0,false))),((0,0),(0,(0,0))))))),(0,(0,((0,(0,(0,false))),((0,(0,(0,false))),((0,0),(0,(0,0))))))),(0,(0,((0,(0,(0,false))),((0,(0,(0,false))),((0,0),(0,(0,0)))))))],([(0,(0,((0,(0,(0,false))),((0,(0,(0,false))),((0,0),(0,(0,0))))))),(0,(0,((0,(0,(0,false))),((0,(0,(0,false))),((0,0),(0,(0,0))))))),(0,(0,((0,(0,(0,false))),((0,(0,(0,false))),((0,0),(0,(0,0))))))),(0,(0,((0,(0,(0,false))),((0,(0,(0,false))),((0,0),(0,(0,0))))))),(0,(0,((0,(0,(0,false))),((0,(0,(0,false))),((0,0),(0,(0,0)))))))],[(0,(0,((0,(0,(0,false))),((0,(0,(0,false))),((0,0),(0,(0,0))))))),(0,(0,((0,(0,(0,false))),((0,(0,(0,false))),((0,0),(0,(0,0))))))),(0,(0,((0,(0,(0,false))),((0,(0,(0,false))),((0,0),(0,(0,0))))))),(0,(0,((0,(0,(0,false))),((0,(0,(0,false))),((0,0),(0,(0,0))))))),(0,(0,((0,(0,(0,false))),((0,(0,(0,false))),((0,0),(0,(0,0))))))),(0,(0,((0,(0,(0,false))),((0,(0,(0,false))),((0,0),(0,(0,0)))))))])),(0,(2,((2,(1,(0,false))),((4,(5,(0,false))),((0,4),(0,(0,2))))))))))),([],(0,((0,(0,[])),(([],([],[])),(0,(0,((0,(0,(0,false))),((0,(0,(0,false))),((0,0),(0,(0,0))))))))))),([],(0,((0,(0,[])),(([],([],[])),(0,(0,((0,(0,(0,false))),((0,(0,(0,false))),((0,0),(0,(0,0)))))))))))]))) [([97],[])] (3) (30)=some ([(4,(5,(0,false)))],0):=by kernel_rfl
theorem l22_lives_true (n:Nat):l22_lives (n+40)=some true:=by
  rw[l22_lives_eq]
  refine ob (lvl22_lives_0 n) ?_
  refine ob (lvl22_lives_1 n) ?_
  refine tf (by kernel_rfl) ?_
  refine ob (lvl22_lives_2 n) ?_
  refine tf (by kernel_rfl) ?_
  refine tf (by kernel_rfl) ?_
  refine ob (lvl22_lives_3 n) ?_
  refine ob (lvl22_lives_4 n) ?_
  refine ob (lvl22_lives_5 n) ?_
  refine ob (lvl22_lives_6 n) ?_
  refine ob (lvl22_lives_7 n) ?_
  refine ob (lvl22_lives_8 n) ?_
  refine tt (by kernel_rfl) ?_
  refine tt (by kernel_rfl) ?_
  refine tt (by kernel_rfl) ?_
  refine tt (by kernel_rfl) ?_
  refine tt (by kernel_rfl) ?_
  refine tt (by kernel_rfl) ?_
  refine tt (by kernel_rfl) ?_
  refine tt (by kernel_rfl) ?_
  refine tt (by kernel_rfl) ?_
  refine tt (by kernel_rfl) ?_
  refine tt (by kernel_rfl) ?_
  refine tt (by kernel_rfl) ?_
  refine tt (by kernel_rfl) ?_
  refine ob (x:=(4,(5,(0,false)))) (by kernel_rfl) ?_
  refine tt (by kernel_rfl) ?_
  kernel_rfl
end Go.Proofs.YtjeabebacegikaaGreatDoor
namespace Go.Proofs.YtjeabebacegikaaGreatDoor
open Go.Flat Go.Plim
set_option linter.unusedVariables false
set_option linter.unusedSimpArgs false
structure StaInv (N:Nat) (s:Sta):Prop where
  ok:StaOk s
  w:StaW s
  ser:∀x∈s.2.2.2,x=ser0∨∃l,SerInv s.1 x l∧l≠[]∧l.length≤N
structure Seg (c:Cel) (w lo hi:Int):Prop where
  ok:CellOk c
  w0:1≤w
  at':c=z0∨lo≤c.2.1.1 / w∧c.2.2.1.1 / w<hi
theorem seg_z0 {w lo hi:Int} (hw:1≤w):Seg z0 w lo hi:=⟨ok_z0,hw,.inl rfl⟩
theorem Seg.mono {c:Cel} {w a b a' b':Int} (h:Seg c w a b) (h1:a'≤a) (h2:b≤b'):Seg c w a' b' :=
  ⟨h.ok,h.w0,h.at'.imp id fun k=>⟨by omega,by omega⟩⟩
theorem seg_fits {c:Cel} {w i:Int} (h:FitsP c w i):Seg c w i (i+1):=⟨h.n.ok,h.w0,.inr ⟨by rw[h.f];omega,by rw[h.l];omega⟩⟩
theorem seg_ahead {a b:Cel} {w lo m m' hi:Int} (ha:Seg a w lo m) (hb:Seg b w m' hi) (h:m≤m'):Ahead a b:=by
  rcases ha.at' with k | ⟨_,k⟩
  · exact .inl k
  rcases hb.at' with q | ⟨q,_⟩
  · exact .inr (.inl q)
  refine .inr (.inr ?_)
  rcases Int.lt_or_le a.2.2.1.1 b.2.1.1 with u | u
  · exact u
  · have:=Int.ediv_le_ediv (c:=w) (by have:=ha.w0;omega) u
    omega
theorem seg_mrg {a b:Cel} {w lo m m' hi:Int} (ha:Seg a w lo m) (hb:Seg b w m' hi) (h:m≤m') (h1:lo≤m') (h2:m≤hi):mrgE a b=(mrg a b,0)∧Seg (mrg a b) w lo hi:=by
  have hah:=seg_ahead ha hb h
  refine ⟨mrgE_fine ha.ok hb.ok hah,mrg_ok ha.ok hb.ok hah,ha.w0,?_⟩
  unfold mrg
  by_cases za:a=z0
  · rw[if_pos za];exact hb.at'.imp id fun k=>⟨by omega,k.2⟩
  · rw[if_neg za]
    obtain ⟨a1,a2⟩:=ha.at'.resolve_left za
    by_cases zb:b=z0
    · rw[if_pos zb];exact .inr ⟨a1,by omega⟩
    · rw[if_neg zb]
      obtain ⟨b1,b2⟩:=hb.at'.resolve_left zb
      exact .inr ⟨a1,b2⟩
theorem allE_seg {w:Int}:∀(L:List Slo) (lo hi:Int),1≤w→lo≤hi→Up L→(∀s∈L,FitsP s.2 w s.1∧lo≤s.1∧s.1<hi) →
    Seg (allE z0 (L.map (·.2))).1 w lo hi∧∀(c:Cel) (lo0:Int),lo0≤lo→Seg c w lo0 lo→allE c (L.map (·.2))=(mrg c (allE z0 (L.map (·.2))).1,0):=by
  intro L
  induction L with
  | nil =>
    intro lo hi hw _ _ _
    exact ⟨seg_z0 hw,fun c _ _ hc=>by simp only[List.map_nil,allE];rw[mrg_z0]⟩
  | cons s L ih =>
    intro lo hi hw hle hu hs
    unfold Up at hu
    rw[List.pairwise_cons] at hu
    obtain ⟨hf,h1,h2⟩:=hs s (by simp)
    obtain ⟨i1,i2⟩:=ih (s.1+1) hi hw (by omega) hu.2 (fun x hx=>⟨(hs x (by simp[hx])).1,by have:=hu.1 x hx;omega,(hs x (by simp[hx])).2.2⟩)
    have sf:=seg_fits hf
    have e0:allE z0 ((s::L).map (·.2))=(mrg s.2 (allE z0 (L.map (·.2))).1,0):=by
      simp only[List.map_cons,allE]
      rw[mrgE_fine ok_z0 sf.ok (.inl rfl),z0_mrg,if_pos rfl]
      exact i2 s.2 s.1 (by omega) sf
    obtain ⟨_,q2⟩:=seg_mrg sf i1 (Int.le_refl _) (by omega) (by omega)
    rw[e0]
    refine ⟨q2.mono h1 (Int.le_refl _),fun c lo0 hl hc => ?_⟩
    obtain ⟨r1,r2⟩:=seg_mrg hc sf (by omega) (by omega) (by omega)
    simp only[List.map_cons,allE]
    rw[r1,if_pos rfl,i2 _ lo0 (by omega) r2,mrg_assoc hc.ok sf.ok i1.ok (seg_ahead hc sf (by omega)) (seg_ahead sf i1 (Int.le_refl _)) (seg_ahead hc i1 (by omega))]
theorem tfold_seg {t:List Slo} {w i j:Int} (h:TierOk t w) (h0:0≤i) (hij:i≤j):Seg (tfold t i j).1 w i j∧(tfold t i j).2=0∧∀(c:Cel) (lo0:Int),lo0≤i→Seg c w lo0 i→allE c (within t i j)=(mrg c (tfold t i j).1,0):=by
  unfold tfold
  rw[if_neg (by omega)]
  unfold within
  obtain ⟨k1,k2⟩:=allE_seg (w:=w) ((tall t).filter fun s=>decide (i≤s.1∧s.1<j)) i j h.w0 hij ((tall_up h).filter _) (fun s hs=>by
    obtain ⟨s1,s2⟩:=List.mem_filter.1 hs
    have s2:=of_decide_eq_true s2
    exact ⟨(tall_fits h s1).1,s2.1,s2.2⟩)
  exact ⟨k1,by rw[k2 z0 i (Int.le_refl _) (seg_z0 h.w0)],k2⟩
theorem mrg_last {a b:Cel} (hb:b≠z0):(mrg a b).2.2.1=b.2.2.1:=by
  unfold mrg
  by_cases za:a=z0
  · rw[if_pos za]
  · rw[if_neg za,if_neg hb]
theorem range_in {t:List Slo} {w T i j:Int} {cur:Cel} {ok:Prop} [Decidable ok] (hok:ok) (h:TierOk t w) (hb:T = -1∨NoBehind t (T / w)∧CellN cur∧cur.2.1.1 / w=T / w∧cur.2.2.1.1=T) (h0:0≤i) (hij:i≤j):Seg (rangeV ok i j T w t (cur,0)).1 w i j:=by
  unfold rangeV
  rw[if_pos hok,if_neg (by omega),if_neg (by omega)]
  by_cases k1:T = -1
  · rw[if_pos k1];exact seg_z0 h.w0
  rw[if_neg k1]
  obtain ⟨hb,hc,hf,hl⟩:=hb.resolve_left k1
  have hF:=(tfold_seg (i:=i) (j:=j) h h0 hij).1
  by_cases k2:T / w<i
  · rw[if_pos k2];exact hF
  rw[if_neg k2]
  by_cases k3:j≤T / w
  · rw[if_pos k3];exact hF
  rw[if_neg k3,if_neg (fun q=>q rfl)]
  obtain ⟨l1,l2⟩:=tfold_last (j:=j) h hb h0 (by omega:i≤T / w)
  have sF:Seg (tfold t i j).1 w i (T / w):=by
    refine ⟨hF.ok,h.w0,?_⟩
    rcases l2 with q | q
    · exact .inl q
    · exact hF.at'.imp id fun u=>⟨u.1,q⟩
  have sC:Seg cur w (T / w) (T / w+1):=⟨hc.ok,h.w0,.inr ⟨by omega,by rw[hl];omega⟩⟩
  obtain ⟨e,q⟩:=seg_mrg sF sC (Int.le_refl _) (by omega) (by omega)
  rw[e]
  exact q.mono (Int.le_refl _) (by omega)
theorem rangeK_in {c:Conf} {s:Ser} (h:SerOk c s) {k:Int} (hk0:0≤k) (hk2:k≤2) {i j:Int} (h0:0≤i) (hij:i≤j):Seg (rangeK c s k i j).1 (tierW c k) i j:=by
  have he:=serOk_ends3 h
  have hr:=h.fold.cok.rng
  have non:s.2.1 = -1→∀(w:Int) (t:List Slo) (z:Cel×Int),rangeV (SerOk c s) i j s.2.1 w t z=(z0,0):=fun hn w t z=>by
    unfold rangeV;rw[if_pos h,if_neg (by omega),if_neg (by omega),if_pos hn]
  have l0:s.2.1 ≠ -1→s.2.2.2.2.2.2.2.1.1=s.2.1:=fun hn=>by
    rcases h.st with ⟨q,_⟩ | ⟨_,q⟩
    · exact absurd q hn
    · exact q.ol
  have l1:∀m,s.2.1 ≠ -1→now1 c s=(m,0)→m.2.2.1.1=s.2.1:=fun m hn e=>by
    have hc:=(he.t0.resolve_left hn).2.1
    have e':=e
    unfold now1 at e
    obtain ⟨_,_,_,q,_⟩:=mrgE_ok (a:=(tfold s.2.2.2.1.1 (s.2.1 / c.2.1.2.1*(c.2.1.2.1 / c.2.1.1)) (s.2.1 / c.2.1.1)).1) (b:=s.2.2.2.2.2) (by rw[e])
    rw[e] at q
    have q:m=_:=q
    rw[q,mrg_last hc.ne,l0 hn]
  unfold rangeK tierW
  rcases (by omega:k=0∨k=1∨k=2) with e | e | e
  · subst e;rw[if_pos rfl,if_pos rfl]
    refine range_in h h.fold.t0 ?_ h0 hij
    rcases he.t0 with q | ⟨q1,q2,q3⟩
    · exact .inl q
    · by_cases hn:s.2.1 = -1
      · exact .inl hn
      · exact .inr ⟨q1,q2,q3,l0 hn⟩
  · subst e;rw[if_neg (by decide),if_pos rfl,if_neg (by decide),if_pos rfl]
    by_cases hn:s.2.1 = -1
    · rw[non hn];exact seg_z0 hr.w1.1
    · obtain ⟨m,e,q1,q2,q3⟩:=he.t1.resolve_left hn
      rw[e]
      exact range_in h h.fold.t1 (.inr ⟨q1,q2,q3,l1 m hn e⟩) h0 hij
  · subst e;rw[if_neg (by decide),if_neg (by decide),if_neg (by decide),if_neg (by decide)]
    by_cases hn:s.2.1 = -1
    · rw[non hn];exact seg_z0 hr.w2.1
    · obtain ⟨m1,e1,_,u2,_⟩:=he.t1.resolve_left hn
      obtain ⟨m,e,q1,q2,q3⟩:=he.t2.resolve_left hn
      have hl:m.2.2.1.1=s.2.1:=by
        have e':=e
        unfold now2 at e
        rw[e1,if_neg (fun q=>q rfl)] at e
        obtain ⟨_,_,_,q,_⟩:=mrgE_ok (a:=(tfold s.2.2.2.1.2.1 (s.2.1 / c.2.1.2.2*(c.2.1.2.2 / c.2.1.2.1)) (s.2.1 / c.2.1.2.1)).1) (b:=m1) (by rw[e])
        rw[e] at q
        have q:m=_:=q
        rw[q,mrg_last u2.ne,l1 m1 hn e1]
      rw[e]
      exact range_in h h.fold.t2 (.inr ⟨q1,q2,q3,hl⟩) h0 hij
theorem cellQ_in {s:Sta} (hs:StaOk s) (l:List Lab) {k a b:Int} (h0:0≤k) (h2:k≤2) (ho:oneV s k a b=0) (hn:0<(cellQ s l k a b).1):a≤(cellQ s l k a b).2.1.1∧(cellQ s l k a b).2.2.1.1<b:=by
  obtain ⟨s1,s2⟩:=one_ok ho
  obtain ⟨wp,rp,ha,hb,e,e1,e2⟩:=span_ok s1
  have hw:=wp.1
  have ea:a / tierW s.1 k*tierW s.1 k=a:=Int.ediv_mul_cancel_of_emod_eq_zero ha
  have eb:b / tierW s.1 k*tierW s.1 k=b:=Int.ediv_mul_cancel_of_emod_eq_zero hb
  have sg:Seg (cellQ s l k a b) (tierW s.1 k) (a / tierW s.1 k) (b / tierW s.1 k):=by
    unfold cellQ
    cases hf:findV s l with
    | none=>exact seg_z0 hw
    | some i =>
      obtain ⟨x,hx,_,hlv,hok⟩:=found hs hf
      simp only[hx,Option.getD_some]
      exact rangeK_in hok h0 h2 e1 e2
  rcases sg.at' with q | ⟨q1,q2⟩
  · rw[q] at hn;exact absurd hn (by decide)
  · rw[Int.le_ediv_iff_mul_le (by omega),ea] at q1
    have:=Int.lt_mul_of_ediv_lt (by omega:0<tierW s.1 k) q2
    rw[eb] at this
    exact ⟨q1,this⟩
theorem rate_fine {c:Cel} (h:CellOk c) (hn:¬c.2.2.2.2.2.2<1):wv c.2.2.2.1*1000<340282366920938463463374607431768211456:=by
  rcases h with h | h
  · rw[h] at hn;exact absurd (by decide) hn
  · have h1:=h.inc;have h2:=h.small;have h3:=h.n1
    omega
end Go.Proofs.YtjeabebacegikaaGreatDoor

set_option linter.unusedVariables false
namespace Go.Proofs.YtjeabebacegikaaGreatDoor
open Go.Flat
noncomputable def QW1 (n:Nat) (s:TState) (a:TAsk) (r4:(TReply×Int)):Option Bool :=
  tif ((decide (r4.2=(8:Int)))) (
  some ((decide (r4.1.1=(0:Int)))&&((decide (r4.1.2.1.1=(0:Int)))&&((decide (r4.1.2.1.2.1.1=(0:Int)))&&((decide (r4.1.2.1.2.1.2.1=(0:Int)))&&((decide (r4.1.2.1.2.1.2.2.1=(0:Int)))&&((r4.1.2.1.2.1.2.2.2==false)&&((decide (r4.1.2.1.2.2.1.1=(0:Int)))&&((decide (r4.1.2.1.2.2.1.2.1=(0:Int)))&&((decide (r4.1.2.1.2.2.1.2.2.1=(0:Int)))&&((r4.1.2.1.2.2.1.2.2.2==false)&&((decide (r4.1.2.1.2.2.2.1.1=(0:Int)))&&((decide (r4.1.2.1.2.2.2.1.2=(0:Int)))&&((decide (r4.1.2.1.2.2.2.2.1=(0:Int)))&&((decide (r4.1.2.1.2.2.2.2.2.1=(0:Int)))&&((decide (r4.1.2.1.2.2.2.2.2.2=(0:Int)))&&((decide (r4.1.2.2.1.1.1=(0:Int)))&&((decide (r4.1.2.2.1.1.2=(0:Int)))&&((decide (r4.1.2.2.1.2.1=(0:Int)))&&((decide (r4.1.2.2.1.2.2=(0:Int)))&&(decide (r4.1.2.2.2=(0:Int))))))))))))))))))))))) (
  some false)
noncomputable def QW2 (n:Nat) (s:TState) (a:TAsk) (r4:(TReply×Int)):Option Bool :=
  tif ((decide (r4.1.2.1.2.2.2.2.2.2=(0:Int)))) (
  tif ((decide (r4.1.2.2.2=(12:Int)))) (
  some ((decide (r4.1.2.2.1.1.1=(0:Int)))&&((decide (r4.1.2.2.1.1.2=(0:Int)))&&((decide (r4.1.2.2.1.2.1=(0:Int)))&&(decide (r4.1.2.2.1.2.2=(0:Int))))))) (
  some false)) (
  obind (ratio_Rate n r4.1.2.1.2.2.2.1 (IntKind.wrap .u64 r4.1.2.1.2.2.2.2.2.2)) fun r6 =>
  tif ((decide (r6.2=r4.1.2.2.2))) (
  tif (((decide (r6.1.1.1=r4.1.2.2.1.1.1))&&((decide (r6.1.1.2=r4.1.2.2.1.1.2))&&((decide (r6.1.2.1=r4.1.2.2.1.2.1))&&(decide (r6.1.2.2=r4.1.2.2.1.2.2)))))) (
  some (decide (r6.2=(0:Int)))) (
  some false)) (
  some false))
noncomputable def QW3 (n:Nat) (s:TState) (a:TAsk) (r4:(TReply×Int)):Option Bool :=
  tif ((!(decide (r4.2=(0:Int))))) (
  some true) (
  tif ((!(decide (r4.1.1=a.2.1)))) (
  some false) (
  obind (cell_Check n r4.1.2.1) fun r5 =>
  tif ((!(decide (r5=(0:Int))))) (
  some false) (
  tif ((decide ((0:Int)<r4.1.2.1.1))) (
  tif ((decide (r4.1.2.1.2.1.1<a.2.2.1))) (
  some false) (
  tif ((decide (a.2.2.2≤r4.1.2.1.2.2.1.1))) (
  some false) (
  QW2 n s a r4))) (
  QW2 n s a r4))))
noncomputable def QW4 (n:Nat) (s:TState) (a:TAsk) (r4:(TReply×Int)):Option Bool :=
  tif ((!(decide (r4.2=(0:Int))))) (
  tif ((!((decide (r4.1.1=(0:Int)))&&((decide (r4.1.2.1.1=(0:Int)))&&((decide (r4.1.2.1.2.1.1=(0:Int)))&&((decide (r4.1.2.1.2.1.2.1=(0:Int)))&&((decide (r4.1.2.1.2.1.2.2.1=(0:Int)))&&((r4.1.2.1.2.1.2.2.2==false)&&((decide (r4.1.2.1.2.2.1.1=(0:Int)))&&((decide (r4.1.2.1.2.2.1.2.1=(0:Int)))&&((decide (r4.1.2.1.2.2.1.2.2.1=(0:Int)))&&((r4.1.2.1.2.2.1.2.2.2==false)&&((decide (r4.1.2.1.2.2.2.1.1=(0:Int)))&&((decide (r4.1.2.1.2.2.2.1.2=(0:Int)))&&((decide (r4.1.2.1.2.2.2.2.1=(0:Int)))&&((decide (r4.1.2.1.2.2.2.2.2.1=(0:Int)))&&((decide (r4.1.2.1.2.2.2.2.2.2=(0:Int)))&&((decide (r4.1.2.2.1.1.1=(0:Int)))&&((decide (r4.1.2.2.1.1.2=(0:Int)))&&((decide (r4.1.2.2.1.2.1=(0:Int)))&&((decide (r4.1.2.2.1.2.2=(0:Int)))&&(decide (r4.1.2.2.2=(0:Int)))))))))))))))))))))))) (
  some false) (
  QW3 n s a r4)) (
  QW3 n s a r4)
noncomputable def QW5 (n:Nat) (s:TState) (a:TAsk) (r4:(TReply×Int)):Option Bool :=
  tif ((!((decide (r4.2=(10:Int)))==false))) (
  some false) (
  QW4 n s a r4)
noncomputable def QW6 (n:Nat) (s:TState) (a:TAsk) (r4:(TReply×Int)):Option Bool :=
  tif ((!((decide (r4.2=(1:Int)))==(!(decide (a.2.2.1<a.2.2.2)))))) (
  some false) (
  tif ((decide (a.2.2.1<a.2.2.2))) (
  tif ((!((decide (r4.2=(10:Int)))==(!(decide ((Int.tmod a.2.2.2 s.1.2.1.1)=(0:Int))))))) (
  some false) (
  QW4 n s a r4)) (
  QW5 n s a r4))
noncomputable def QW7 (n:Nat) (s:TState) (a:TAsk) (r4:(TReply×Int)):Option Bool :=
  tif ((!((decide (r4.2=(0:Int)))==false))) (
  some false) (
  QW6 n s a r4)
noncomputable def QW8 (n:Nat) (s:TState) (a:TAsk) (r4:(TReply×Int)):Option Bool :=
  tif ((!((decide (r4.2=(0:Int)))==false))) (
  some false) (
  tif ((!((decide (r4.2=(1:Int)))==(!(decide (a.2.2.1<a.2.2.2)))))) (
  some false) (
  tif ((decide (a.2.2.1<a.2.2.2))) (
  tif ((!((decide (r4.2=(10:Int)))==true))) (
  some false) (
  QW4 n s a r4)) (
  QW5 n s a r4)))
noncomputable def QW9 (n:Nat) (s:TState) (a:TAsk) (r4:(TReply×Int)):Option Bool :=
  tif ((!((decide (r4.2=(0:Int)))==false))) (
  some false) (
  tif ((!((decide (r4.2=(1:Int)))==true))) (
  some false) (
  QW5 n s a r4))
noncomputable def QW10 (n:Nat) (s:TState) (a:TAsk) (r187:(TReply×Int)):Option Bool :=
  tif ((!((decide (r187.2=(1:Int)))==(!(decide (a.2.2.1<a.2.2.2)))))) (
  some false) (
  tif ((decide (a.2.2.1<a.2.2.2))) (
  tif ((!((decide (r187.2=(10:Int)))==(!(decide ((Int.tmod a.2.2.2 s.1.2.1.2.1)=(0:Int))))))) (
  some false) (
  QW4 n s a r187)) (
  QW5 n s a r187))
noncomputable def QW11 (n:Nat) (s:TState) (a:TAsk) (r187:(TReply×Int)):Option Bool :=
  tif ((!((decide (r187.2=(0:Int)))==false))) (
  some false) (
  QW10 n s a r187)
noncomputable def QW12 (n:Nat) (s:TState) (a:TAsk) (r370:(TReply×Int)):Option Bool :=
  tif ((!((decide (r370.2=(1:Int)))==(!(decide (a.2.2.1<a.2.2.2)))))) (
  some false) (
  tif ((decide (a.2.2.1<a.2.2.2))) (
  tif ((!((decide (r370.2=(10:Int)))==(!(decide ((Int.tmod a.2.2.2 s.1.2.1.2.2)=(0:Int))))))) (
  some false) (
  QW4 n s a r370)) (
  QW5 n s a r370))
noncomputable def QW13 (n:Nat) (s:TState) (a:TAsk) (r370:(TReply×Int)):Option Bool :=
  tif ((!((decide (r370.2=(0:Int)))==false))) (
  some false) (
  QW12 n s a r370)
theorem l22_QueryWhole_eq (n:Nat) (s:TState) (a:TAsk):l22_QueryWhole (n+1) s a =
  obind (l22_lives n) fun r0 =>
  tif ((!r0)) (
  some false) (
  obind (l17_Small n s) fun r1 =>
  tif ((decide (r1=(0:Int)))) (
  some true) (
  obind (l05_Small n a.1) fun r2 =>
  tif ((decide (r2=(0:Int)))) (
  some true) (
  obind (stt_Check n s) fun r3 =>
  tif ((!(decide (r3=(0:Int))))) (
  some true) (
  tif ((decide (a.2.1<(1:Int)))) (
  some true) (
  tif ((decide ((3:Int)<a.2.1))) (
  some true) (
  tif ((decide ((IntKind.wrap .i64 (a.2.1-(1:Int)))=(0:Int)))) (
  tif ((decide ((IntKind.wrap .i64 (a.2.1-(1:Int)))=(0:Int)))) (
  obind (query_Do n s a) fun r4 =>
  tif ((decide ((((List.length a.1):Nat):Int)=(0:Int)))) (
  QW1 n s a r4) (
  tif ((decide (r4.2=(8:Int)))) (
  QW1 n s a r4) (
  tif ((decide ((0:Int)≤a.2.2.1))) (
  tif ((decide (a.2.2.2≤(35184372088832:Int)))) (
  tif ((decide (a.2.2.1<a.2.2.2))) (
  tif ((decide (s.1.2.1.1=(0:Int)))) (
  none) (
  tif ((decide ((Int.tmod a.2.2.1 s.1.2.1.1)=(0:Int)))) (
  tif ((decide (s.1.2.1.1=(0:Int)))) (
  none) (
  tif ((decide ((Int.tmod a.2.2.2 s.1.2.1.1)=(0:Int)))) (
  tif ((decide (s.1.2.1.1=(0:Int)))) (
  none) (
  tif ((decide (s.1.2.1.1=(0:Int)))) (
  none) (
  tif ((!((decide (r4.2=(0:Int)))==(decide ((IntKind.wrap .i64 ((IntKind.wrap .i64 (Int.tdiv s.2.1 s.1.2.1.1))-s.1.2.2.1.1))<(IntKind.wrap .i64 (Int.tdiv a.2.2.1 s.1.2.1.1))))))) (
  some false) (
  QW6 n s a r4)))) (
  QW7 n s a r4))) (
  QW8 n s a r4))) (
  QW8 n s a r4)) (
  QW9 n s a r4)) (
  QW9 n s a r4)))) (
  tif ((decide ((IntKind.wrap .i64 (a.2.1-(1:Int)))=(1:Int)))) (
  obind (query_Do n s a) fun r65 =>
  tif ((decide ((((List.length a.1):Nat):Int)=(0:Int)))) (
  QW1 n s a r65) (
  tif ((decide (r65.2=(8:Int)))) (
  QW1 n s a r65) (
  tif ((decide ((0:Int)≤a.2.2.1))) (
  tif ((decide (a.2.2.2≤(35184372088832:Int)))) (
  tif ((decide (a.2.2.1<a.2.2.2))) (
  tif ((decide (s.1.2.1.1=(0:Int)))) (
  none) (
  tif ((decide ((Int.tmod a.2.2.1 s.1.2.1.1)=(0:Int)))) (
  tif ((decide (s.1.2.1.1=(0:Int)))) (
  none) (
  tif ((decide ((Int.tmod a.2.2.2 s.1.2.1.1)=(0:Int)))) (
  tif ((decide (s.1.2.1.1=(0:Int)))) (
  none) (
  tif ((decide (s.1.2.1.1=(0:Int)))) (
  none) (
  tif ((!((decide (r65.2=(0:Int)))==(decide ((IntKind.wrap .i64 ((IntKind.wrap .i64 (Int.tdiv s.2.1 s.1.2.1.1))-s.1.2.2.1.2.1))<(IntKind.wrap .i64 (Int.tdiv a.2.2.1 s.1.2.1.1))))))) (
  some false) (
  QW6 n s a r65)))) (
  QW7 n s a r65))) (
  QW8 n s a r65))) (
  QW8 n s a r65)) (
  QW9 n s a r65)) (
  QW9 n s a r65)))) (
  tif ((decide ((IntKind.wrap .i64 (a.2.1-(1:Int)))=(2:Int)))) (
  obind (query_Do n s a) fun r126 =>
  tif ((decide ((((List.length a.1):Nat):Int)=(0:Int)))) (
  QW1 n s a r126) (
  tif ((decide (r126.2=(8:Int)))) (
  QW1 n s a r126) (
  tif ((decide ((0:Int)≤a.2.2.1))) (
  tif ((decide (a.2.2.2≤(35184372088832:Int)))) (
  tif ((decide (a.2.2.1<a.2.2.2))) (
  tif ((decide (s.1.2.1.1=(0:Int)))) (
  none) (
  tif ((decide ((Int.tmod a.2.2.1 s.1.2.1.1)=(0:Int)))) (
  tif ((decide (s.1.2.1.1=(0:Int)))) (
  none) (
  tif ((decide ((Int.tmod a.2.2.2 s.1.2.1.1)=(0:Int)))) (
  tif ((decide (s.1.2.1.1=(0:Int)))) (
  none) (
  tif ((decide (s.1.2.1.1=(0:Int)))) (
  none) (
  tif ((!((decide (r126.2=(0:Int)))==(decide ((IntKind.wrap .i64 ((IntKind.wrap .i64 (Int.tdiv s.2.1 s.1.2.1.1))-s.1.2.2.1.2.2))<(IntKind.wrap .i64 (Int.tdiv a.2.2.1 s.1.2.1.1))))))) (
  some false) (
  QW6 n s a r126)))) (
  QW7 n s a r126))) (
  QW8 n s a r126))) (
  QW8 n s a r126)) (
  QW9 n s a r126)) (
  QW9 n s a r126)))) (
  none)))) (
  tif ((decide ((IntKind.wrap .i64 (a.2.1-(1:Int)))=(1:Int)))) (
  tif ((decide ((IntKind.wrap .i64 (a.2.1-(1:Int)))=(0:Int)))) (
  obind (query_Do n s a) fun r187 =>
  tif ((decide ((((List.length a.1):Nat):Int)=(0:Int)))) (
  QW1 n s a r187) (
  tif ((decide (r187.2=(8:Int)))) (
  QW1 n s a r187) (
  tif ((decide ((0:Int)≤a.2.2.1))) (
  tif ((decide (a.2.2.2≤(35184372088832:Int)))) (
  tif ((decide (a.2.2.1<a.2.2.2))) (
  tif ((decide (s.1.2.1.2.1=(0:Int)))) (
  none) (
  tif ((decide ((Int.tmod a.2.2.1 s.1.2.1.2.1)=(0:Int)))) (
  tif ((decide (s.1.2.1.2.1=(0:Int)))) (
  none) (
  tif ((decide ((Int.tmod a.2.2.2 s.1.2.1.2.1)=(0:Int)))) (
  tif ((decide (s.1.2.1.2.1=(0:Int)))) (
  none) (
  tif ((decide (s.1.2.1.2.1=(0:Int)))) (
  none) (
  tif ((!((decide (r187.2=(0:Int)))==(decide ((IntKind.wrap .i64 ((IntKind.wrap .i64 (Int.tdiv s.2.1 s.1.2.1.2.1))-s.1.2.2.1.1))<(IntKind.wrap .i64 (Int.tdiv a.2.2.1 s.1.2.1.2.1))))))) (
  some false) (
  QW10 n s a r187)))) (
  QW11 n s a r187))) (
  QW8 n s a r187))) (
  QW8 n s a r187)) (
  QW9 n s a r187)) (
  QW9 n s a r187)))) (
  tif ((decide ((IntKind.wrap .i64 (a.2.1-(1:Int)))=(1:Int)))) (
  obind (query_Do n s a) fun r248 =>
  tif ((decide ((((List.length a.1):Nat):Int)=(0:Int)))) (
  QW1 n s a r248) (
  tif ((decide (r248.2=(8:Int)))) (
  QW1 n s a r248) (
  tif ((decide ((0:Int)≤a.2.2.1))) (
  tif ((decide (a.2.2.2≤(35184372088832:Int)))) (
  tif ((decide (a.2.2.1<a.2.2.2))) (
  tif ((decide (s.1.2.1.2.1=(0:Int)))) (
  none) (
  tif ((decide ((Int.tmod a.2.2.1 s.1.2.1.2.1)=(0:Int)))) (
  tif ((decide (s.1.2.1.2.1=(0:Int)))) (
  none) (
  tif ((decide ((Int.tmod a.2.2.2 s.1.2.1.2.1)=(0:Int)))) (
  tif ((decide (s.1.2.1.2.1=(0:Int)))) (
  none) (
  tif ((decide (s.1.2.1.2.1=(0:Int)))) (
  none) (
  tif ((!((decide (r248.2=(0:Int)))==(decide ((IntKind.wrap .i64 ((IntKind.wrap .i64 (Int.tdiv s.2.1 s.1.2.1.2.1))-s.1.2.2.1.2.1))<(IntKind.wrap .i64 (Int.tdiv a.2.2.1 s.1.2.1.2.1))))))) (
  some false) (
  QW10 n s a r248)))) (
  QW11 n s a r248))) (
  QW8 n s a r248))) (
  QW8 n s a r248)) (
  QW9 n s a r248)) (
  QW9 n s a r248)))) (
  tif ((decide ((IntKind.wrap .i64 (a.2.1-(1:Int)))=(2:Int)))) (
  obind (query_Do n s a) fun r309 =>
  tif ((decide ((((List.length a.1):Nat):Int)=(0:Int)))) (
  QW1 n s a r309) (
  tif ((decide (r309.2=(8:Int)))) (
  QW1 n s a r309) (
  tif ((decide ((0:Int)≤a.2.2.1))) (
  tif ((decide (a.2.2.2≤(35184372088832:Int)))) (
  tif ((decide (a.2.2.1<a.2.2.2))) (
  tif ((decide (s.1.2.1.2.1=(0:Int)))) (
  none) (
  tif ((decide ((Int.tmod a.2.2.1 s.1.2.1.2.1)=(0:Int)))) (
  tif ((decide (s.1.2.1.2.1=(0:Int)))) (
  none) (
  tif ((decide ((Int.tmod a.2.2.2 s.1.2.1.2.1)=(0:Int)))) (
  tif ((decide (s.1.2.1.2.1=(0:Int)))) (
  none) (
  tif ((decide (s.1.2.1.2.1=(0:Int)))) (
  none) (
  tif ((!((decide (r309.2=(0:Int)))==(decide ((IntKind.wrap .i64 ((IntKind.wrap .i64 (Int.tdiv s.2.1 s.1.2.1.2.1))-s.1.2.2.1.2.2))<(IntKind.wrap .i64 (Int.tdiv a.2.2.1 s.1.2.1.2.1))))))) (
  some false) (
  QW10 n s a r309)))) (
  QW11 n s a r309))) (
  QW8 n s a r309))) (
  QW8 n s a r309)) (
  QW9 n s a r309)) (
  QW9 n s a r309)))) (
  none)))) (
  tif ((decide ((IntKind.wrap .i64 (a.2.1-(1:Int)))=(2:Int)))) (
  tif ((decide ((IntKind.wrap .i64 (a.2.1-(1:Int)))=(0:Int)))) (
  obind (query_Do n s a) fun r370 =>
  tif ((decide ((((List.length a.1):Nat):Int)=(0:Int)))) (
  QW1 n s a r370) (
  tif ((decide (r370.2=(8:Int)))) (
  QW1 n s a r370) (
  tif ((decide ((0:Int)≤a.2.2.1))) (
  tif ((decide (a.2.2.2≤(35184372088832:Int)))) (
  tif ((decide (a.2.2.1<a.2.2.2))) (
  tif ((decide (s.1.2.1.2.2=(0:Int)))) (
  none) (
  tif ((decide ((Int.tmod a.2.2.1 s.1.2.1.2.2)=(0:Int)))) (
  tif ((decide (s.1.2.1.2.2=(0:Int)))) (
  none) (
  tif ((decide ((Int.tmod a.2.2.2 s.1.2.1.2.2)=(0:Int)))) (
  tif ((decide (s.1.2.1.2.2=(0:Int)))) (
  none) (
  tif ((decide (s.1.2.1.2.2=(0:Int)))) (
  none) (
  tif ((!((decide (r370.2=(0:Int)))==(decide ((IntKind.wrap .i64 ((IntKind.wrap .i64 (Int.tdiv s.2.1 s.1.2.1.2.2))-s.1.2.2.1.1))<(IntKind.wrap .i64 (Int.tdiv a.2.2.1 s.1.2.1.2.2))))))) (
  some false) (
  QW12 n s a r370)))) (
  QW13 n s a r370))) (
  QW8 n s a r370))) (
  QW8 n s a r370)) (
  QW9 n s a r370)) (
  QW9 n s a r370)))) (
  tif ((decide ((IntKind.wrap .i64 (a.2.1-(1:Int)))=(1:Int)))) (
  obind (query_Do n s a) fun r431 =>
  tif ((decide ((((List.length a.1):Nat):Int)=(0:Int)))) (
  QW1 n s a r431) (
  tif ((decide (r431.2=(8:Int)))) (
  QW1 n s a r431) (
  tif ((decide ((0:Int)≤a.2.2.1))) (
  tif ((decide (a.2.2.2≤(35184372088832:Int)))) (
  tif ((decide (a.2.2.1<a.2.2.2))) (
  tif ((decide (s.1.2.1.2.2=(0:Int)))) (
  none) (
  tif ((decide ((Int.tmod a.2.2.1 s.1.2.1.2.2)=(0:Int)))) (
  tif ((decide (s.1.2.1.2.2=(0:Int)))) (
  none) (
  tif ((decide ((Int.tmod a.2.2.2 s.1.2.1.2.2)=(0:Int)))) (
  tif ((decide (s.1.2.1.2.2=(0:Int)))) (
  none) (
  tif ((decide (s.1.2.1.2.2=(0:Int)))) (
  none) (
  tif ((!((decide (r431.2=(0:Int)))==(decide ((IntKind.wrap .i64 ((IntKind.wrap .i64 (Int.tdiv s.2.1 s.1.2.1.2.2))-s.1.2.2.1.2.1))<(IntKind.wrap .i64 (Int.tdiv a.2.2.1 s.1.2.1.2.2))))))) (
  some false) (
  QW12 n s a r431)))) (
  QW13 n s a r431))) (
  QW8 n s a r431))) (
  QW8 n s a r431)) (
  QW9 n s a r431)) (
  QW9 n s a r431)))) (
  tif ((decide ((IntKind.wrap .i64 (a.2.1-(1:Int)))=(2:Int)))) (
  obind (query_Do n s a) fun r492 =>
  tif ((decide ((((List.length a.1):Nat):Int)=(0:Int)))) (
  QW1 n s a r492) (
  tif ((decide (r492.2=(8:Int)))) (
  QW1 n s a r492) (
  tif ((decide ((0:Int)≤a.2.2.1))) (
  tif ((decide (a.2.2.2≤(35184372088832:Int)))) (
  tif ((decide (a.2.2.1<a.2.2.2))) (
  tif ((decide (s.1.2.1.2.2=(0:Int)))) (
  none) (
  tif ((decide ((Int.tmod a.2.2.1 s.1.2.1.2.2)=(0:Int)))) (
  tif ((decide (s.1.2.1.2.2=(0:Int)))) (
  none) (
  tif ((decide ((Int.tmod a.2.2.2 s.1.2.1.2.2)=(0:Int)))) (
  tif ((decide (s.1.2.1.2.2=(0:Int)))) (
  none) (
  tif ((decide (s.1.2.1.2.2=(0:Int)))) (
  none) (
  tif ((!((decide (r492.2=(0:Int)))==(decide ((IntKind.wrap .i64 ((IntKind.wrap .i64 (Int.tdiv s.2.1 s.1.2.1.2.2))-s.1.2.2.1.2.2))<(IntKind.wrap .i64 (Int.tdiv a.2.2.1 s.1.2.1.2.2))))))) (
  some false) (
  QW12 n s a r492)))) (
  QW13 n s a r492))) (
  QW8 n s a r492))) (
  QW8 n s a r492)) (
  QW9 n s a r492)) (
  QW9 n s a r492)))) (
  none)))) (
  none))))))))):=by kernel_rfl
end Go.Proofs.YtjeabebacegikaaGreatDoor
namespace Go.Proofs.YtjeabebacegikaaGreatDoor
open Go.Flat Go.Plim
set_option linter.unusedVariables false
set_option linter.unusedSimpArgs false
theorem qw1_zr (n:Nat) (s:Sta) (q:List Lab×(Int×(Int×Int))):QW1 n s q (zr,8)=some true:=rfl
theorem qw2_fine (n:Nat) (s:Sta) (q:List Lab×(Int×(Int×Int))) (t:Int) {C:Cel} (hC:CellOk C) (h0:0≤C.2.2.2.2.2.2):QW2 (n+7) s q ((t,(C,rateC C)),0)=some true:=by
  obtain ⟨k1,k2⟩:=cellOk_rate hC
  unfold QW2
  by_cases h:C.2.2.2.2.2.2=0
  · have e:rateC C=(((0,0),(0,0)),12):=by unfold rateC;rw[if_pos (by omega)]
    simp only[e,decide_eq_true h,tft]
    rfl
  · have hf:=rate_fine hC (by omega)
    have e:rateC C=rateV C.2.2.2.1 C.2.2.2.2.2.2:=by unfold rateC;rw[if_neg (by omega)]
    have e2:(rateV C.2.2.2.1 C.2.2.2.2.2.2).2=0:=by
      unfold rateV redV
      rw[if_neg h,if_pos hf,if_neg (by omega)]
    simp only[decide_eq_false h,tff,wu64 h0 (by omega:C.2.2.2.2.2.2≤18446744073709551615),ratio_rate (n+1) k1 ⟨h0,(by omega:C.2.2.2.2.2.2≤18446744073709551615)⟩,obs,e,e2,decide_true,Bool.and_self,tft]
theorem qw3_err (n:Nat) (s:Sta) (q:List Lab×(Int×(Int×Int))) {c:Int} (h:c≠0):QW3 n s q (zr,c)=some true:=by
  unfold QW3
  simp only[decide_eq_false h,Bool.not_false,tft]
theorem qw4_err (n:Nat) (s:Sta) (q:List Lab×(Int×(Int×Int))) {c:Int} (h:c≠0):QW4 n s q (zr,c)=some true:=by
  unfold QW4
  simp only[decide_eq_false h,Bool.not_false,tft]
  rw[qw3_err n s q h]
  rfl
theorem qw4_fine (n:Nat) (s:Sta) (q:List Lab×(Int×(Int×Int))) {C:Cel} (hC:CellOk C) (h0:0≤C.2.2.2.2.2.2) (hi:0<C.1→q.2.2.1≤C.2.1.1∧C.2.2.1.1<q.2.2.2):QW4 (n+7) s q ((q.2.1,(C,rateC C)),0)=some true:=by
  have e2:=qw2_fine n s q q.2.1 hC h0
  have e3:QW3 (n+7) s q ((q.2.1,(C,rateC C)),0)=some true:=by
    unfold QW3
    simp only[decide_true,Bool.not_true,tff]
    rw[cell_check (n+2) (CelW.of hC),obs,if_pos hC]
    simp only[decide_true,Bool.not_true,tff,tfd]
    by_cases hp:0<C.1
    · obtain ⟨a,b⟩:=hi hp
      rw[if_pos hp,if_neg (by omega),if_neg (by omega)];exact e2
    · rw[if_neg hp];exact e2
  unfold QW4
  simp only[decide_true,Bool.not_true,tff]
  exact e3
theorem doQ_tier {s:Sta} (hs:StaOk s) {l:List Lab} (hl:LabOk l) {t a b:Int} (h1:1≤t) (h3:t≤3):doQ s l t a b=if oneV s (t-1) a b=0 then ((t,(cellQ s l (t-1) a b,rateC (cellQ s l (t-1) a b))),0) else (zr,oneV s (t-1) a b):=by
  have e:tierV s t a b=if oneV s (t-1) a b=0 then (t,0) else (0,oneV s (t-1) a b):=by
    unfold tierV;rw[if_pos hs,if_neg (by omega),if_neg (by omega)]
  unfold doQ
  rw[if_pos hs,if_pos hl,e]
  by_cases h:oneV s (t-1) a b=0
  · rw[if_pos h,if_pos h,if_pos rfl]
  · rw[if_neg h,if_neg h,if_neg h]
theorem one_cases {s:Sta} (hs:StaOk s) (k a b:Int):(¬RngP a b∧oneV s k a b=1)∨(RngP a b∧¬(a % tierW s.1 k=0∧b % tierW s.1 k=0)∧oneV s k a b=10) ∨
    (RngP a b∧(a % tierW s.1 k=0∧b % tierW s.1 k=0)∧a / tierW s.1 k≤s.2.1 / tierW s.1 k-tierN s.1 k∧oneV s k a b=11) ∨
    (RngP a b∧(a % tierW s.1 k=0∧b % tierW s.1 k=0)∧s.2.1 / tierW s.1 k-tierN s.1 k<a / tierW s.1 k∧oneV s k a b=0):=by
  obtain ⟨r1,r2,r3,r4⟩:=tier_rng hs.whole.1 k
  have hc:=hs.clock.1
  unfold oneV
  by_cases h1:RngP a b
  case neg =>
    have e:spanV a b (tierW s.1 k)=(0,(0,1)):=by unfold spanV;rw[if_neg (fun q=>h1 q.2)]
    rw[e]
    exact .inl ⟨h1,by rw[if_neg (by decide)]⟩
  by_cases h2:a % tierW s.1 k=0∧b % tierW s.1 k=0
  case neg =>
    have e:spanV a b (tierW s.1 k)=(0,(0,10)):=by unfold spanV;rw[if_pos ⟨⟨r1,r2⟩,h1⟩,if_neg h2]
    rw[e]
    exact .inr (.inl ⟨h1,h2,by rw[if_neg (by decide)]⟩)
  have e:spanV a b (tierW s.1 k)=(a / tierW s.1 k,(b / tierW s.1 k,0)):=by unfold spanV;rw[if_pos ⟨⟨r1,r2⟩,h1⟩,if_pos h2]
  have ha:0≤a / tierW s.1 k:=Int.ediv_nonneg h1.1 (by omega)
  have eo:(oldV s.2.1 (tierW s.1 k) (tierN s.1 k)).1=if 0<s.2.1 / tierW s.1 k+1-tierN s.1 k then s.2.1 / tierW s.1 k+1-tierN s.1 k else 0:=by
    unfold oldV;rw[if_pos ⟨⟨hc.1,hc.2,r1,r2⟩,r3,r4⟩]
  rw[e,if_pos rfl,eo]
  simp only
  by_cases h3:s.2.1 / tierW s.1 k-tierN s.1 k<a / tierW s.1 k
  · right;right;right
    refine ⟨h1,h2,h3,if_neg ?_⟩
    split<;>omega
  · right;right;left
    refine ⟨h1,h2,by omega,if_pos ?_⟩
    rw[if_pos (by omega)];omega
theorem qw5_one (n:Nat) (s:Sta) (q:List Lab×(Int×(Int×Int))):QW5 n s q (zr,1)=some true:=by
  have e:=qw4_err n s q (c:=1) (by decide)
  unfold QW5;rw[e];rfl
theorem qw9_one (n:Nat) (s:Sta) (q:List Lab×(Int×(Int×Int))):QW9 n s q (zr,1)=some true:=by
  unfold QW9;rw[qw5_one];rfl
theorem qw8_one (n:Nat) (s:Sta) (q:List Lab×(Int×(Int×Int))) (h:¬q.2.2.1<q.2.2.2):QW8 n s q (zr,1)=some true:=by
  unfold QW8;rw[qw5_one,decide_eq_false h];rfl
theorem qw8_ten (n:Nat) (s:Sta) (q:List Lab×(Int×(Int×Int))) (h:q.2.2.1<q.2.2.2):QW8 n s q (zr,10)=some true:=by
  unfold QW8;rw[qw4_err n s q (c:=10) (by decide),decide_eq_true h];rfl
theorem qw6_in (n:Nat) (s:Sta) (q:List Lab×(Int×(Int×Int))) (r:(Int×(Cel×((Wd×Wd)×Int)))×Int) (h:q.2.2.1<q.2.2.2) (hb:Int.tmod q.2.2.2 s.1.2.1.1=0) (h1:r.2≠1) (h10:r.2≠10):QW6 n s q r=QW4 n s q r:=by
  unfold QW6
  rw[decide_eq_true h,decide_eq_true hb,decide_eq_false h1,decide_eq_false h10];rfl
theorem qw7_ten (n:Nat) (s:Sta) (q:List Lab×(Int×(Int×Int))) (h:q.2.2.1<q.2.2.2) (hb:¬Int.tmod q.2.2.2 s.1.2.1.1=0):QW7 n s q (zr,10)=some true:=by
  unfold QW7 QW6
  rw[qw4_err n s q (c:=10) (by decide),decide_eq_true h,decide_eq_false hb];rfl
theorem qw10_in (n:Nat) (s:Sta) (q:List Lab×(Int×(Int×Int))) (r:(Int×(Cel×((Wd×Wd)×Int)))×Int) (h:q.2.2.1<q.2.2.2) (hb:Int.tmod q.2.2.2 s.1.2.1.2.1=0) (h1:r.2≠1) (h10:r.2≠10):QW10 n s q r=QW4 n s q r:=by
  unfold QW10
  rw[decide_eq_true h,decide_eq_true hb,decide_eq_false h1,decide_eq_false h10];rfl
theorem qw11_ten (n:Nat) (s:Sta) (q:List Lab×(Int×(Int×Int))) (h:q.2.2.1<q.2.2.2) (hb:¬Int.tmod q.2.2.2 s.1.2.1.2.1=0):QW11 n s q (zr,10)=some true:=by
  unfold QW11 QW10
  rw[qw4_err n s q (c:=10) (by decide),decide_eq_true h,decide_eq_false hb];rfl
theorem qw12_in (n:Nat) (s:Sta) (q:List Lab×(Int×(Int×Int))) (r:(Int×(Cel×((Wd×Wd)×Int)))×Int) (h:q.2.2.1<q.2.2.2) (hb:Int.tmod q.2.2.2 s.1.2.1.2.2=0) (h1:r.2≠1) (h10:r.2≠10):QW12 n s q r=QW4 n s q r:=by
  unfold QW12
  rw[decide_eq_true h,decide_eq_true hb,decide_eq_false h1,decide_eq_false h10];rfl
theorem qw13_ten (n:Nat) (s:Sta) (q:List Lab×(Int×(Int×Int))) (h:q.2.2.1<q.2.2.2) (hb:¬Int.tmod q.2.2.2 s.1.2.1.2.2=0):QW13 n s q (zr,10)=some true:=by
  unfold QW13 QW12
  rw[qw4_err n s q (c:=10) (by decide),decide_eq_true h,decide_eq_false hb];rfl
theorem cell_seen {C:Cel} (h:CellOk C):0≤C.2.2.2.2.2.2:=by
  rcases h with h | h
  · rw[h];decide
  · exact h.s0
theorem keep_val {now a w m:Int} (hn:TimeP now) (ha:TimeP a) (hw:1≤w∧w≤1099511627776) (hm:1≤m∧m≤4096):(decide ((IntKind.wrap .i64 ((IntKind.wrap .i64 (Int.tdiv now w))-m))<(IntKind.wrap .i64 (Int.tdiv a w))))=decide (now / w-m<a / w):=by
  have n1:=hn.1;have n2:=hn.2;have a1:=ha.1;have a2:=ha.2
  have q1:0≤now / w:=Int.ediv_nonneg n1 (by omega)
  have q2:now / w≤now:=Int.ediv_le_self _ n1
  have q3:0≤a / w:=Int.ediv_nonneg a1 (by omega)
  have q4:a / w≤a:=Int.ediv_le_self _ a1
  rw[tdiv_nn n1,tdiv_nn a1,w64 (x:=now / w) (by omega) (by omega),w64 (x:=a / w) (by omega) (by omega),w64 (by omega) (by omega)]
theorem queryWhole_true (n:Nat) (s:Sta) (q:List Lab×(Int×(Int×Int))) (hs:Wf tyState s) (hq:Wf tyAsk q):l22_QueryWhole (n+41) s q=some true:=by
  have hw:=sta_wf hs
  obtain ⟨l,t,a,b⟩:=q
  rw[l22_QueryWhole_eq,l22_lives_true n,obs,tfn,tft]
  simp only
  rcases l17_small (n+37) hw with h | ⟨h,_⟩
  · rw[h];rfl
  rw[h,obs,show (decide ((1:Int)=0))=false from rfl,tff]
  rcases l05_small (n+39) l (ask_labs hq) with h1 | h1
  · rw[h1];rfl
  rw[h1,obs,show (decide ((1:Int)=0))=false from rfl,tff,stt_check (n+26) hw,obs,tfn,tfd]
  by_cases hok:StaOk s
  case neg=>rw[if_neg hok,if_neg (by decide)]
  rw[if_pos hok,if_pos rfl,tfd]
  by_cases g1:t<1
  · rw[if_pos g1]
  rw[if_neg g1,tfd]
  by_cases g2:3<t
  · rw[if_pos g2]
  rw[if_neg g2,tier3 (by omega) (by omega)]
  have hr:=hok.whole.1.rng
  have w0:=hr.w0.1;have w1:=hr.w1.1;have w2:=hr.w2.1
  by_cases hl:LabOk l
  case neg =>
    have hd:∀t',doQ s l t' a b=(zr,8):=fun t'=>by unfold doQ;rw[if_pos hok,if_neg hl]
    have fin:∀x:Option Bool,obind (query_Do (n+40) s (l,(t,(a,b)))) (fun r4=>tif (decide ((((List.length l):Nat):Int)=(0:Int))) (QW1 (n+40) s (l,(t,(a,b))) r4) (tif (decide (r4.2=(8:Int))) (QW1 (n+40) s (l,(t,(a,b))) r4) x))=some true:=fun x=>by
      rw[query_do (n+16) hw,obs,hd,qw1_zr]
      cases decide ((((List.length l):Nat):Int)=(0:Int))<;>rfl
    rcases (by omega:t=1∨t=2∨t=3) with e | e | e
    · subst e
      rw[query_do (n+16) hw]
      simp only[obs,hd,qw1_zr]
      cases decide ((((List.length l):Nat):Int)=(0:Int))<;>rfl
    · subst e
      rw[query_do (n+16) hw]
      simp only[obs,hd,qw1_zr]
      cases decide ((((List.length l):Nat):Int)=(0:Int))<;>rfl
    · subst e
      rw[query_do (n+16) hw]
      simp only[obs,hd,qw1_zr]
      cases decide ((((List.length l):Nat):Int)=(0:Int))<;>rfl
  have hlen:¬((((List.length l):Nat):Int)=(0:Int)):=by have:=hl.n0;omega
  rcases (by omega:t=1∨t=2∨t=3) with e | e | e
  · subst e
    have hd:=doQ_tier hok hl (t:=1) (a:=a) (b:=b) (by decide) (by decide)
    have hcs:=one_cases hok (1-1) a b
    have eW:tierW s.1 (1-1)=s.1.2.1.1:=rfl
    have eN:tierN s.1 (1-1)=s.1.2.2.1.1:=rfl
    rw[eW,eN] at hcs
    rw[show (decide ((1:Int)-1=0))=true from rfl,tft,tft]
    rw[query_do (n+16) hw,obs]
    simp only
    rw[decide_eq_false hlen,tff]
    rcases hcs with ⟨c1,c2⟩ | ⟨c1,c2,c3⟩ | ⟨c1,c2,c3,c4⟩ | ⟨c1,c2,c3,c4⟩
    · rw[c2,if_neg (by decide)] at hd
      rw[hd]
      simp only[tfd]
      rw[if_neg (by decide)]
      by_cases g1:0≤a
      case neg=>rw[if_neg g1];exact qw9_one _ _ _
      rw[if_pos g1]
      by_cases g2:b≤35184372088832
      case neg=>rw[if_neg g2];exact qw9_one _ _ _
      rw[if_pos g2,if_neg (fun k=>c1 ⟨g1,g2,k⟩)]
      exact qw8_one _ _ _ (fun k=>c1 ⟨g1,g2,k⟩)
    · rw[c3,if_neg (by decide)] at hd
      rw[hd]
      simp only[tfd]
      rw[if_neg (by decide),if_pos c1.1,if_pos c1.2.1,if_pos c1.2.2,if_neg (by omega),tmod_nn c1.1,tmod_nn (a:=b) (by have:=c1.1;have:=c1.2.2;omega)]
      by_cases g1:a % s.1.2.1.1=0
      case neg=>rw[if_neg g1];exact qw8_ten _ _ _ c1.2.2
      have g2:¬b % s.1.2.1.1=0:=fun k=>c2 ⟨g1,k⟩
      rw[if_pos g1,if_neg (by omega),if_neg g2]
      exact qw7_ten _ _ _ c1.2.2 (by rw[tmod_nn (by have:=c1.1;have:=c1.2.2;show 0≤b;omega)];exact g2)
    · rw[c4,if_neg (by decide)] at hd
      have hb0:0≤b:=by have:=c1.1;have:=c1.2.2;omega
      rw[hd]
      simp only[tfd]
      rw[if_neg (by decide),if_pos c1.1,if_pos c1.2.1,if_pos c1.2.2,if_neg (by omega),tmod_nn c1.1,tmod_nn hb0,if_pos c2.1,if_neg (by omega),if_pos c2.2,if_neg (by omega),if_neg (by omega),keep_val hok.clock.1 ⟨c1.1,by have:=c1.2.1;have:=c1.2.2;omega⟩ hr.w0 hr.n0,decide_eq_false (show ¬s.2.1 / s.1.2.1.1-s.1.2.2.1.1<a / s.1.2.1.1 by omega)]
      show QW6 _ _ _ _=_
      rw[qw6_in _ _ _ _ c1.2.2 (by rw[tmod_nn hb0];exact c2.2) (by decide) (by decide)]
      exact qw4_err _ _ _ (by decide)
    · rw[c4,if_pos rfl] at hd
      have hb0:0≤b:=by have:=c1.1;have:=c1.2.2;omega
      have hin:=cellQ_in hok l (k:=1-1) (a:=a) (b:=b) (by decide) (by decide) c4
      have hC:=cellQ_ok s l (1-1) a b
      rw[hd]
      generalize cellQ s l (1-1) a b=C at *
      simp only[tfd]
      rw[if_neg (by decide),if_pos c1.1,if_pos c1.2.1,if_pos c1.2.2,if_neg (by omega),tmod_nn c1.1,tmod_nn hb0,if_pos c2.1,if_neg (by omega),if_pos c2.2,if_neg (by omega),if_neg (by omega),keep_val hok.clock.1 ⟨c1.1,by have:=c1.2.1;have:=c1.2.2;omega⟩ hr.w0 hr.n0,decide_eq_true c3]
      show QW6 _ _ _ _=_
      rw[qw6_in _ _ _ _ c1.2.2 (by rw[tmod_nn hb0];exact c2.2) (by show (0:Int)≠1;decide) (by show (0:Int)≠10;decide)]
      exact qw4_fine (n+33) s (l,(1,(a,b))) hC (cell_seen hC) hin
  · subst e
    have hd:=doQ_tier hok hl (t:=2) (a:=a) (b:=b) (by decide) (by decide)
    have hcs:=one_cases hok (2-1) a b
    have eW:tierW s.1 (2-1)=s.1.2.1.2.1:=rfl
    have eN:tierN s.1 (2-1)=s.1.2.2.1.2.1:=rfl
    rw[eW,eN] at hcs
    rw[show (decide ((2:Int)-1=0))=false from rfl,tff,show (decide ((2:Int)-1=1))=true from rfl,tft,tff,tft]
    rw[query_do (n+16) hw,obs]
    simp only
    rw[decide_eq_false hlen,tff]
    rcases hcs with ⟨c1,c2⟩ | ⟨c1,c2,c3⟩ | ⟨c1,c2,c3,c4⟩ | ⟨c1,c2,c3,c4⟩
    · rw[c2,if_neg (by decide)] at hd
      rw[hd]
      simp only[tfd]
      rw[if_neg (by decide)]
      by_cases g1:0≤a
      case neg=>rw[if_neg g1];exact qw9_one _ _ _
      rw[if_pos g1]
      by_cases g2:b≤35184372088832
      case neg=>rw[if_neg g2];exact qw9_one _ _ _
      rw[if_pos g2,if_neg (fun k=>c1 ⟨g1,g2,k⟩)]
      exact qw8_one _ _ _ (fun k=>c1 ⟨g1,g2,k⟩)
    · rw[c3,if_neg (by decide)] at hd
      rw[hd]
      simp only[tfd]
      rw[if_neg (by decide),if_pos c1.1,if_pos c1.2.1,if_pos c1.2.2,if_neg (by omega),tmod_nn c1.1,tmod_nn (a:=b) (by have:=c1.1;have:=c1.2.2;omega)]
      by_cases g1:a % s.1.2.1.2.1=0
      case neg=>rw[if_neg g1];exact qw8_ten _ _ _ c1.2.2
      have g2:¬b % s.1.2.1.2.1=0:=fun k=>c2 ⟨g1,k⟩
      rw[if_pos g1,if_neg (by omega),if_neg g2]
      exact qw11_ten _ _ _ c1.2.2 (by rw[tmod_nn (by have:=c1.1;have:=c1.2.2;show 0≤b;omega)];exact g2)
    · rw[c4,if_neg (by decide)] at hd
      have hb0:0≤b:=by have:=c1.1;have:=c1.2.2;omega
      rw[hd]
      simp only[tfd]
      rw[if_neg (by decide),if_pos c1.1,if_pos c1.2.1,if_pos c1.2.2,if_neg (by omega),tmod_nn c1.1,tmod_nn hb0,if_pos c2.1,if_neg (by omega),if_pos c2.2,if_neg (by omega),if_neg (by omega),keep_val hok.clock.1 ⟨c1.1,by have:=c1.2.1;have:=c1.2.2;omega⟩ hr.w1 hr.n1,decide_eq_false (show ¬s.2.1 / s.1.2.1.2.1-s.1.2.2.1.2.1<a / s.1.2.1.2.1 by omega)]
      show QW10 _ _ _ _=_
      rw[qw10_in _ _ _ _ c1.2.2 (by rw[tmod_nn hb0];exact c2.2) (by decide) (by decide)]
      exact qw4_err _ _ _ (by decide)
    · rw[c4,if_pos rfl] at hd
      have hb0:0≤b:=by have:=c1.1;have:=c1.2.2;omega
      have hin:=cellQ_in hok l (k:=2-1) (a:=a) (b:=b) (by decide) (by decide) c4
      have hC:=cellQ_ok s l (2-1) a b
      rw[hd]
      generalize cellQ s l (2-1) a b=C at *
      simp only[tfd]
      rw[if_neg (by decide),if_pos c1.1,if_pos c1.2.1,if_pos c1.2.2,if_neg (by omega),tmod_nn c1.1,tmod_nn hb0,if_pos c2.1,if_neg (by omega),if_pos c2.2,if_neg (by omega),if_neg (by omega),keep_val hok.clock.1 ⟨c1.1,by have:=c1.2.1;have:=c1.2.2;omega⟩ hr.w1 hr.n1,decide_eq_true c3]
      show QW10 _ _ _ _=_
      rw[qw10_in _ _ _ _ c1.2.2 (by rw[tmod_nn hb0];exact c2.2) (by show (0:Int)≠1;decide) (by show (0:Int)≠10;decide)]
      exact qw4_fine (n+33) s (l,(2,(a,b))) hC (cell_seen hC) hin
  · subst e
    have hd:=doQ_tier hok hl (t:=3) (a:=a) (b:=b) (by decide) (by decide)
    have hcs:=one_cases hok (3-1) a b
    have eW:tierW s.1 (3-1)=s.1.2.1.2.2:=rfl
    have eN:tierN s.1 (3-1)=s.1.2.2.1.2.2:=rfl
    rw[eW,eN] at hcs
    rw[show (decide ((3:Int)-1=0))=false from rfl,tff,show (decide ((3:Int)-1=1))=false from rfl,tff,show (decide ((3:Int)-1=2))=true from rfl,tft,tff,tff,tft]
    rw[query_do (n+16) hw,obs]
    simp only
    rw[decide_eq_false hlen,tff]
    rcases hcs with ⟨c1,c2⟩ | ⟨c1,c2,c3⟩ | ⟨c1,c2,c3,c4⟩ | ⟨c1,c2,c3,c4⟩
    · rw[c2,if_neg (by decide)] at hd
      rw[hd]
      simp only[tfd]
      rw[if_neg (by decide)]
      by_cases g1:0≤a
      case neg=>rw[if_neg g1];exact qw9_one _ _ _
      rw[if_pos g1]
      by_cases g2:b≤35184372088832
      case neg=>rw[if_neg g2];exact qw9_one _ _ _
      rw[if_pos g2,if_neg (fun k=>c1 ⟨g1,g2,k⟩)]
      exact qw8_one _ _ _ (fun k=>c1 ⟨g1,g2,k⟩)
    · rw[c3,if_neg (by decide)] at hd
      rw[hd]
      simp only[tfd]
      rw[if_neg (by decide),if_pos c1.1,if_pos c1.2.1,if_pos c1.2.2,if_neg (by omega),tmod_nn c1.1,tmod_nn (a:=b) (by have:=c1.1;have:=c1.2.2;omega)]
      by_cases g1:a % s.1.2.1.2.2=0
      case neg=>rw[if_neg g1];exact qw8_ten _ _ _ c1.2.2
      have g2:¬b % s.1.2.1.2.2=0:=fun k=>c2 ⟨g1,k⟩
      rw[if_pos g1,if_neg (by omega),if_neg g2]
      exact qw13_ten _ _ _ c1.2.2 (by rw[tmod_nn (by have:=c1.1;have:=c1.2.2;show 0≤b;omega)];exact g2)
    · rw[c4,if_neg (by decide)] at hd
      have hb0:0≤b:=by have:=c1.1;have:=c1.2.2;omega
      rw[hd]
      simp only[tfd]
      rw[if_neg (by decide),if_pos c1.1,if_pos c1.2.1,if_pos c1.2.2,if_neg (by omega),tmod_nn c1.1,tmod_nn hb0,if_pos c2.1,if_neg (by omega),if_pos c2.2,if_neg (by omega),if_neg (by omega),keep_val hok.clock.1 ⟨c1.1,by have:=c1.2.1;have:=c1.2.2;omega⟩ hr.w2 hr.n2,decide_eq_false (show ¬s.2.1 / s.1.2.1.2.2-s.1.2.2.1.2.2<a / s.1.2.1.2.2 by omega)]
      show QW12 _ _ _ _=_
      rw[qw12_in _ _ _ _ c1.2.2 (by rw[tmod_nn hb0];exact c2.2) (by decide) (by decide)]
      exact qw4_err _ _ _ (by decide)
    · rw[c4,if_pos rfl] at hd
      have hb0:0≤b:=by have:=c1.1;have:=c1.2.2;omega
      have hin:=cellQ_in hok l (k:=3-1) (a:=a) (b:=b) (by decide) (by decide) c4
      have hC:=cellQ_ok s l (3-1) a b
      rw[hd]
      generalize cellQ s l (3-1) a b=C at *
      simp only[tfd]
      rw[if_neg (by decide),if_pos c1.1,if_pos c1.2.1,if_pos c1.2.2,if_neg (by omega),tmod_nn c1.1,tmod_nn hb0,if_pos c2.1,if_neg (by omega),if_pos c2.2,if_neg (by omega),if_neg (by omega),keep_val hok.clock.1 ⟨c1.1,by have:=c1.2.1;have:=c1.2.2;omega⟩ hr.w2 hr.n2,decide_eq_true c3]
      show QW12 _ _ _ _=_
      rw[qw12_in _ _ _ _ c1.2.2 (by rw[tmod_nn hb0];exact c2.2) (by show (0:Int)≠1;decide) (by show (0:Int)≠10;decide)]
      exact qw4_fine (n+33) s (l,(3,(a,b))) hC (cell_seen hC) hin
end Go.Proofs.YtjeabebacegikaaGreatDoor
