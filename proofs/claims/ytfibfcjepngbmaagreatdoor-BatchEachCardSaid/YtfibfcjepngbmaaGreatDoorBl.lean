/-
 strings.Builder's methods, as this seat's program bears them. Printed by program; looked at by the kernel.
-/
import Derived.Test.YtfibfcjepngbmaaGreatDoorFlatM4
import Derived.Test.YtfibfcjepngbmaaGreatDoorRows
import Derived.KernelRfl
set_option linter.unusedVariables false
namespace Go.Proofs.YtfibfcjepngbmaaGreatDoor
open Go.Flat Go.Shelf Go.RowKit Go.Proofs
def v1p:Ren:=⟨fun | 166=>60 | 167=>62 | 169=>63 | 240=>90 | 276=>120 | n=>n,fun | 0=>0 | 3=>3 | 4=>4 | 5=>5 | 9=>9 | 37=>106 | 70=>105 | 72=>108 | 75=>111 | 127=>135 | 164=>160 | n=>n,fun n=>n⟩
set_option maxHeartbeats 2000000 in
set_option maxRecDepth 100000 in
theorem bl_used (b:Nat)(w:World)(h0:w.cell? ⟨b,0,none⟩=some (.pointer (some ⟨b,0,none⟩))) :
  Calls Tryz.prog 90 #[.pointer (some ⟨b,0,none⟩)] w fun e w'=>e = .returned (.tuple #[])/\w'=w:=by
 obtain ⟨j,hj,hjs⟩:=q2r.1 (show (Tryz.prog.info? 108).map (fun i=>i.size)=some 2 by kernel_rfl)
 go_enter Tryz.func90,Tryz.ntmps90
 go_wp2
 rw[Lib.run_neq_ptr_same w _ Tryz.underlying105 hj]
 go_wp2
 go_end0
 exact ⟨rfl,rfl⟩
set_option maxHeartbeats 2000000 in
set_option maxRecDepth 100000 in
theorem bl_fresh (b:Nat)(w:World)(h0:w.cell? ⟨b,0,none⟩=some (.pointer none))(hsh:w.shape? b=some (108,2))(hfz:w.frozen? ⟨b,0,none⟩=false) :
  Calls Tryz.prog 90 #[.pointer (some ⟨b,0,none⟩)] w fun e w'=>e = .returned (.tuple #[])/\w'=w.setCell ⟨b,0,none⟩ (.pointer (some ⟨b,0,none⟩)):=by
 obtain ⟨j,hj,hjs⟩:=q2r.1 (show (Tryz.prog.info? 108).map (fun i=>i.size)=some 2 by kernel_rfl)
 go_enter Tryz.func90,Tryz.ntmps90
 go_wp2
 rw[Lib.run_to_unsafe w ⟨b,0,none⟩ Tryz.underlying105 Tryz.underlying160 hj (by rw[hjs];decide) hsh (Nat.zero_lt_succ 1)];simp only[Result.andThen];rw[Oper.upon_value]
 go_wp2
 rw[run_callFunc_extern Tryz.func120 (by kernel_rfl) (by kernel_rfl) (by kernel_rfl) (e:=Extern.AbiNoEscape.same) (by kernel_rfl)];rw[Lib.run_noEscape];simp only[Result.andThen];rw[Oper.upon_value]
 go_wp2
 rw[Lib.run_from_unsafe w ⟨b,0,none⟩ Tryz.underlying160 Tryz.underlying105 hj hsh (by kernel_rfl)];simp only[Result.andThen];rw[Oper.upon_value]
 go_wp2
 go_end0
 exact ⟨rfl,rfl⟩
theorem blL:BldL Tryz.prog v1p := {
 mixed:=by kernel_rfl
 e240:=enters_of Tryz.func90 (by kernel_rfl) rfl
 copy:=bld_copy bl_used bl_fresh
 t3:=Tryz.underlying3
 a3:=Tryz.isAgg3
 z3:=Tryz.sizeOf3
 v3:=Tryz.zeroValue3
 t4:=Tryz.underlying4
 a4:=Tryz.isAgg4
 z4:=Tryz.sizeOf4
 v4:=Tryz.zeroValue4
 t5:=Tryz.underlying5
 a5:=Tryz.isAgg5
 z5:=Tryz.sizeOf5
 v5:=Tryz.zeroValue5
 t9:=Tryz.underlying9
 a9:=Tryz.isAgg9
 z9:=Tryz.sizeOf9
 v9:=Tryz.zeroValue9
 t37:=Tryz.underlying106
 a37:=Tryz.isAgg106
 z37:=Tryz.sizeOf106
 v37:=Tryz.zeroValue106
 t70:=Tryz.underlying105
 a70:=Tryz.isAgg105
 z70:=Tryz.sizeOf105
 v70:=Tryz.zeroValue105
 t72:=Tryz.underlying108
 a72:=Tryz.isAgg108
 z72:=Tryz.sizeOf108
 v72:=Tryz.zeroValue108 }
theorem blF166:Tryz.prog.funcs[v1p.f 166]? = some (Body.n166 v1p):=Tryz.func60.trans (congrArg some (by kernel_rfl))
theorem blF167:Tryz.prog.funcs[v1p.f 167]? = some (Body.n167 v1p):=Tryz.func62.trans (congrArg some (by kernel_rfl))
theorem blS:Go.Proofs.Lays.n169 Tryz.prog v1p := {
 mixed:=by kernel_rfl
 f169:=Tryz.func63.trans (congrArg some (by kernel_rfl))
 t0:=Tryz.underlying0
 a0:=Tryz.isAgg0
 z0:=Tryz.sizeOf0
 v0:=Tryz.zeroValue0
 t3:=Tryz.underlying3
 a3:=Tryz.isAgg3
 z3:=Tryz.sizeOf3
 v3:=Tryz.zeroValue3
 t9:=Tryz.underlying9
 a9:=Tryz.isAgg9
 z9:=Tryz.sizeOf9
 v9:=Tryz.zeroValue9
 t37:=Tryz.underlying106
 a37:=Tryz.isAgg106
 z37:=Tryz.sizeOf106
 v37:=Tryz.zeroValue106
 t70:=Tryz.underlying105
 a70:=Tryz.isAgg105
 z70:=Tryz.sizeOf105
 v70:=Tryz.zeroValue105
 t72:=Tryz.underlying108
 a72:=Tryz.isAgg108
 z72:=Tryz.sizeOf108
 v72:=Tryz.zeroValue108
 t127:=Tryz.underlying135
 a127:=Tryz.isAgg135
 z127:=Tryz.sizeOf135
 v127:=Tryz.zeroValue135 }
theorem blX:Builder.Extra Tryz.prog v1p := {
 sizeBuilder:=by kernel_rfl
 liesBuilder:=by kernel_rfl
 t5:=Tryz.underlying5
 a5:=Tryz.isAgg5
 z5:=Tryz.sizeOf5
 v5:=Tryz.zeroValue5
 infoByte:=by kernel_rfl
 cellsByte:=by kernel_rfl
 sizeByte:=by kernel_rfl
 neB5:=by decide }
end Go.Proofs.YtfibfcjepngbmaaGreatDoor
