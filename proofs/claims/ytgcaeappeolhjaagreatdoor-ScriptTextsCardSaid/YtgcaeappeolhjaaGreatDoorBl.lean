/-
  strings.Builder's methods, as this seat's program bears them. Printed by program; looked at by the kernel.
-/
import Derived.Test.YtgcaeappeolhjaaGreatDoorFlatM3
import Derived.Test.YtgcaeappeolhjaaGreatDoorRows
import Derived.KernelRfl
set_option linter.unusedVariables false
namespace Go.Proofs.YtgcaeappeolhjaaGreatDoor
open Go.Flat Go.Shelf Go.RowKit Go.Proofs
def blRen:Ren:=⟨fun | 166=>40 | 167=>41 | 169=>42 | 240=>73 | 276=>91 | n=>n,fun | 0=>0 | 3=>3 | 4=>4 | 5=>5 | 9=>9 | 37=>61 | 70=>73 | 72=>75 | 75=>77 | 127=>114 | 164=>132 | n=>n,fun n=>n⟩
set_option maxHeartbeats 2000000 in
set_option maxRecDepth 100000 in
theorem bl_used (b:Nat) (w:World) (h0:w.cell? ⟨b,0,none⟩=some (.pointer (some ⟨b,0,none⟩))) :
    Calls Tryz.prog 73 #[.pointer (some ⟨b,0,none⟩)] w fun e w'=>e = .returned (.tuple #[])∧w'=w:=by
  obtain ⟨j,hj,hjs⟩:=Option.map_eq_some_iff.1 (show (Tryz.prog.info? 75).map (fun i=>i.size)=some 2 by kernel_rfl)
  go_enter Tryz.func73,Tryz.ntmps73
  go_wp2
  rw[Lib.run_neq_ptr_same w _ Tryz.underlying73 hj]
  go_wp2
  go_end0
  exact ⟨rfl,rfl⟩
set_option maxHeartbeats 2000000 in
set_option maxRecDepth 100000 in
theorem bl_fresh (b:Nat) (w:World) (h0:w.cell? ⟨b,0,none⟩=some (.pointer none)) (hsh:w.shape? b=some (75,2)) (hfz:w.frozen? ⟨b,0,none⟩=false) :
    Calls Tryz.prog 73 #[.pointer (some ⟨b,0,none⟩)] w fun e w'=>e = .returned (.tuple #[])∧w'=w.setCell ⟨b,0,none⟩ (.pointer (some ⟨b,0,none⟩)):=by
  obtain ⟨j,hj,hjs⟩:=Option.map_eq_some_iff.1 (show (Tryz.prog.info? 75).map (fun i=>i.size)=some 2 by kernel_rfl)
  go_enter Tryz.func73,Tryz.ntmps73
  go_wp2
  rw[Lib.run_to_unsafe w ⟨b,0,none⟩ Tryz.underlying73 Tryz.underlying132 hj (by rw[hjs];decide) hsh (Nat.zero_lt_succ 1)]
  simp only[Result.andThen]
  rw[Oper.upon_value]
  go_wp2
  rw[run_callFunc_extern Tryz.func91 (by kernel_rfl) (by kernel_rfl) (by kernel_rfl) (e:=Extern.AbiNoEscape.same) (by kernel_rfl)]
  rw[Lib.run_noEscape]
  simp only[Result.andThen]
  rw[Oper.upon_value]
  go_wp2
  rw[Lib.run_from_unsafe w ⟨b,0,none⟩ Tryz.underlying132 Tryz.underlying73 hj hsh (by kernel_rfl)]
  simp only[Result.andThen]
  rw[Oper.upon_value]
  go_wp2
  go_end0
  exact ⟨rfl,rfl⟩
theorem blL:BldL Tryz.prog blRen := {
  mixed:=by kernel_rfl
  e240:=enters_of Tryz.func73 (by kernel_rfl) rfl
  copy:=bld_copy bl_used bl_fresh
  t3:=Tryz.underlying3
  a3:=Tryz.isAgg3
  z3:=Tryz.sizeOf3
  v3:=Tryz.zeroValue3
  t4:=Tryz.underlying4
  a4:=Tryz.isAgg4
  z4:=Tryz.sizeOf4
  v4:=Tryz.zeroValue4
  t5:=Tryz.underlying5
  a5:=Tryz.isAgg5
  z5:=Tryz.sizeOf5
  v5:=Tryz.zeroValue5
  t9:=Tryz.underlying9
  a9:=Tryz.isAgg9
  z9:=Tryz.sizeOf9
  v9:=Tryz.zeroValue9
  t37:=Tryz.underlying61
  a37:=Tryz.isAgg61
  z37:=Tryz.sizeOf61
  v37:=Tryz.zeroValue61
  t70:=Tryz.underlying73
  a70:=Tryz.isAgg73
  z70:=Tryz.sizeOf73
  v70:=Tryz.zeroValue73
  t72:=Tryz.underlying75
  a72:=Tryz.isAgg75
  z72:=Tryz.sizeOf75
  v72:=Tryz.zeroValue75 }
theorem blF166:Tryz.prog.funcs[blRen.f 166]? = some (Body.n166 blRen):=Tryz.func40.trans (congrArg some (by kernel_rfl))
theorem blF167:Tryz.prog.funcs[blRen.f 167]? = some (Body.n167 blRen):=Tryz.func41.trans (congrArg some (by kernel_rfl))
theorem blS:Go.Proofs.Lays.n169 Tryz.prog blRen := {
  mixed:=by kernel_rfl
  f169:=Tryz.func42.trans (congrArg some (by kernel_rfl))
  t0:=Tryz.underlying0
  a0:=Tryz.isAgg0
  z0:=Tryz.sizeOf0
  v0:=Tryz.zeroValue0
  t3:=Tryz.underlying3
  a3:=Tryz.isAgg3
  z3:=Tryz.sizeOf3
  v3:=Tryz.zeroValue3
  t9:=Tryz.underlying9
  a9:=Tryz.isAgg9
  z9:=Tryz.sizeOf9
  v9:=Tryz.zeroValue9
  t37:=Tryz.underlying61
  a37:=Tryz.isAgg61
  z37:=Tryz.sizeOf61
  v37:=Tryz.zeroValue61
  t70:=Tryz.underlying73
  a70:=Tryz.isAgg73
  z70:=Tryz.sizeOf73
  v70:=Tryz.zeroValue73
  t72:=Tryz.underlying75
  a72:=Tryz.isAgg75
  z72:=Tryz.sizeOf75
  v72:=Tryz.zeroValue75
  t127:=Tryz.underlying114
  a127:=Tryz.isAgg114
  z127:=Tryz.sizeOf114
  v127:=Tryz.zeroValue114 }
theorem blX:Builder.Extra Tryz.prog blRen := {
  sizeBuilder:=by kernel_rfl
  liesBuilder:=by kernel_rfl
  t5:=Tryz.underlying5
  a5:=Tryz.isAgg5
  z5:=Tryz.sizeOf5
  v5:=Tryz.zeroValue5
  infoByte:=by kernel_rfl
  cellsByte:=by kernel_rfl
  sizeByte:=by kernel_rfl
  neB5:=by decide }
end Go.Proofs.YtgcaeappeolhjaaGreatDoor
