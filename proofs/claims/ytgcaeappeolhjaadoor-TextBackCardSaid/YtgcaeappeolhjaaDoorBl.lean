/-
  strings.Builder's methods, as this seat's program bears them. Printed by program; looked at by the kernel.
-/
import Derived.Test.YtgcaeappeolhjaaDoorFlatM4
import Derived.Test.YtgcaeappeolhjaaDoorRows
import Derived.KernelRfl
set_option linter.unusedVariables false
namespace Go.Proofs.YtgcaeappeolhjaaDoor
open Go.Flat Go.Shelf Go.RowKit Go.Proofs
def blRen:Ren:=⟨fun | 166=>24 | 167=>25 | 169=>26 | 240=>49 | 276=>65 | n=>n,fun | 0=>0 | 3=>3 | 4=>4 | 5=>5 | 9=>9 | 37=>57 | 70=>68 | 72=>70 | 75=>72 | 127=>99 | 164=>116 | n=>n,fun n=>n⟩
set_option maxHeartbeats 2000000 in
set_option maxRecDepth 100000 in
theorem bl_used (b:Nat) (w:World) (h0:w.cell? ⟨b,0,none⟩=some (.pointer (some ⟨b,0,none⟩))) :
    Calls Tryd.prog 49 #[.pointer (some ⟨b,0,none⟩)] w fun e w'=>e = .returned (.tuple #[])∧w'=w:=by
  obtain ⟨j,hj,hjs⟩:=Option.map_eq_some_iff.1 (show (Tryd.prog.info? 70).map (fun i=>i.size)=some 2 by kernel_rfl)
  go_enter Tryd.func49,Tryd.ntmps49
  go_wp2
  rw[Lib.run_neq_ptr_same w _ Tryd.underlying68 hj]
  go_wp2
  go_end0
  exact ⟨rfl,rfl⟩
set_option maxHeartbeats 2000000 in
set_option maxRecDepth 100000 in
theorem bl_fresh (b:Nat) (w:World) (h0:w.cell? ⟨b,0,none⟩=some (.pointer none)) (hsh:w.shape? b=some (70,2)) (hfz:w.frozen? ⟨b,0,none⟩=false) :
    Calls Tryd.prog 49 #[.pointer (some ⟨b,0,none⟩)] w fun e w'=>e = .returned (.tuple #[])∧w'=w.setCell ⟨b,0,none⟩ (.pointer (some ⟨b,0,none⟩)):=by
  obtain ⟨j,hj,hjs⟩:=Option.map_eq_some_iff.1 (show (Tryd.prog.info? 70).map (fun i=>i.size)=some 2 by kernel_rfl)
  go_enter Tryd.func49,Tryd.ntmps49
  go_wp2
  rw[Lib.run_to_unsafe w ⟨b,0,none⟩ Tryd.underlying68 Tryd.underlying116 hj (by rw[hjs];decide) hsh (Nat.zero_lt_succ 1)]
  simp only[Result.andThen]
  rw[Oper.upon_value]
  go_wp2
  rw[run_callFunc_extern Tryd.func65 (by kernel_rfl) (by kernel_rfl) (by kernel_rfl) (e:=Extern.AbiNoEscape.same) (by kernel_rfl)]
  rw[Lib.run_noEscape]
  simp only[Result.andThen]
  rw[Oper.upon_value]
  go_wp2
  rw[Lib.run_from_unsafe w ⟨b,0,none⟩ Tryd.underlying116 Tryd.underlying68 hj hsh (by kernel_rfl)]
  simp only[Result.andThen]
  rw[Oper.upon_value]
  go_wp2
  go_end0
  exact ⟨rfl,rfl⟩
theorem blL:BldL Tryd.prog blRen := {
  mixed:=by kernel_rfl
  e240:=enters_of Tryd.func49 (by kernel_rfl) rfl
  copy:=bld_copy bl_used bl_fresh
  t3:=Tryd.underlying3
  a3:=Tryd.isAgg3
  z3:=Tryd.sizeOf3
  v3:=Tryd.zeroValue3
  t4:=Tryd.underlying4
  a4:=Tryd.isAgg4
  z4:=Tryd.sizeOf4
  v4:=Tryd.zeroValue4
  t5:=Tryd.underlying5
  a5:=Tryd.isAgg5
  z5:=Tryd.sizeOf5
  v5:=Tryd.zeroValue5
  t9:=Tryd.underlying9
  a9:=Tryd.isAgg9
  z9:=Tryd.sizeOf9
  v9:=Tryd.zeroValue9
  t37:=Tryd.underlying57
  a37:=Tryd.isAgg57
  z37:=Tryd.sizeOf57
  v37:=Tryd.zeroValue57
  t70:=Tryd.underlying68
  a70:=Tryd.isAgg68
  z70:=Tryd.sizeOf68
  v70:=Tryd.zeroValue68
  t72:=Tryd.underlying70
  a72:=Tryd.isAgg70
  z72:=Tryd.sizeOf70
  v72:=Tryd.zeroValue70 }
theorem blF166:Tryd.prog.funcs[blRen.f 166]? = some (Body.n166 blRen):=Tryd.func24.trans (congrArg some (by kernel_rfl))
theorem blF167:Tryd.prog.funcs[blRen.f 167]? = some (Body.n167 blRen):=Tryd.func25.trans (congrArg some (by kernel_rfl))
theorem blS:Go.Proofs.Lays.n169 Tryd.prog blRen := {
  mixed:=by kernel_rfl
  f169:=Tryd.func26.trans (congrArg some (by kernel_rfl))
  t0:=Tryd.underlying0
  a0:=Tryd.isAgg0
  z0:=Tryd.sizeOf0
  v0:=Tryd.zeroValue0
  t3:=Tryd.underlying3
  a3:=Tryd.isAgg3
  z3:=Tryd.sizeOf3
  v3:=Tryd.zeroValue3
  t9:=Tryd.underlying9
  a9:=Tryd.isAgg9
  z9:=Tryd.sizeOf9
  v9:=Tryd.zeroValue9
  t37:=Tryd.underlying57
  a37:=Tryd.isAgg57
  z37:=Tryd.sizeOf57
  v37:=Tryd.zeroValue57
  t70:=Tryd.underlying68
  a70:=Tryd.isAgg68
  z70:=Tryd.sizeOf68
  v70:=Tryd.zeroValue68
  t72:=Tryd.underlying70
  a72:=Tryd.isAgg70
  z72:=Tryd.sizeOf70
  v72:=Tryd.zeroValue70
  t127:=Tryd.underlying99
  a127:=Tryd.isAgg99
  z127:=Tryd.sizeOf99
  v127:=Tryd.zeroValue99 }
theorem blX:Builder.Extra Tryd.prog blRen := {
  sizeBuilder:=by kernel_rfl
  liesBuilder:=by kernel_rfl
  t5:=Tryd.underlying5
  a5:=Tryd.isAgg5
  z5:=Tryd.sizeOf5
  v5:=Tryd.zeroValue5
  infoByte:=by kernel_rfl
  cellsByte:=by kernel_rfl
  sizeByte:=by kernel_rfl
  neB5:=by decide }
end Go.Proofs.YtgcaeappeolhjaaDoor
