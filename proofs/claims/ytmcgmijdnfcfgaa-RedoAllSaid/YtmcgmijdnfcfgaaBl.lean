/-
 strings.Builder's methods, as this seat's program bears them. Printed by program; looked at by the kernel.
-/
import Derived.Test.YtmcgmijdnfcfgaaFlatM4
import Derived.Test.YtmcgmijdnfcfgaaRows
import Derived.KernelRfl
set_option linter.unusedVariables false
namespace Go.Proofs.Ytmcgmijdnfcfgaa
open Go.Flat Go.Shelf Go.RowKit Go.Proofs
def a1j:Ren:=⟨fun | 165=>48 | 166=>49 | 169=>51 | 170=>50 | 240=>68 | 241=>69 | 276=>74 | 277=>75 | n=>n,fun | 0=>0 | 3=>3 | 4=>4 | 5=>5 | 9=>9 | 37=>77 | 70=>97 | 72=>99 | 75=>101 | 127=>127 | 164=>133 | n=>n,fun n=>n⟩
set_option maxHeartbeats 2000000 in
set_option maxRecDepth 100000 in
theorem bl_used (b:Nat) (w:World) (h0:w.cell? ⟨b,0,none⟩=some (.pointer (some ⟨b,0,none⟩))) :
  Calls Try.prog 68 #[.pointer (some ⟨b,0,none⟩)] w fun e w'=>e = .returned (.tuple #[])∧w'=w:=by
 obtain ⟨j,hj,hjs⟩:=Option.map_eq_some_iff.1 (show (Try.prog.info? 99).map (fun i=>i.size)=some 2 by kernel_rfl)
 go_enter Try.func68,Try.ntmps68
 go_wp2
 rw[Lib.run_neq_ptr_same w _ Try.underlying97 hj]
 go_wp2
 go_end0
 exact ⟨rfl,rfl⟩
set_option maxHeartbeats 2000000 in
set_option maxRecDepth 100000 in
theorem bl_fresh (b:Nat) (w:World) (h0:w.cell? ⟨b,0,none⟩=some (.pointer none)) (hsh:w.shape? b=some (99,2)) (hfz:w.frozen? ⟨b,0,none⟩=false) :
  Calls Try.prog 68 #[.pointer (some ⟨b,0,none⟩)] w fun e w'=>e = .returned (.tuple #[])∧w'=w.setCell ⟨b,0,none⟩ (.pointer (some ⟨b,0,none⟩)):=by
 obtain ⟨j,hj,hjs⟩:=Option.map_eq_some_iff.1 (show (Try.prog.info? 99).map (fun i=>i.size)=some 2 by kernel_rfl)
 go_enter Try.func68,Try.ntmps68
 go_wp2
 rw[Lib.run_to_unsafe w ⟨b,0,none⟩ Try.underlying97 Try.underlying133 hj (by rw[hjs];decide) hsh (Nat.zero_lt_succ 1)];simp only[Result.andThen];rw[Oper.upon_value]
 go_wp2
 rw[run_callFunc_extern Try.func74 (by kernel_rfl) (by kernel_rfl) (by kernel_rfl) (e:=Extern.AbiNoEscape.same) (by kernel_rfl)];rw[Lib.run_noEscape];simp only[Result.andThen];rw[Oper.upon_value]
 go_wp2
 rw[Lib.run_from_unsafe w ⟨b,0,none⟩ Try.underlying133 Try.underlying97 hj hsh (by kernel_rfl)];simp only[Result.andThen];rw[Oper.upon_value]
 go_wp2
 go_end0
 exact ⟨rfl,rfl⟩
theorem blL:BldL Try.prog a1j := {
 mixed:=by kernel_rfl
 e240:=enters_of Try.func68 (by kernel_rfl) rfl
 copy:=bld_copy bl_used bl_fresh
 t3:=Try.underlying3
 a3:=Try.isAgg3
 z3:=Try.sizeOf3
 v3:=Try.zeroValue3
 t4:=Try.underlying4
 a4:=Try.isAgg4
 z4:=Try.sizeOf4
 v4:=Try.zeroValue4
 t5:=Try.underlying5
 a5:=Try.isAgg5
 z5:=Try.sizeOf5
 v5:=Try.zeroValue5
 t9:=Try.underlying9
 a9:=Try.isAgg9
 z9:=Try.sizeOf9
 v9:=Try.zeroValue9
 t37:=Try.underlying77
 a37:=Try.isAgg77
 z37:=Try.sizeOf77
 v37:=Try.zeroValue77
 t70:=Try.underlying97
 a70:=Try.isAgg97
 z70:=Try.sizeOf97
 v70:=Try.zeroValue97
 t72:=Try.underlying99
 a72:=Try.isAgg99
 z72:=Try.sizeOf99
 v72:=Try.zeroValue99 }
theorem blF166:Try.prog.funcs[a1j.f 166]? = some (Body.n166 a1j):=Try.func49.trans (congrArg some (by kernel_rfl))
theorem blF170:Try.prog.funcs[a1j.f 170]? = some (Body.n170 a1j):=Try.func50.trans (congrArg some (by kernel_rfl))
theorem blG:GrowL Try.prog a1j := {
 f165:=Try.func48.trans (congrArg some (by kernel_rfl))
 f241:=Try.func69.trans (congrArg some (by kernel_rfl))
 e241:=enters_of Try.func69 (by kernel_rfl) rfl
 room:=fun n w hn=>room_run (ps := #[3]) Try.underlying77 (fun n w v w' h=>by
  show (callFunc 75 #[.int .i64 n]).run Try.prog w=_;rw[run_callFunc_extern Try.func75 (by kernel_rfl) (by kernel_rfl) (by kernel_rfl) (e:=Extern.BytealgMakeNoZero.makeNoZero #[3] #[77]) (by kernel_rfl),h]
  rfl) n w hn }
theorem blS:Go.Proofs.Lays.n169 Try.prog a1j := {
 mixed:=by kernel_rfl
 f169:=Try.func51.trans (congrArg some (by kernel_rfl))
 t0:=Try.underlying0
 a0:=Try.isAgg0
 z0:=Try.sizeOf0
 v0:=Try.zeroValue0
 t3:=Try.underlying3
 a3:=Try.isAgg3
 z3:=Try.sizeOf3
 v3:=Try.zeroValue3
 t9:=Try.underlying9
 a9:=Try.isAgg9
 z9:=Try.sizeOf9
 v9:=Try.zeroValue9
 t37:=Try.underlying77
 a37:=Try.isAgg77
 z37:=Try.sizeOf77
 v37:=Try.zeroValue77
 t70:=Try.underlying97
 a70:=Try.isAgg97
 z70:=Try.sizeOf97
 v70:=Try.zeroValue97
 t72:=Try.underlying99
 a72:=Try.isAgg99
 z72:=Try.sizeOf99
 v72:=Try.zeroValue99
 t127:=Try.underlying127
 a127:=Try.isAgg127
 z127:=Try.sizeOf127
 v127:=Try.zeroValue127 }
theorem blX:Builder.Extra Try.prog a1j := {
 sizeBuilder:=by kernel_rfl
 liesBuilder:=by kernel_rfl
 t5:=Try.underlying5
 a5:=Try.isAgg5
 z5:=Try.sizeOf5
 v5:=Try.zeroValue5
 infoByte:=by kernel_rfl
 cellsByte:=by kernel_rfl
 sizeByte:=by kernel_rfl
 neB5:=by decide }
end Go.Proofs.Ytmcgmijdnfcfgaa
