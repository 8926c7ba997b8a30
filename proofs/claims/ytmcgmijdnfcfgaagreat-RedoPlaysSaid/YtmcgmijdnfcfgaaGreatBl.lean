/-
 strings.Builder's methods, as this seat's program bears them. Printed by program; looked at by the kernel.
-/
import Derived.Test.YtmcgmijdnfcfgaaGreatFlatM4
import Derived.Test.YtmcgmijdnfcfgaaGreatRows
import Derived.KernelRfl
set_option linter.unusedVariables false
namespace Go.Proofs.YtmcgmijdnfcfgaaGreat
open Go.Flat Go.Shelf Go.RowKit Go.Proofs
def e1h:Ren:=⟨fun | 165=>72 | 166=>73 | 169=>75 | 170=>74 | 240=>97 | 241=>98 | 276=>108 | 277=>109 | n=>n,fun | 0=>0 | 3=>3 | 4=>4 | 5=>5 | 9=>9 | 37=>84 | 70=>126 | 72=>128 | 75=>130 | 127=>159 | 164=>165 | n=>n,fun n=>n⟩
set_option maxHeartbeats 2000000 in
set_option maxRecDepth 100000 in
theorem bl_used (b:Nat) (w:World) (h0:w.cell? ⟨b,0,none⟩=some (.pointer (some ⟨b,0,none⟩))) :
  Calls Tryz.prog 97 #[.pointer (some ⟨b,0,none⟩)] w fun e w'=>e = .returned (.tuple #[])∧w'=w:=by
 obtain ⟨j,hj,hjs⟩:=Option.map_eq_some_iff.1 (show (Tryz.prog.info? 128).map (fun i=>i.size)=some 2 by kernel_rfl)
 go_enter Tryz.func97,Tryz.ntmps97
 go_wp2
 rw[Lib.run_neq_ptr_same w _ Tryz.underlying126 hj]
 go_wp2
 go_end0
 exact ⟨rfl,rfl⟩
set_option maxHeartbeats 2000000 in
set_option maxRecDepth 100000 in
theorem bl_fresh (b:Nat) (w:World) (h0:w.cell? ⟨b,0,none⟩=some (.pointer none)) (hsh:w.shape? b=some (128,2)) (hfz:w.frozen? ⟨b,0,none⟩=false) :
  Calls Tryz.prog 97 #[.pointer (some ⟨b,0,none⟩)] w fun e w'=>e = .returned (.tuple #[])∧w'=w.setCell ⟨b,0,none⟩ (.pointer (some ⟨b,0,none⟩)):=by
 obtain ⟨j,hj,hjs⟩:=Option.map_eq_some_iff.1 (show (Tryz.prog.info? 128).map (fun i=>i.size)=some 2 by kernel_rfl)
 go_enter Tryz.func97,Tryz.ntmps97
 go_wp2
 rw[Lib.run_to_unsafe w ⟨b,0,none⟩ Tryz.underlying126 Tryz.underlying165 hj (by rw[hjs];decide) hsh (Nat.zero_lt_succ 1)];simp only[Result.andThen];rw[Oper.upon_value]
 go_wp2
 rw[run_callFunc_extern Tryz.func108 (by kernel_rfl) (by kernel_rfl) (by kernel_rfl) (e:=Extern.AbiNoEscape.same) (by kernel_rfl)];rw[Lib.run_noEscape];simp only[Result.andThen];rw[Oper.upon_value]
 go_wp2
 rw[Lib.run_from_unsafe w ⟨b,0,none⟩ Tryz.underlying165 Tryz.underlying126 hj hsh (by kernel_rfl)];simp only[Result.andThen];rw[Oper.upon_value]
 go_wp2
 go_end0
 exact ⟨rfl,rfl⟩
theorem blL:BldL Tryz.prog e1h := {
 mixed:=by kernel_rfl
 e240:=enters_of Tryz.func97 (by kernel_rfl) rfl
 copy:=bld_copy bl_used bl_fresh
 t3:=Tryz.underlying3
 a3:=Tryz.isAgg3
 z3:=Tryz.sizeOf3
 v3:=Tryz.zeroValue3
 t4:=Tryz.underlying4
 a4:=Tryz.isAgg4
 z4:=Tryz.sizeOf4
 v4:=Tryz.zeroValue4
 t5:=Tryz.underlying5
 a5:=Tryz.isAgg5
 z5:=Tryz.sizeOf5
 v5:=Tryz.zeroValue5
 t9:=Tryz.underlying9
 a9:=Tryz.isAgg9
 z9:=Tryz.sizeOf9
 v9:=Tryz.zeroValue9
 t37:=Tryz.underlying84
 a37:=Tryz.isAgg84
 z37:=Tryz.sizeOf84
 v37:=Tryz.zeroValue84
 t70:=Tryz.underlying126
 a70:=Tryz.isAgg126
 z70:=Tryz.sizeOf126
 v70:=Tryz.zeroValue126
 t72:=Tryz.underlying128
 a72:=Tryz.isAgg128
 z72:=Tryz.sizeOf128
 v72:=Tryz.zeroValue128 }
theorem blF166:Tryz.prog.funcs[e1h.f 166]? = some (Body.n166 e1h):=Tryz.func73.trans (congrArg some (by kernel_rfl))
theorem blF170:Tryz.prog.funcs[e1h.f 170]? = some (Body.n170 e1h):=Tryz.func74.trans (congrArg some (by kernel_rfl))
theorem blG:GrowL Tryz.prog e1h := {
 f165:=Tryz.func72.trans (congrArg some (by kernel_rfl))
 f241:=Tryz.func98.trans (congrArg some (by kernel_rfl))
 e241:=enters_of Tryz.func98 (by kernel_rfl) rfl
 room:=fun n w hn=>room_run (ps := #[3]) Tryz.underlying84 (fun n w v w' h=>by
  show (callFunc 109 #[.int .i64 n]).run Tryz.prog w=_;rw[run_callFunc_extern Tryz.func109 (by kernel_rfl) (by kernel_rfl) (by kernel_rfl) (e:=Extern.BytealgMakeNoZero.makeNoZero #[3] #[84]) (by kernel_rfl),h]
  rfl) n w hn }
theorem blS:Go.Proofs.Lays.n169 Tryz.prog e1h := {
 mixed:=by kernel_rfl
 f169:=Tryz.func75.trans (congrArg some (by kernel_rfl))
 t0:=Tryz.underlying0
 a0:=Tryz.isAgg0
 z0:=Tryz.sizeOf0
 v0:=Tryz.zeroValue0
 t3:=Tryz.underlying3
 a3:=Tryz.isAgg3
 z3:=Tryz.sizeOf3
 v3:=Tryz.zeroValue3
 t9:=Tryz.underlying9
 a9:=Tryz.isAgg9
 z9:=Tryz.sizeOf9
 v9:=Tryz.zeroValue9
 t37:=Tryz.underlying84
 a37:=Tryz.isAgg84
 z37:=Tryz.sizeOf84
 v37:=Tryz.zeroValue84
 t70:=Tryz.underlying126
 a70:=Tryz.isAgg126
 z70:=Tryz.sizeOf126
 v70:=Tryz.zeroValue126
 t72:=Tryz.underlying128
 a72:=Tryz.isAgg128
 z72:=Tryz.sizeOf128
 v72:=Tryz.zeroValue128
 t127:=Tryz.underlying159
 a127:=Tryz.isAgg159
 z127:=Tryz.sizeOf159
 v127:=Tryz.zeroValue159 }
theorem blX:Builder.Extra Tryz.prog e1h := {
 sizeBuilder:=by kernel_rfl
 liesBuilder:=by kernel_rfl
 t5:=Tryz.underlying5
 a5:=Tryz.isAgg5
 z5:=Tryz.sizeOf5
 v5:=Tryz.zeroValue5
 infoByte:=by kernel_rfl
 cellsByte:=by kernel_rfl
 sizeByte:=by kernel_rfl
 neB5:=by decide }
end Go.Proofs.YtmcgmijdnfcfgaaGreat
