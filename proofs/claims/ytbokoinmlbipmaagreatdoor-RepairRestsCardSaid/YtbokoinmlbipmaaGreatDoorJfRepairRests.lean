/- The closed facts that the row repairRests asks for, one by one. Printed by a program (wip/tools/jf.py). -/
import Derived.Test.YtbokoinmlbipmaaGreatDoorJfG
namespace Go.Proofs.YtbokoinmlbipmaaGreatDoor.Jf.repairRests
open Go Go.Proofs Go.Proofs.YtbokoinmlbipmaaGreatDoor
set_option maxRecDepth 100000
open Go.Proofs.YtbokoinmlbipmaaGreatDoor.Jf
theorem k1 : Rows.repairRestsRow.wf (OpenSpec.ofChange Rows.repairRestsSpec) = true := by kernel_rfl
theorem k4 : Tryz.f4.params.all (Tryz.prog.readableRec ·) = true := by kernel_rfl
theorem k5 : namedTie Tryz.prog Rows.repairRestsRow.named Rows.repairRestsSpec.vars = true := by kernel_rfl
theorem k6 : (Rows.repairRestsRow.stops == []) = true := by kernel_rfl
theorem k8 : (Rows.repairRestsRow.knobs == []) = true := by kernel_rfl
theorem k10 : (Rows.repairRestsRow.inPlace == Tryz.prog.inPlace 4) = true := by rw [inPlace_eq cl4]; kernel_rfl
theorem k11 : (Rows.repairRestsRow.unfollowed == Tryz.prog.unfollowed 4) = true := by rw [unf4]; kernel_rfl
theorem k12 : (Rows.repairRestsRow.recurses == Tryz.prog.recurses 4) = true := by rw [recurses_of unf4]; kernel_rfl
theorem k13 : (Rows.repairRestsRow.named == Tryz.prog.varsNamed 4) = true := by rw [vars_eq cl4]; kernel_rfl
theorem k14 : (Rows.repairRestsRow.maps == (Tryz.f4.params.toList ++ Rows.repairRestsSpec.plain.varTypes Tryz.prog).any (Tryz.prog.mapsRec ·)) = true := by kernel_rfl
theorem k15 : (Rows.repairRestsRow.ifaces == (Tryz.f4.params.toList ++ Rows.repairRestsSpec.plain.varTypes Tryz.prog).any (Tryz.prog.ifacesRec ·)) = true := by kernel_rfl
theorem k16 : (Rows.repairRestsRow.mapsOut == Tryz.prog.mapsAmong Tryz.f4.resultTypes.toList) = true := by kernel_rfl
theorem k17 : (Rows.repairRestsRow.loops == (Tryz.f4.params.toList ++ Rows.repairRestsSpec.plain.varTypes Tryz.prog).any (Tryz.prog.loopsFrom ·)) = true := by kernel_rfl
theorem k17b : (Rows.repairRestsRow.wideKeys == (Tryz.f4.params.toList ++ Rows.repairRestsSpec.plain.varTypes Tryz.prog ++ Tryz.f4.resultTypes.toList).any (Tryz.prog.wideKeysFrom ·)) = true := by kernel_rfl
theorem k18 : Rows.repairRestsSpec.vars.all (Tryz.prog.varReadable ·) = true := by kernel_rfl
theorem k19 : Tryz.f4.resultTypes.all (fun t => Tryz.prog.readableRec t && decide (t < Tryz.prog.types.size)) = true := by kernel_rfl
theorem k20 : (Rows.repairRestsRow.ifacesOut == Tryz.f4.resultTypes.toList.any (Tryz.prog.ifacesRec ·)) = true := by kernel_rfl
theorem k21 : (Rows.repairRestsRow.loopsOut == Tryz.f4.resultTypes.toList.any (Tryz.prog.loopsFrom ·)) = true := by kernel_rfl
theorem k22 : (Rows.repairRestsRow.plainKeys == Tryz.prog.plainKeys) = true := by kernel_rfl
theorem k23 : Rows.repairRestsRow.shortTexts.isNone = true := by kernel_rfl
theorem k24b : (Rows.repairRestsRow.lifted == Tryz.prog.liftsFinal) = true := by kernel_rfl
theorem k24c : (Tryz.prog.make == some Rows.repairRestsRow.make) = true := by kernel_rfl
theorem k25 : (Rows.repairRestsRow.kinds == (if Rows.repairRestsRow.domain.isEmpty then [] else Tryz.f4.params.toList.map fun t => match Tryz.prog.underlying t with | some (.int k) => some k | _ => none)) = true := by kernel_rfl
theorem k26 : (Rows.repairRestsRow.pinned == Rows.repairRestsRow.pinnedBy) = true := by kernel_rfl
theorem k27 : (Rows.repairRestsRow.veiled == (Tryz.f4.params.toList ++ Rows.repairRestsSpec.plain.varTypes Tryz.prog ++ Tryz.f4.resultTypes.toList).any (Tryz.prog.veiledRec ·)) = true := by kernel_rfl
theorem k28 : Rows.repairRestsRow.veiledFits Tryz.prog Tryz.f4.params.toList (Tryz.f4.params.toList ++ Rows.repairRestsSpec.plain.varTypes Tryz.prog ++ Tryz.f4.resultTypes.toList) = true := by kernel_rfl
theorem closed : joinedFacts Tryz.prog 4 Tryz.f4 Rows.repairRestsSpec Rows.repairRestsRow = true := by
  unfold joinedFacts
  exact (jn (jn (jn (jn (jn (jn (jn (jn (jn (jn (jn (jn (jn (jn (jn (jn (jn (jn (jn (jn (jn (jn (jn (jn (jn (jn (jn (jn (jn (jn (jn k1 laidOut) k3) k4) k5) k6) k7) k8) k9) k10) k11) k12) k13) k14) k15) k16) k17) k17b) k18) k19) k20) k21) k22) k23) k23b) k24) k24b) k24c) k25) k26) k27) k28)
theorem named : Tryz.prog.funcNamed Rows.repairRestsRow.func = some 4 := by kernel_rfl
theorem noInit : Tryz.prog.inits.idxOf? 4 = none := by kernel_rfl
theorem inst : Tryz.f4.isInstance Tryz.prog Rows.repairRestsRow.origin Rows.repairRestsRow.targs := of_decide_eq_true (by kernel_rfl)
theorem wrap : Tryz.f4.isWrapper Tryz.prog Rows.repairRestsRow.wrapper Rows.repairRestsRow.mainSum := by unfold Func.isWrapper; first | (rw [if_pos (by decide +kernel)]; kernel_rfl) | (rw [if_neg (by decide +kernel)]; exact ⟨rfl, rfl⟩)
theorem goes : false = Rows.repairRestsRow.goesBy Tryz.prog := goesBy_no rfl
theorem wfText : Rows.repairRestsRow.wfByText (OpenSpec.ofChange Rows.repairRestsSpec) = true := by kernel_rfl
theorem standIn : (Tryz.f4.params.toList.all fun u => !Tryz.prog.wantsStandIn u) = true := by kernel_rfl
end Go.Proofs.YtbokoinmlbipmaaGreatDoor.Jf.repairRests
