/- The tied card of RepairRests. -/
import Derived.Test.YtbokoinmlbipmaaGreatDoorCards
import Derived.Test.YtbokoinmlbipmaaGreatDoorTi
import Derived.Test.YtbokoinmlbipmaaGreatDoorLw
import Derived.SevenTiedAt
namespace Go.Proofs.YtbokoinmlbipmaaGreatDoor
open Go Go.Proofs

theorem repairRests_card : Rows.RepairRestsCardSaid :=
  Claim7.holds_tied_plain_at .later [] [.sentinel, .sentinel, .data, .data, .data, .pinned, .data, .data, .data, .data] true (true, "1af072d20b9693068d8095a7d09e503804c1f652f8c42e2285a9f11bf2f6cd12") true
    Lw.repairRests_row (fun _ h => by cases h) Jf.repairRests.wfText (fun _ h => by cases h) Ti.repairRests_row_tie rfl ⟨rfl, rfl⟩ Jf.mainIs rfl
    (fun f fn hf hfn => by
      obtain rfl : f = 4 := Option.some.inj (Jf.repairRests.named.symm.trans hf) |>.symm
      obtain rfl : fn = Tryz.f4 := (Option.some.inj (Tryz.func4.symm.trans hfn)).symm
      exact ⟨Jf.looks, fun j t ht => by
        have hm : t ∈ Tryz.f4.params.toList := by rw [Array.mem_toList_iff]; exact Array.mem_of_getElem? ht
        exact (show Tryz.prog.wantsStandIn t = false by simpa using List.all_eq_true.1 Jf.repairRests.standIn t hm)⟩)
    Jf.repairRests.goes
#print axioms repairRests_card

end Go.Proofs.YtbokoinmlbipmaaGreatDoor
