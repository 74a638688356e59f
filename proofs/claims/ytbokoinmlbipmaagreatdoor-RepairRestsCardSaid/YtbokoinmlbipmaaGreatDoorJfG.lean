/- No function starts a goroutine, by small declarations; the card's facts of the program. Printed by a program (wip/tools/jfn.py). -/
import Derived.Test.YtbokoinmlbipmaaGreatDoorJfN
import Derived.SevenTiedAt
namespace Go.Proofs.YtbokoinmlbipmaaGreatDoor.Jf
open Go Go.Proofs Go.Proofs.YtbokoinmlbipmaaGreatDoor
set_option maxRecDepth 100000
theorem gg0 : (List.range' 0 38).all (fun g => !(Tryz.prog.funcs[g]?).any Func.goes) = true := by kernel_rfl
theorem gg38 : (List.range' 38 38).all (fun g => !(Tryz.prog.funcs[g]?).any Func.goes) = true := by kernel_rfl
theorem gg76 : (List.range' 76 38).all (fun g => !(Tryz.prog.funcs[g]?).any Func.goes) = true := by kernel_rfl
theorem gg114 : (List.range' 114 38).all (fun g => !(Tryz.prog.funcs[g]?).any Func.goes) = true := by kernel_rfl
theorem gg152 : (List.range' 152 38).all (fun g => !(Tryz.prog.funcs[g]?).any Func.goes) = true := by kernel_rfl
theorem gg190 : (List.range' 190 38).all (fun g => !(Tryz.prog.funcs[g]?).any Func.goes) = true := by kernel_rfl
theorem gg228 : (List.range' 228 38).all (fun g => !(Tryz.prog.funcs[g]?).any Func.goes) = true := by kernel_rfl
theorem gg266 : (List.range' 266 38).all (fun g => !(Tryz.prog.funcs[g]?).any Func.goes) = true := by kernel_rfl
theorem gg304 : (List.range' 304 38).all (fun g => !(Tryz.prog.funcs[g]?).any Func.goes) = true := by kernel_rfl
theorem gg342 : (List.range' 342 38).all (fun g => !(Tryz.prog.funcs[g]?).any Func.goes) = true := by kernel_rfl
theorem gg380 : (List.range' 380 38).all (fun g => !(Tryz.prog.funcs[g]?).any Func.goes) = true := by kernel_rfl
theorem gg418 : (List.range' 418 38).all (fun g => !(Tryz.prog.funcs[g]?).any Func.goes) = true := by kernel_rfl
theorem gg456 : (List.range' 456 38).all (fun g => !(Tryz.prog.funcs[g]?).any Func.goes) = true := by kernel_rfl
theorem gg494 : (List.range' 494 38).all (fun g => !(Tryz.prog.funcs[g]?).any Func.goes) = true := by kernel_rfl
theorem gg532 : (List.range' 532 38).all (fun g => !(Tryz.prog.funcs[g]?).any Func.goes) = true := by kernel_rfl
theorem gg570 : (List.range' 570 38).all (fun g => !(Tryz.prog.funcs[g]?).any Func.goes) = true := by kernel_rfl
theorem gg608 : (List.range' 608 38).all (fun g => !(Tryz.prog.funcs[g]?).any Func.goes) = true := by kernel_rfl
theorem gg646 : (List.range' 646 38).all (fun g => !(Tryz.prog.funcs[g]?).any Func.goes) = true := by kernel_rfl
theorem gg : (List.range 684).all (fun g => !(Tryz.prog.funcs[g]?).any Func.goes) = true := by
  rw [nrange]
  simp only [List.all_append, gg0, gg38, gg76, gg114, gg152, gg190, gg228, gg266, gg304, gg342, gg380, gg418, gg456, gg494, gg532, gg570, gg608, gg646, Bool.and_self]
theorem noGoes (g : Nat) : (Tryz.prog.funcs[g]?).any Func.goes = false := by
  by_cases h : g < 684
  · have := List.all_eq_true.1 gg g (List.mem_range.2 h)
    simpa using this
  · rw [Array.getElem?_eq_none (by rw [fsize]; omega)]; rfl
theorem noneGoes : Tryz.prog.funcs.any Func.goes = false := by
  rw [Array.any_eq_false]
  intro i h
  have := noGoes i
  rw [Array.getElem?_eq_getElem h, Option.any_some] at this
  rw [this]; decide
theorem goes_no (f : Nat) : Tryz.prog.goes f = false := by
  unfold Program.goes
  rw [noneGoes, Bool.and_false, Bool.or_false, List.any_eq_false]
  intro g _
  rw [noGoes g]; decide
theorem goesBy_no {c : OpenClaim} (h : c.start = .entering) : false = c.goesBy Tryz.prog := by
  unfold OpenClaim.goesBy Program.goesAt Program.goesFrom
  rw [h]
  cases Tryz.prog.funcNamed c.func with
  | none => rfl
  | some f => rw [Option.any_some, goes_no]; rfl
theorem looks : true = Tryz.prog.looks [] := by kernel_rfl
theorem mainIs : Tryz.prog.mainIs = some (true, "1af072d20b9693068d8095a7d09e503804c1f652f8c42e2285a9f11bf2f6cd12".toList) := by kernel_rfl
end Go.Proofs.YtbokoinmlbipmaaGreatDoor.Jf
