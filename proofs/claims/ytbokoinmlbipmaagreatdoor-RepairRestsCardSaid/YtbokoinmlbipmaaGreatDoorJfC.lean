/- The closed facts of the program that the rows ask for, one by one. Printed by a program (wip/tools/jf.py). -/
import Derived.Test.YtbokoinmlbipmaaGreatDoorRows
import Derived.JoinedOf
import Derived.KernelRfl
namespace Go.Proofs.YtbokoinmlbipmaaGreatDoor.Jf
open Go Go.Proofs Go.Proofs.YtbokoinmlbipmaaGreatDoor
set_option maxRecDepth 100000
theorem jn {a b : Bool} (h : a = true) (k : b = true) : (a && b) = true := by rw [h, k]; rfl
theorem k3 : mapsRowed Tryz.prog = true := by kernel_rfl
theorem k7 : (Tryz.prog.stops == []) = true := by kernel_rfl
theorem k9 : (Tryz.prog.stopKnobs == []) = true := by kernel_rfl
theorem k23b : Tryz.prog.stopsHeard = true := by kernel_rfl
theorem k24 : Tryz.prog.mayEnter = true := by kernel_rfl
theorem own : ownKnob Tryz.prog.godebug = none := by kernel_rfl
theorem lo0 : (List.range' 0 100).all (rowFine Tryz.prog) = true := by kernel_rfl
theorem lo100 : (List.range' 100 100).all (rowFine Tryz.prog) = true := by kernel_rfl
theorem lo200 : (List.range' 200 100).all (rowFine Tryz.prog) = true := by kernel_rfl
theorem lo300 : (List.range' 300 100).all (rowFine Tryz.prog) = true := by kernel_rfl
theorem lo400 : (List.range' 400 100).all (rowFine Tryz.prog) = true := by kernel_rfl
theorem lo500 : (List.range' 500 100).all (rowFine Tryz.prog) = true := by kernel_rfl
theorem lo600 : (List.range' 600 100).all (rowFine Tryz.prog) = true := by kernel_rfl
theorem lo700 : (List.range' 700 98).all (rowFine Tryz.prog) = true := by kernel_rfl
theorem lsize : Tryz.prog.types.size = 798 := by kernel_rfl
theorem lglob : Tryz.prog.globals.all (fun g => decide (g.type < Tryz.prog.types.size)) = true := by kernel_rfl
theorem lfunc : Tryz.prog.funcs.all (fun f => f.params.all fun t => decide (t < Tryz.prog.types.size)) = true := by kernel_rfl
theorem lrange : List.range 798 = List.range' 0 100 ++ List.range' 100 100 ++ List.range' 200 100 ++ List.range' 300 100 ++ List.range' 400 100 ++ List.range' 500 100 ++ List.range' 600 100 ++ List.range' 700 98 := by decide +kernel
theorem ltypes : (List.range Tryz.prog.types.size).all (rowFine Tryz.prog) = true := by
  rw [lsize, lrange]
  simp only [List.all_append, lo0, lo100, lo200, lo300, lo400, lo500, lo600, lo700, Bool.and_self]
theorem laidOut : laidOutB Tryz.prog = true := by
  unfold laidOutB
  exact jn (jn ltypes lglob) lfunc
end Go.Proofs.YtbokoinmlbipmaaGreatDoor.Jf
