/- A start that fits: the listed variables as they are laid, one costly search of the types' names made once. -/
import Derived.Test.YtbokoinmlbipmaaGreatDoorJfC
import Derived.LaidMore
import Derived.Lay
import Derived.MakeChecks
namespace Go.Proofs.YtbokoinmlbipmaaGreatDoor.Wn
open Go Go.Proofs Go.Proofs.YtbokoinmlbipmaaGreatDoor
set_option maxRecDepth 100000
set_option linter.unusedVariables false

abbrev laid : List (String × DataW Unit) := Rows.repairRestsRow.laid
theorem plain : (laid.all fun x => x.2.handleName?.isNone) = true := by kernel_rfl

theorem fnd0 : (List.range' 0 100).find? (fun u => Tryz.prog.typeName? 3 u == some "*errors.errorString") = none := by kernel_rfl
theorem fnd100 : (List.range' 100 100).find? (fun u => Tryz.prog.typeName? 3 u == some "*errors.errorString") = none := by kernel_rfl
theorem fnd200 : (List.range' 200 100).find? (fun u => Tryz.prog.typeName? 3 u == some "*errors.errorString") = none := by kernel_rfl
theorem fnd300 : (List.range' 300 100).find? (fun u => Tryz.prog.typeName? 3 u == some "*errors.errorString") = none := by kernel_rfl
theorem fnd400 : (List.range' 400 100).find? (fun u => Tryz.prog.typeName? 3 u == some "*errors.errorString") = none := by kernel_rfl
theorem fnd500 : (List.range' 500 100).find? (fun u => Tryz.prog.typeName? 3 u == some "*errors.errorString") = none := by kernel_rfl
theorem fnd600 : (List.range' 600 100).find? (fun u => Tryz.prog.typeName? 3 u == some "*errors.errorString") = none := by kernel_rfl
theorem fnd700 : (List.range' 700 98).find? (fun u => Tryz.prog.typeName? 3 u == some "*errors.errorString") = some 774 := by kernel_rfl
theorem fnd : (List.range Tryz.prog.types.size).find? (fun u => Tryz.prog.typeName? 3 u == some "*errors.errorString") = some 774 := by
  rw [Jf.lsize, Jf.lrange]
  simp only [List.find?_append, fnd0, fnd100, fnd200, fnd300, fnd400, fnd500, fnd600, fnd700, Option.none_or]

noncomputable def sent (n : Nat) (d : DataW Unit) : Option (List Value × List Obj) := match d.lay Tryz.prog 774 n with
  | some x => (match Lay.pack Tryz.prog 774 x.1 with
    | some v => some ([Value.iface 774 v], x.2)
    | none => none)
  | none => none

theorem lay_sent {n : Nat} {d : DataW Unit} {k : Array (String × TypeId)} (h : Tryz.prog.underlying 433 = some (.interface k)) : (DataW.iface "*errors.errorString" d).lay Tryz.prog 433 n = sent n d := by
  rw [DataW.lay, h, fnd]
  rfl

abbrev Laid : Type := Option (List (Nat × List Value) × List Obj)
def consLay (g : Nat) (o : Option (List Value × List Obj)) (k : Nat → Laid) : Laid := match o with
  | some y => (match k y.2.length with
    | some z => some ((g, y.1) :: z.1, y.2 ++ z.2)
    | none => none)
  | none => none

theorem layList_cons {P : Program} {n g t : Nat} {name : String} {d : DataW Unit} {r : List (String × DataW Unit)} (hg : P.globalNamed name = some g) (ht : (P.globals[g]?).map (·.type) = some t) : Lay.layList P n ((name, d) :: r) = consLay g (d.lay P t n) fun m => Lay.layList P (n + m) r := by
  obtain ⟨gl, h1, rfl⟩ := Option.map_eq_some_iff.1 ht
  rw [Lay.layList]
  simp only [hg, h1]
  unfold consLay
  cases d.lay P gl.type n with
  | none => rfl
  | some y =>
    simp only
    cases Lay.layList P (n + y.2.length) r with
    | none => rfl
    | some z => rfl

abbrev strD (bs : List UInt8) : DataW Unit := .ptr (.agg [.lit (.string bs)])
def synB : List UInt8 := [105, 110, 118, 97, 108, 105, 100, 32, 115, 121, 110, 116, 97, 120]
def rngB : List UInt8 := [118, 97, 108, 117, 101, 32, 111, 117, 116, 32, 111, 102, 32, 114, 97, 110, 103, 101]

mutual
def valsOf : DataW Unit → List Value
  | .lit (.int k n) => [.int k n]
  | .lit (.bool b) => [.bool b]
  | .lit (.string bs) => [.string ⟨bs.toArray⟩]
  | .agg ps => valsAll ps
  | _ => []
def valsAll : List (DataW Unit) → List Value
  | [] => []
  | d :: r => valsOf d ++ valsAll r
end

theorem sent_str (n : Nat) (bs : List UInt8) (h : bs.length ≤ maxLen) : sent n (strD bs) = some ([.iface 774 (.pointer (some ⟨n, 0, none⟩))], [.cells #[.string ⟨bs.toArray⟩] 776 (0, 0)]) := by
  have e1 : (strD bs).lay Tryz.prog 774 n = some ([.pointer (some ⟨n, 0, none⟩)], [.cells #[.string ⟨bs.toArray⟩] 776 (0, 0)]) := by
    have e2 : (DataW.lit (.string bs)).lay Tryz.prog 9 (n + 1) = some ([.string ⟨bs.toArray⟩], []) := by
      rw [DataW.lay]
      all_goals first | exact Tryz.underlying9 | exact if_pos h
    have e3 : (DataW.agg [.lit (.string bs)]).lay Tryz.prog 776 (n + 1) = some ([.string ⟨bs.toArray⟩], []) := by
      rw [DataW.lay, Tryz.underlying776]
      simp only [List.map_cons, List.map_nil]
      rw [DataW.layEach, e2]
      simp only [DataW.layEach]
      rfl
    rw [DataW.lay, Tryz.underlying774]
    simp only [e3]
    rfl
  unfold sent
  rw [e1]
  rfl

theorem consLay_some {g : Nat} {y : List Value × List Obj} {k : Nat → Laid} {z : List (Nat × List Value) × List Obj} (h : k y.2.length = some z) : consLay g (some y) k = some ((g, y.1) :: z.1, y.2 ++ z.2) := by
  unfold consLay
  simp only [h]
theorem dl3 (n : Nat) : (Rows.laid_internal_strconv_uint64pow10 : DataW Unit).lay Tryz.prog 747 n = some (valsOf Rows.laid_internal_strconv_uint64pow10, []) := by kernel_rfl
theorem dl7 (n : Nat) : (Rows.laid_math_bits_deBruijn32tab : DataW Unit).lay Tryz.prog 777 n = some (valsOf Rows.laid_math_bits_deBruijn32tab, []) := by kernel_rfl
theorem dl8 (n : Nat) : (Rows.laid_math_bits_deBruijn64tab : DataW Unit).lay Tryz.prog 778 n = some (valsOf Rows.laid_math_bits_deBruijn64tab, []) := by kernel_rfl
theorem dl9 (n : Nat) : (Rows.laid_unicode_utf8_first : DataW Unit).lay Tryz.prog 781 n = some (valsOf Rows.laid_unicode_utf8_first, []) := by kernel_rfl
theorem dl10 (n : Nat) : (Rows.laid_unicode_utf8_acceptRanges : DataW Unit).lay Tryz.prog 784 n = some (valsOf Rows.laid_unicode_utf8_acceptRanges, []) := by kernel_rfl
theorem dl2 (n : Nat) : (Rows.laid_observatory_exec_logic : DataW Unit).lay Tryz.prog 710 n = some (valsOf Rows.laid_observatory_exec_logic, []) := by kernel_rfl
theorem dl0 (n : Nat) : (Rows.laid_observatory_ledger_zero : DataW Unit).lay Tryz.prog 75 n = some (valsOf Rows.laid_observatory_ledger_zero, []) := by kernel_rfl
theorem dl1 (n : Nat) : (Rows.laid_observatory_ledger_one : DataW Unit).lay Tryz.prog 75 n = some (valsOf Rows.laid_observatory_ledger_one, []) := by kernel_rfl
def tailRows : List (Nat × List Value) := [(3, valsOf Rows.laid_internal_strconv_uint64pow10), (7, valsOf Rows.laid_math_bits_deBruijn32tab), (8, valsOf Rows.laid_math_bits_deBruijn64tab), (9, valsOf Rows.laid_unicode_utf8_first), (10, valsOf Rows.laid_unicode_utf8_acceptRanges), (2, valsOf Rows.laid_observatory_exec_logic), (0, valsOf Rows.laid_observatory_ledger_zero), (1, valsOf Rows.laid_observatory_ledger_one)]
theorem tail_lay (n : Nat) : Lay.layList Tryz.prog n [("internal/strconv.uint64pow10", Rows.laid_internal_strconv_uint64pow10), ("math/bits.deBruijn32tab", Rows.laid_math_bits_deBruijn32tab), ("math/bits.deBruijn64tab", Rows.laid_math_bits_deBruijn64tab), ("unicode/utf8.first", Rows.laid_unicode_utf8_first), ("unicode/utf8.acceptRanges", Rows.laid_unicode_utf8_acceptRanges), ("observatory/exec.logic", Rows.laid_observatory_exec_logic), ("observatory/ledger.zero", Rows.laid_observatory_ledger_zero), ("observatory/ledger.one", Rows.laid_observatory_ledger_one)] = some (tailRows, []) := by
  rw [layList_cons (g := 3) (t := 747) (by kernel_rfl) (by kernel_rfl), dl3]
  refine (consLay_some (z := (tailRows.drop 1, [])) ?_).trans rfl
  show Lay.layList _ _ _ = _
  rw [layList_cons (g := 7) (t := 777) (by kernel_rfl) (by kernel_rfl), dl7]
  refine (consLay_some (z := (tailRows.drop 2, [])) ?_).trans rfl
  show Lay.layList _ _ _ = _
  rw [layList_cons (g := 8) (t := 778) (by kernel_rfl) (by kernel_rfl), dl8]
  refine (consLay_some (z := (tailRows.drop 3, [])) ?_).trans rfl
  show Lay.layList _ _ _ = _
  rw [layList_cons (g := 9) (t := 781) (by kernel_rfl) (by kernel_rfl), dl9]
  refine (consLay_some (z := (tailRows.drop 4, [])) ?_).trans rfl
  show Lay.layList _ _ _ = _
  rw [layList_cons (g := 10) (t := 784) (by kernel_rfl) (by kernel_rfl), dl10]
  refine (consLay_some (z := (tailRows.drop 5, [])) ?_).trans rfl
  show Lay.layList _ _ _ = _
  rw [layList_cons (g := 2) (t := 710) (by kernel_rfl) (by kernel_rfl), dl2]
  refine (consLay_some (z := (tailRows.drop 6, [])) ?_).trans rfl
  show Lay.layList _ _ _ = _
  rw [layList_cons (g := 0) (t := 75) (by kernel_rfl) (by kernel_rfl), dl0]
  refine (consLay_some (z := (tailRows.drop 7, [])) ?_).trans rfl
  show Lay.layList _ _ _ = _
  rw [layList_cons (g := 1) (t := 75) (by kernel_rfl) (by kernel_rfl), dl1]
  refine (consLay_some (z := (tailRows.drop 8, [])) ?_).trans rfl
  show Lay.layList _ _ _ = _
  rfl
def rowsW (n : Nat) : List (Nat × List Value) := (5, [.iface 774 (.pointer (some ⟨n, 0, none⟩))]) :: (6, [.iface 774 (.pointer (some ⟨n + 1, 0, none⟩))]) :: tailRows
def objsW : List Obj := [.cells #[.string ⟨synB.toArray⟩] 776 (0, 0), .cells #[.string ⟨rngB.toArray⟩] 776 (0, 0)]
theorem laid_eq : laid = ("strconv.ErrSyntax", .iface "*errors.errorString" (strD synB)) :: ("strconv.ErrRange", .iface "*errors.errorString" (strD rngB)) :: [("internal/strconv.uint64pow10", Rows.laid_internal_strconv_uint64pow10), ("math/bits.deBruijn32tab", Rows.laid_math_bits_deBruijn32tab), ("math/bits.deBruijn64tab", Rows.laid_math_bits_deBruijn64tab), ("unicode/utf8.first", Rows.laid_unicode_utf8_first), ("unicode/utf8.acceptRanges", Rows.laid_unicode_utf8_acceptRanges), ("observatory/exec.logic", Rows.laid_observatory_exec_logic), ("observatory/ledger.zero", Rows.laid_observatory_ledger_zero), ("observatory/ledger.one", Rows.laid_observatory_ledger_one)] := rfl
theorem lay_lit (n : Nat) : Lay.layList Tryz.prog n laid = some (rowsW n, objsW) := by
  rw [laid_eq, layList_cons (g := 5) (t := 433) (by kernel_rfl) (by kernel_rfl), lay_sent Tryz.underlying433, sent_str _ _ (by decide)]
  refine consLay_some (z := ((6, [.iface 774 (.pointer (some ⟨n + 1, 0, none⟩))]) :: tailRows, [.cells #[.string ⟨rngB.toArray⟩] 776 (0, 0)])) ?_
  show Lay.layList Tryz.prog (n + 1) _ = _
  rw [layList_cons (g := 6) (t := 433) (by kernel_rfl) (by kernel_rfl), lay_sent Tryz.underlying433, sent_str _ _ (by decide)]
  refine (consLay_some (z := (tailRows, [])) ?_).trans rfl
  exact tail_lay _

def setLay (w : World) (y : List (Nat × List Value) × List Obj) : World := { w with heap := ⟨Lay.setRows w.heap.toList y.1 ++ y.2⟩ }
theorem layVars_set {P : Program} {w : World} {l : List (String × DataW Unit)} {y : List (Nat × List Value) × List Obj} (h : Lay.layList P w.heap.size l = some y) : w.layVars P l = setLay w y := by
  unfold World.layVars setLay
  rw [h]
noncomputable abbrev hold (os : Os) : World := World.holding Tryz.prog os ⟨#[], #[], []⟩
noncomputable def layF (os : Os) : World := setLay (hold os) (rowsW (hold os).heap.size, objsW)
theorem laidAll_fast (os : Os) : World.laidAll Tryz.prog os laid = layF os := layVars_set (lay_lit _)

noncomputable abbrev WW (os : Os) (args : Array Value) : World := (World.laidAll Tryz.prog os laid).forCall (fun _ _ => 0) ⟨#[], args, []⟩
noncomputable abbrev WF (os : Os) (args : Array Value) : World := (layF os).forCall (fun _ _ => 0) ⟨#[], args, []⟩
theorem ww (os : Os) (args : Array Value) : WW os args = WF os args := by unfold WW; rw [laidAll_fast]

theorem wz1 (os : Os) (args : Array Value) : (WW os args).variablesZipB Tryz.prog = true := by rw [ww]; kernel_rfl
theorem wz2 (os : Os) (args : Array Value) : ((WW os args).heap.toList.drop Tryz.prog.globals.size).take ((begin Tryz.prog (fun _ _ => 0) default).world.heap.size - Tryz.prog.globals.size) = (begin Tryz.prog (fun _ _ => 0) default).world.heap.toList.drop Tryz.prog.globals.size := by rw [ww]; kernel_rfl
theorem wshaped (os : Os) (args : Array Value) : (WW os args).Shaped Tryz.prog := World.shaped_of_ZipB (wz1 os args) (wz2 os args)
theorem layFits_of {P : Program} {w : World} {l : List (String × DataW Unit)} {y : List (Nat × List Value) × List Obj} (h : Lay.layList P w.heap.size l = some y) (h1 : (y.1.map (·.1)).Nodup) (h2 : ∀ r ∈ y.1, Lay.isRow w.heap.toList[r.1]? = true) : w.layFits P l [] = true := by
  unfold World.layFits
  rw [h]
  have h3 : (y.1.all fun r => Lay.isRow w.heap.toList[r.1]? && !([] : List Nat).contains r.1) = true := by
    rw [List.all_eq_true]
    intro r hr
    rw [h2 r hr]; rfl
  simp only [h1, decide_true, h3, List.all_nil, Bool.and_self]
theorem layIfaces_of {P : Program} {w w' : World} {l : List (String × DataW Unit)} {y : List (Nat × List Value) × List Obj} (h : Lay.layList P w.heap.size l = some y) (h1 : (y.1.all fun r => r.2.all (Lay.okV P w')) = true) (h2 : y.2.all (Lay.okO P w') = true) : w.layIfaces P l w' = true := by
  unfold World.layIfaces
  rw [h]
  simp only [h1, h2, Bool.and_self]
def ids : List Nat := [5, 6, 3, 7, 8, 9, 10, 2, 0, 1]
theorem ids_eq (n : Nat) : (rowsW n).map (·.1) = ids := rfl
theorem wn2 (os : Os) : (ids.all fun g => Lay.isRow (hold os).heap.toList[g]?) = true := by kernel_rfl
theorem wl1 (os : Os) : (World.holding Tryz.prog os ⟨#[], #[], []⟩).layFits Tryz.prog laid [] = true :=
  layFits_of (lay_lit _) (by rw [ids_eq]; decide) fun r hr => List.all_eq_true.1 (wn2 os) r.1 (by rw [← ids_eq (hold os).heap.size]; exact List.mem_map.2 ⟨r, hr, rfl⟩)
theorem wi0 (w : World) : (tailRows.all fun r => r.2.all (Lay.okV Tryz.prog w)) = true := by kernel_rfl
theorem wi1 (os : Os) : Lay.okV Tryz.prog (layF os) (.iface 774 (.pointer (some ⟨(hold os).heap.size, 0, none⟩))) = true := by kernel_rfl
theorem wi2 (os : Os) : Lay.okV Tryz.prog (layF os) (.iface 774 (.pointer (some ⟨(hold os).heap.size + 1, 0, none⟩))) = true := by kernel_rfl
theorem wi3 (w : World) : objsW.all (Lay.okO Tryz.prog w) = true := by kernel_rfl
theorem rows_all (n : Nat) (w : World) (h1 : Lay.okV Tryz.prog w (.iface 774 (.pointer (some ⟨n, 0, none⟩))) = true) (h2 : Lay.okV Tryz.prog w (.iface 774 (.pointer (some ⟨n + 1, 0, none⟩))) = true) : ((rowsW n).all fun r => r.2.all (Lay.okV Tryz.prog w)) = true := by
  simp only [rowsW, List.all_cons, List.all_nil, h1, h2, wi0, Bool.and_self]
theorem wl2 (os : Os) : (World.holding Tryz.prog os ⟨#[], #[], []⟩).layIfaces Tryz.prog laid (World.laidAll Tryz.prog os laid) = true := by
  rw [laidAll_fast]
  exact layIfaces_of (lay_lit _) (rows_all _ _ (wi1 os) (wi2 os)) (wi3 _)
theorem wlaid (os : Os) (args : Array Value) : laidMetH Tryz.prog laid (WW os args).memory := by rw [MakeChecks.laidMetH_plain _ _ _ plain]; exact laidMet_laidAll _ (wl1 os) (wl2 os)

end Go.Proofs.YtbokoinmlbipmaaGreatDoor.Wn
