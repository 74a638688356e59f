import Derived.Below
import Derived.Deep.Slices
import Derived.Test.YtbokoinmlbipmaaGreatDoorSy3

-- Xa
namespace Go.Proofs.YtbokoinmlbipmaaGreatDoor.Ev
open Go.RowKit (Below)
noncomputable section

theorem pushRo_old : ∀ (rows : List (List AVal)) (H : Heap) (id : Nat), id < H.next → H.next + rows.length ≤ Heap.lim → (pushRo rows H).get id = H.get id
  | [], _, _, _, _ => rfl
  | r :: l, H, id, h, hl => by
    simp only [List.length_cons] at hl
    simp only [pushRo]
    rw [pushRo_old l _ id (by show id < H.next + 1; omega) (by show H.next + 1 + _ ≤ _; omega)]
    exact Heap.get_push_old _ _ (by omega) (by omega) (by omega)

theorem pushRo_at : ∀ (rows : List (List AVal)) (H : Heap) (k : Nat) (row : List AVal), rows[k]? = some row → H.next + rows.length ≤ Heap.lim → (pushRo rows H).get (H.next + k) = some (.ro row)
  | [], _, _, _, h, _ => by simp at h
  | r :: l, H, k, row, h, hl => by
    simp only [List.length_cons] at hl
    simp only [pushRo]
    cases k with
    | zero =>
      simp at h; subst h
      rw [pushRo_old l _ _ (by show H.next + 0 < H.next + 1; omega) (by show H.next + 1 + _ ≤ _; omega)]
      exact Heap.get_push_new _ _
    | succ k =>
      have := pushRo_at l (H.push (.ro r)) k row (by simpa using h) (by show H.next + 1 + _ ≤ _; omega)
      have e : (H.push (.ro r)).next + k = H.next + (k + 1) := by show H.next + 1 + k = _; omega
      rw [e] at this
      exact this

/-- Where the rows lie: the package's variables, then the arguments' slices. -/
def startEmb (N : Nat) (w : World) (os : List (Option Spot)) : Emb := fun id => if id < N then baseEmb N w id else (os[id - N]?).getD none

structure RowAt (w : World) (o : Option Spot) (row : List AVal) : Prop where
  ok : ∀ s, o = some s → ∃ (c : Array Value) (e : TypeId) (fr : Nat × Nat), w.heap[s.block]? = some (.cells c e fr) ∧ ∀ φ, CellsRel φ row c s

theorem start_rel {N : Nat} {needs : List (Nat × List AVal)} {w : World} {os : List (Option Spot)} {rows : List (List AVal)} (hlen : os.length = rows.length) (hl : N + rows.length ≤ Heap.lim) (hN : N ≤ w.heap.size)
    (hn : ∀ q ∈ needs, q.1 < N ∧ Holds w q) (hr : ∀ (k : Nat) o row, os[k]? = some o → rows[k]? = some row → RowAt w o row) : HRel (startEmb N w os) (startHeap N needs rows) w := by
  have hb := base_rel (N := N) (needs := needs) (w := w) (by omega) hN hn
  have hlt : ∀ id s, startEmb N w os id = some s → ¬ id < N → ∃ k, id = N + k ∧ os[k]? = some (some s) ∧ k < rows.length := by
    intro id s e h
    unfold startEmb at e
    rw [if_neg h] at e
    cases ho : os[id - N]? with
    | none => rw [ho] at e; cases e
    | some o =>
      rw [ho] at e
      simp at e; subst e
      refine ⟨id - N, by omega, ho, ?_⟩
      have := (List.getElem?_eq_some_iff.1 ho).1
      omega
  have hdead : ∀ id r, id < Heap.lim → (startHeap N needs rows).get id = some r → r.live = false := by
    intro id r hi h
    rcases startHeap_get (fun q hq => (hn q hq).1) hl hi h with ⟨l, -, rfl⟩ | ⟨k, row, -, -, rfl⟩ <;> rfl
  have hdom : ∀ id s, startEmb N w os id = some s → id < (startHeap N needs rows).next ∧ s.block < w.heap.size := by
    intro id s e
    rw [startHeap_next]
    by_cases h : id < N
    · unfold startEmb at e
      rw [if_pos h] at e
      exact ⟨by omega, (hb.dom id s e).2⟩
    · obtain ⟨k, rfl, ho, hk⟩ := hlt id s e h
      refine ⟨by omega, ?_⟩
      obtain ⟨c, t, fr, hc, -⟩ := (hr k _ _ ho (List.getElem?_eq_getElem hk)).ok s rfl
      exact (Array.getElem?_eq_some_iff.1 hc).1
  refine ⟨by rw [startHeap_next]; exact hl, hdom, ?_, ?_⟩
  · intro id s r e hg hd
    by_cases h : id < N
    · unfold startEmb at e
      rw [if_pos h] at e
      have e2 : (startHeap N needs rows).get id = (setNeeds needs ⟨.nil, N⟩).get id := by
        unfold startHeap
        exact pushRo_old _ _ _ (by rw [setNeeds_next]; exact h) (by rw [setNeeds_next]; exact hl)
      obtain ⟨o, ho, hrel⟩ := hb.rows id s r e (by rw [← e2]; exact hg) hd
      refine ⟨o, ho, hrel.mono ?_⟩
      intro i si ei
      have hi : i < N := by
        have := (hb.dom i si ei).1
        rw [setNeeds_next] at this; exact this
      unfold startEmb
      rw [if_pos hi]; exact ei
    · obtain ⟨k, rfl, ho, hk⟩ := hlt id s e h
      have e2 : (startHeap N needs rows).get (N + k) = some (.ro rows[k]) := by
        unfold startHeap
        have := pushRo_at rows (setNeeds needs ⟨.nil, N⟩) k rows[k] (List.getElem?_eq_getElem hk) (by rw [setNeeds_next]; exact hl)
        rw [setNeeds_next] at this; exact this
      rw [e2] at hg
      cases hg
      obtain ⟨c, t, fr, hc, hcr⟩ := (hr k _ _ ho (List.getElem?_eq_getElem hk)).ok s rfl
      exact ⟨_, hc, .ro (hcr _)⟩
  · intro i j si sj ri rj ei ej hne hb hi hj hl'
    have := hdead i ri (by have := (hdom i si ei).1; rw [startHeap_next] at this; omega) hi
    rw [this] at hl'; cases hl'

theorem start_glob {N : Nat} {w : World} {os : List (Option Spot)} {globs : List Nat} (h : ∀ g ∈ globs, g < N) : Glob (startEmb N w os) globs := fun g hg => ⟨sizeAt w g, by unfold startEmb baseEmb; rw [if_pos (h g hg), if_pos (h g hg)]⟩

/-- What a run of the evaluator at a call's start says of the call. -/
theorem start_calls {P : Program} {globs : List Nat} {C : Caller} (hC : COK P globs C) {N : Nat} {needs : List (Nat × List AVal)} {w : World} {os : List (Option Spot)} {rows : List (List AVal)} {f : FuncId} {args : List AVal} {xs : List Value}
    (hent : enters P f = true) (hglob : ∀ g ∈ globs, g < N) (hlen : os.length = rows.length) (hl : N + rows.length ≤ Heap.lim) (hN : N ≤ w.heap.size) (hn : ∀ q ∈ needs, q.1 < N ∧ Holds w q)
    (hr : ∀ (k : Nat) o row, os[k]? = some o → rows[k]? = some row → RowAt w o row) (hv : VRels (startEmb N w os) args xs) {Q : AVal × Heap → Prop} (hq : ∀ q, Q q → q.1 = .bool true)
    (hrun : Wp (C.func f args (startHeap N needs rows)) Q) : Calls P f xs.toArray w fun e w' => e = .returned (.bool true) ∧ Below w.heap.size w w' := by
  obtain ⟨q, he, hQ⟩ := hrun
  have hh := start_rel hlen hl hN hn hr
  have h := hC.func (v := q.1) (H' := q.2) he hh hv (start_glob hglob)
  unfold NextOK at h
  rw [enters_run hent] at h
  have h : CallsIn Fence.wide 0 P f xs.toArray w (RetPost (startEmb N w os) (startHeap N needs rows) w q.1 q.2) := h
  rw [callsIn_wide] at h
  refine h.mono ?_
  intro e w' hp
  cases e with
  | returned x =>
    obtain ⟨φ', hv, hh', hx⟩ := hp
    rw [hq q hQ] at hv
    cases hv
    refine ⟨rfl, hx.os, hx.tape, hx.output, hx.size, fun b hb => hx.keep b hb ?_⟩
    rintro ⟨id, s, r, es, -, hg, hlive⟩
    have hil := (hh.dom id s es).1
    rw [startHeap_next] at hil
    rcases startHeap_get (fun q hq => (hn q hq).1) hl (by omega) hg with ⟨l, -, rfl⟩ | ⟨k, row, -, -, rfl⟩ <;> cases hlive
  | panicked c => exact hp.elim
  | outgrown => exact hp.elim

end
end Go.Proofs.YtbokoinmlbipmaaGreatDoor.Ev

-- Xb
namespace Go.Proofs.YtbokoinmlbipmaaGreatDoor.Ev
open El
noncomputable section

theorem cell_slice {P : Program} {w : World} {b : Nat} {t e : TypeId} {v : Value} (ht : P.underlying t = some (.slice e)) (h : Cell.okWide P w .any b t v) :
    v = .slice none 0 0 ∨ ∃ (a : Addr) (len cap : Nat) (c : Array Value) (y : TypeId) (fr : Nat × Nat), v = .slice (some a) len cap ∧ len ≤ cap ∧ a.spot = none ∧ w.heap[a.block]? = some (.cells c y fr) := by
  have h : Cell.ok P w .any b t v := by
    unfold Cell.okWide at h
    rw [ht] at h
    exact h
  unfold Cell.ok at h
  rw [ht] at h
  cases v with
  | slice a len cap =>
    cases a with
    | none =>
      left
      cases len with
      | zero => cases cap with
        | zero => rfl
        | succ n => exact h.elim
      | succ n => exact h.elim
    | some a =>
      right
      obtain ⟨h1, -, -, h2, row, cells, h3, -⟩ := h
      unfold World.shape? at h3
      split at h3
      · rename_i c y fr hc
        exact ⟨a, len, cap, c, y, fr, rfl, h1, h2, hc⟩
      · cases h3
  | _ => exact h.elim

theorem cell_int {P : Program} {w : World} {b : Nat} {t : TypeId} {k : IntKind} {v : Value} (ht : P.underlying t = some (.int k)) (h : Cell.okWide P w .any b t v) : ∃ n, v = .int k n := by
  have h : Cell.ok P w .any b t v := by
    unfold Cell.okWide at h
    rw [ht] at h
    exact h
  unfold Cell.ok at h
  rw [ht] at h
  cases v with
  | int k' n => obtain ⟨rfl, -⟩ := h; exact ⟨n, rfl⟩
  | _ => exact h.elim

theorem cell_string {P : Program} {w : World} {b : Nat} {t : TypeId} {v : Value} (ht : P.underlying t = some .string) (h : Cell.okWide P w .any b t v) : ∃ s, v = .string s := by
  have h : Cell.ok P w .any b t v := by
    unfold Cell.okWide at h
    rw [ht] at h
    exact h
  unfold Cell.ok at h
  rw [ht] at h
  cases v with
  | string s => exact ⟨s, rfl⟩
  | _ => exact h.elim

/-- A string, as the evaluator holds it. -/
def strOf (s : ByteArray) : AVal := .str s.size (packL s.data.toList)
theorem strOf_rel (φ : Emb) (s : ByteArray) : VRel φ (strOf s) (.string s) := by
  have := VRel.str (φ := φ) s.size (packL s.data.toList)
  rw [unpack_pack] at this
  exact this

/-- A slice of old memory, as the evaluator holds it. -/
structure SlArg {α : Type} [El α] (w : World) (X : Value) (o : Option Spot) (row : List AVal) (mk : Nat → AVal) (xs : List α) : Prop where
  at_ : RowAt w o row
  rel : ∀ (φ : Emb) (id : Nat), φ id = o → VRel φ (mk id) X
  is : ∀ (H : Heap) (id : Nat), id < H.next → H.get id = some (.ro row) → Is H (mk id) xs

/-- An element of this type reads as one of these. -/
def Dec {H : Type} (enc : TypeId × Value → H) (P : Program) (w : World) (e : TypeId) (α : Type) [El α] : Prop := ∀ n cs d, DataW.trod enc P w 0 (fun _ => true) true n e cs = some d → ∃ a : α, ∀ φ, All2 (VRel φ) (ce a) cs

theorem RowAt.none {w : World} {row : List AVal} : RowAt w none row := ⟨fun _ h => by cases h⟩

theorem slice_any {P : Program} {w : World} {b : Nat} {t e : TypeId} {v : Value} (ht : P.underlying t = some (.slice e)) (h : Cell.okWide P w .any b t v) :
    ∃ (o : Option Spot) (mk : Nat → AVal), RowAt w o [] ∧ ∀ (φ : Emb) (id : Nat), φ id = o → VRel φ (mk id) v := by
  rcases cell_slice ht h with rfl | ⟨a, len, cap, c, y, fr, rfl, h1, h2, h3⟩
  · exact ⟨none, fun _ => .nils, .none, fun _ _ _ => .nils⟩
  · refine ⟨some ⟨a.block, 0, c.size⟩, fun id => .slice id a.off len cap, ⟨fun s hs => ?_⟩, fun φ id hid => ?_⟩
    · cases hs
      exact ⟨c, y, fr, h3, fun φ => ⟨rfl, by simp, fun i v hv => by simp at hv⟩⟩
    · have := VRel.slice (off := a.off) (len := len) (cap := cap) hid
      obtain ⟨ab, ao, asp⟩ := a
      cases h2
      simpa using this

theorem flat_get {α : Type} [El α] {xs : List α} {i : Nat} {v : AVal} (h : (flat xs)[i]? = some v) : ∃ (j r : Nat) (hj : j < xs.length), i = j * sz α + r ∧ r < sz α ∧ (ce xs[j])[r]? = some v := by
  have hi := (List.getElem?_eq_some_iff.1 h).1
  rw [flat_len] at hi
  have hp := El.pos (α := α)
  have hj : i / sz α < xs.length := (Nat.div_lt_iff_lt_mul hp).2 hi
  refine ⟨i / sz α, i % sz α, hj, ?_, Nat.mod_lt _ hp, ?_⟩
  · have := Nat.div_add_mod i (sz α)
    rw [Nat.mul_comm]; omega
  · rw [← flat_at xs _ hj, List.getElem?_take, if_pos (Nat.mod_lt _ hp), List.getElem?_drop]
    have := Nat.div_add_mod i (sz α)
    rw [Nat.mul_comm] at this
    rw [this]; exact h

theorem slice_arg {H : Type} {enc : TypeId × Value → H} {α : Type} [El α] [Inhabited α] {P : Program} {w : World} {b fuel : Nat} {t e : TypeId} {v : Value} {x : DataW H × List MemPlace} (ht : P.underlying t = some (.slice e)) (hs : P.cellsOf e = sz α) (hd : Dec enc P w e α)
    (hok : Cell.okWide P w .any b t v) (h : DataW.trod enc P w 0 (fun _ => true) true fuel t [v] = some x) : ∃ (o : Option Spot) (row : List AVal) (mk : Nat → AVal) (xs : List α), SlArg w v o row mk xs := by
  rcases cell_slice ht hok with rfl | ⟨a, len, cap, c, y, fr, rfl, h1, h2, h3⟩
  · exact ⟨none, [], fun _ => .nils, [], .none, fun _ _ _ => .nils, fun H _ _ _ => Is.nil H⟩
  rcases Deep.open_slice ht h with ⟨h0, -⟩ | ⟨a', len', cap', m, n, D, Pl, h0, -, -, -, hm, -, hx⟩
  · cases h0
  cases h0
  simp only [if_true] at hm
  subst hm
  rw [hs] at hx
  obtain ⟨ab, ao, asp⟩ := a
  cases h2
  have hcell : ∀ i, i < m → ∃ a : α, ∀ φ, ∀ r u, (ce a)[r]? = some u → ∃ z, c[ao + i * sz α + r]? = some z ∧ VRel φ u z := by
    intro i hi
    obtain ⟨cs', hc, hr⟩ := hx i hi
    obtain ⟨q, hq⟩ := hd n cs' _ hr
    refine ⟨q, fun φ r u hu => ?_⟩
    obtain ⟨z, hz, hv⟩ := (hq φ).get r u hu
    refine ⟨z, ?_, hv⟩
    obtain ⟨-, hl, hg⟩ := World.cells?_some hc
    have hr' : r < sz α := by
      have := (List.getElem?_eq_some_iff.1 hu).1
      rw [El.len] at this; exact this
    have hgr := hg r hr'
    rw [hz] at hgr
    rw [Deep.add_add] at hgr
    unfold World.cell? Addr.add at hgr
    split at hgr
    · rename_i c' e' fr' hc'
      split at hc'
      · rename_i h00
        have : c' = c := by
          have := hc'.symm.trans h3
          injection this with this; injection this
        subst this
        simp only [h00, if_true] at hgr
        have e0 : ao + i * sz α + r = ao := by omega
        rw [e0]
        simpa using hgr
      · rename_i h00
        have : c' = c := by
          have := hc'.symm.trans h3
          injection this with this; injection this
        subst this
        rw [if_neg h00] at hgr
        have e0 : ao + i * sz α + r = ao + (i * sz α + r) := by omega
        rw [e0]
        simpa using hgr
    · cases hgr
  obtain ⟨f, hf⟩ := Deep.choose_lt (α := α) hcell
  have hp := El.pos (α := α)
  by_cases hc0 : m = 0
  · subst hc0
    obtain rfl : len = 0 := by omega
    refine ⟨some ⟨ab, 0, c.size⟩, [], fun id => .sliceO id 0 0 1, [], ⟨fun s hs => ?_⟩, fun φ id hid => ?_, fun H id hid hg => ⟨rfl, ?_, fun i hi => ?_⟩⟩
    · cases hs
      exact ⟨c, y, fr, h3, fun φ => ⟨rfl, by simp, fun i v hv => by simp at hv⟩⟩
    · exact .sliceO hid (Nat.le_refl _) (by simp) (fun h => absurd rfl h)
    · rw [slCells_sliceO]
      refine slCells_slice.2 ⟨[], ?_, by simp, by simp [flat]⟩
      rw [cells_get, hg]; rfl
    · cases hi; exact hid
  · have hroom : ao + m * sz α ≤ c.size := by
      have hlast := hf (m - 1) (by omega) (fun _ => none) (sz α - 1)
      have hlen := El.len (f (m - 1))
      obtain ⟨z, hz, -⟩ := hlast _ (List.getElem?_eq_getElem (by omega))
      have := (Array.getElem?_eq_some_iff.1 hz).1
      have e1 : m * sz α = (m - 1) * sz α + sz α := by
        have : m = (m - 1) + 1 := by omega
        conv => lhs; rw [this, Nat.add_mul, Nat.one_mul]
      omega
    have hle : len * sz α ≤ m * sz α := Nat.mul_le_mul_right _ h1
    have hflen : (flat ((List.range len).map f)).length = len * sz α := by rw [flat_len]; simp
    refine ⟨some ⟨ab, ao, c.size⟩, flat ((List.range len).map f), fun id => .slice id 0 len m, (List.range len).map f, ⟨fun s hs => ?_⟩, fun φ id hid => ?_, fun H id hid hg => ⟨rfl, ?_, fun i hi => ?_⟩⟩
    · cases hs
      refine ⟨c, y, fr, h3, fun φ => ⟨rfl, by rw [hflen]; show ao + _ ≤ c.size; omega, fun i v hv => ?_⟩⟩
      obtain ⟨j, r, hj, rfl, hr, hv⟩ := flat_get hv
      simp only [List.length_map, List.length_range] at hj
      rw [List.getElem_map, List.getElem_range] at hv
      obtain ⟨z, hz, hvr⟩ := hf j (by omega) φ r v hv
      exact ⟨z, by rw [← Nat.add_assoc]; exact hz, hvr⟩
    · have := VRel.slice (off := 0) (len := len) (cap := m) hid
      simpa using this
    · refine slCells_slice.2 ⟨flat ((List.range len).map f), ?_, by rw [hflen]; omega, ?_⟩
      · rw [cells_get, hg]; rfl
      · rw [List.drop_zero, ← hflen, List.take_length]; simp
    · cases hi; exact hid

/-- A struct of int fields, in their order. -/
theorem trod_ints {H : Type} {enc : TypeId × Value → H} {P : Program} {w : World} {base fuel : Nat} {sp : Nat → Bool} {held : Bool} {t ti : TypeId} {k : IntKind} {fs : Array Field} {cs : List Value} {x : DataW H × List MemPlace} (ht : P.underlying t = some (.struct fs)) (hi : P.underlying ti = some (.int k)) (hci : P.cellsOf ti = 1)
    (hct : P.cellsOf t = fs.size) (hfs : ∀ (i : Nat) (f : Field), fs[i]? = some f → f.type = ti ∧ f.offset = i) (h : DataW.trod enc P w base sp held fuel t cs = some x) : ∃ zs : List Int, zs.length = fs.size ∧ cs = zs.map (Value.int k) := by
  obtain ⟨xs, n, -, -, hl, hxl, hel⟩ := DataW.trod_struct ht h
  rw [hct] at hl
  have hz : ∀ i, i < fs.size → ∃ z : Int, cs[i]? = some (.int k z) := by
    intro i hlt
    have hf : fs[i]? = some fs[i] := Array.getElem?_eq_getElem hlt
    have he := hel i _ hf
    obtain ⟨e1, e2⟩ := hfs i _ hf
    rw [e1, e2, hci, List.getElem?_eq_getElem (by omega)] at he
    obtain ⟨z, hz, -⟩ := DataW.trod_int hi he
    refine ⟨z, ?_⟩
    have := congrArg (·[0]?) hz
    simpa [List.getElem?_take, List.getElem?_drop] using this
  obtain ⟨g, hg⟩ := Deep.choose_lt (α := Int) hz
  refine ⟨(List.range fs.size).map g, by simp, ?_⟩
  apply List.ext_getElem?
  intro i
  by_cases hlt : i < fs.size
  · rw [hg i hlt]; simp [hlt]
  · rw [List.getElem?_eq_none (by omega), List.getElem?_eq_none (by simp; omega)]

end
end Go.Proofs.YtbokoinmlbipmaaGreatDoor.Ev

-- Xc
namespace Go.Proofs.YtbokoinmlbipmaaGreatDoor.Ev.Sy
open Go Go.Proofs.YtbokoinmlbipmaaGreatDoor.Ev Go.Proofs
open Go.RowKit (Below)
noncomputable section
set_option linter.unusedVariables false
set_option maxRecDepth 100000

theorem T6_ok {needs : List (Nat × List AVal)} {C : Caller} (hC : COK P globs C) (hok : chkNeedsOK 11 needs = true) (hrun : isTrue (C.func 6 [] (setNeeds needs ⟨.nil, 11⟩)) = true) : TableOK P globs 11 (T6 needs) := by
  refine .cons (.cons (chkEntry_ok hC (ids := []) ?_) rfl .nil) .nil
  unfold chkEntry
  show (Nat.ble 11 Heap.lim && (chkNeedsOK 11 needs && chkOut 11 [] (.bool true) [] (C.func 6 [] (setNeeds needs ⟨.nil, 11⟩)))) = true
  rw [hok]
  unfold isTrue at hrun
  split at hrun
  · rename_i q hq
    rw [hq]
    have := yesV_true hrun
    obtain ⟨q1, q2⟩ := q
    subst this
    rfl
  · cases hrun

/-! ### Elements -/

theorem cells3 : P.cellsOf 3 = 1 := by kernel_rfl

theorem dec_of {H : Type} {enc : TypeId × Value → H} {w : World} {t : TypeId} {fs : Array Field} {α : Type} [El α] (ht : P.underlying t = some (.struct fs)) (hct : P.cellsOf t = fs.size) (hfs : ∀ (i : Nat) (f : Field), fs[i]? = some f → f.type = 3 ∧ f.offset = i)
    (hz : ∀ zs : List Int, zs.length = fs.size → ∃ a : α, El.ce a = zs.map i64) : Dec enc P w t α := by
  intro n cs d h
  obtain ⟨zs, hl, rfl⟩ := trod_ints ht Tryz.underlying3 cells3 hct hfs h
  obtain ⟨a, ha⟩ := hz zs hl
  refine ⟨a, fun φ => ?_⟩
  rw [ha]
  clear ha hl h
  induction zs with
  | nil => exact .nil
  | cons z l ih => exact .cons (.int .i64 z) ih

theorem fs_of {fs : Array Field} (h : (fs.toList.zipIdx.all fun q => q.1.type == 3 && q.1.offset == q.2) = true) : ∀ (i : Nat) (f : Field), fs[i]? = some f → f.type = 3 ∧ f.offset = i := by
  intro i f hf
  rw [← Array.getElem?_toList] at hf
  have hm : (f, i) ∈ fs.toList.zipIdx := by
    rw [List.mem_zipIdx_iff_getElem?]; exact hf
  have := List.all_eq_true.1 h _ hm
  simpa using this

variable {H : Type} {enc : TypeId × Value → H} {w : World}

theorem dec_spl : Dec enc P w 47 Spl := dec_of Tryz.underlying47 (by kernel_rfl) (fs_of (by decide +kernel)) fun zs h => by
  match zs, h with
  | [a, b, c, d, e], _ => exact ⟨⟨a, b, c, d, e⟩, rfl⟩
theorem dec_ovr : Dec enc P w 49 Ovr := dec_of Tryz.underlying49 (by kernel_rfl) (fs_of (by decide +kernel)) fun zs h => by
  match zs, h with
  | [a, b, c, d, e, f, g], _ => exact ⟨⟨a, b, c, d, e, f, g⟩, rfl⟩
theorem dec_dfc : Dec enc P w 42 Dfc := dec_of Tryz.underlying42 (by kernel_rfl) (fs_of (by decide +kernel)) fun zs h => by
  match zs, h with
  | [a, b, c, d, e], _ => exact ⟨⟨a, b, c, d, e⟩, rfl⟩
theorem dec_pay : Dec enc P w 45 Pay := dec_of Tryz.underlying45 (by kernel_rfl) (fs_of (by decide +kernel)) fun zs h => by
  match zs, h with
  | [a, b, c, d], _ => exact ⟨⟨a, b, c, d⟩, rfl⟩
theorem dec_frn : Dec enc P w 86 Frn := by
  intro n cs d h
  obtain ⟨xs, m, -, -, hl, hxl, hel⟩ := DataW.trod_struct Tryz.underlying86 h
  have c86 : P.cellsOf 86 = 6 := by kernel_rfl
  have c84 : P.cellsOf 84 = 5 := by kernel_rfl
  have h2 : xs.length = 2 := hxl
  have e0 : DataW.trod enc P w 0 (fun _ => true) true m 84 ((cs.drop 0).take (P.cellsOf 84)) = some xs[0] := (hel 0 _ rfl).trans (List.getElem?_eq_getElem (by omega))
  have e1 : DataW.trod enc P w 0 (fun _ => true) true m 3 ((cs.drop 5).take (P.cellsOf 3)) = some xs[1] := (hel 1 _ rfl).trans (List.getElem?_eq_getElem (by omega))
  rw [c86] at hl
  obtain ⟨zs, hzl, hzs⟩ := trod_ints Tryz.underlying84 Tryz.underlying3 cells3 (by kernel_rfl) (fs_of (by decide +kernel)) e0
  obtain ⟨z, hz, -⟩ := DataW.trod_int Tryz.underlying3 e1
  rw [c84] at hzs
  rw [cells3] at hz
  obtain ⟨x0, x1, x2, x3, x4, x5, rfl⟩ : ∃ x0 x1 x2 x3 x4 x5, cs = [x0, x1, x2, x3, x4, x5] := by
    match cs, hl with
    | [x0, x1, x2, x3, x4, x5], _ => exact ⟨_, _, _, _, _, _, rfl⟩
  obtain ⟨z0, z1, z2, z3, z4, rfl⟩ : ∃ z0 z1 z2 z3 z4, zs = [z0, z1, z2, z3, z4] := by
    match zs, hzl with
    | [z0, z1, z2, z3, z4], _ => exact ⟨_, _, _, _, _, rfl⟩
  have hzs : [x0, x1, x2, x3, x4] = [Value.int .i64 z0, .int .i64 z1, .int .i64 z2, .int .i64 z3, .int .i64 z4] := hzs
  have hz5 : [x5] = [Value.int .i64 z] := hz
  clear hz
  simp only [List.cons.injEq, and_true] at hzs hz5
  obtain ⟨rfl, rfl, rfl, rfl, rfl⟩ := hzs
  subst hz5
  exact ⟨⟨z0, z1, z2, z3, z4, z⟩, fun φ => .cons (.int _ _) (.cons (.int _ _) (.cons (.int _ _) (.cons (.int _ _) (.cons (.int _ _) (.cons (.int _ _) .nil)))))⟩

instance : Inhabited Spl := ⟨⟨0, 0, 0, 0, 0⟩⟩
instance : Inhabited Ovr := ⟨⟨0, 0, 0, 0, 0, 0, 0⟩⟩
instance : Inhabited Dfc := ⟨⟨0, 0, 0, 0, 0⟩⟩
instance : Inhabited Pay := ⟨⟨0, 0, 0, 0⟩⟩
instance : Inhabited Frn := ⟨⟨0, 0, 0, 0, 0, 0⟩⟩

/-! ### The arguments -/

/-- A struct's value, cell by cell. -/
theorem struct_cells {b : Nat} {t : TypeId} {fs : Array Field} {ts : List TypeId} {v : Value} (ht : P.underlying t = some (.struct fs)) (hc : P.cellTypes P.depth t = some ts) (hn : P.cellsOf t = ts.length) (h : Value.okWide P w .any b t v) :
    ∃ cs : List Value, v = .agg cs.toArray ∧ cs.length = ts.length ∧ ∀ (i : Nat) x u, cs[i]? = some x → ts[i]? = some u → Cell.okWide P w .any b u x := by
  unfold Value.okWide at h
  rw [ht] at h
  obtain ⟨cs, rfl, hl, ts', hc', -, hel⟩ := h
  obtain rfl := Option.some.inj (hc.symm.trans hc')
  rw [hn] at hl
  refine ⟨cs.toList, rfl, by rw [Array.length_toList]; exact hl, fun i x u hx hu => ?_⟩
  rw [Array.getElem?_toList] at hx
  obtain ⟨u', hu', hok⟩ := hel i x hx
  have hi := (List.getElem?_eq_some_iff.1 hu).1
  rw [Nat.mod_eq_of_lt hi, hu] at hu'
  cases hu'
  exact hok

/-- The script, as the evaluator holds it. -/
structure ScrArg (w : World) (v : Value) (c : Scr) (o1 o2 o3 o4 o5 : Option Spot) (r1 r2 r3 r4 r5 : List AVal) (m1 m2 m3 m4 m5 : Nat → AVal) : Prop where
  s1 : ∃ X1 X2 X3 X4 X5, v = .agg #[.int .i64 c.f, .int .i64 c.u, X1, X2, X3, X4, X5] ∧ SlArg w X1 o1 r1 m1 c.sp ∧ SlArg w X2 o2 r2 m2 c.ov ∧ SlArg w X3 o3 r3 m3 c.df ∧ SlArg w X4 o4 r4 m4 c.py ∧ SlArg w X5 o5 r5 m5 c.fr

theorem script_arg {b : Nat} {v : Value} {x : DataW H × List MemPlace} (hok : Value.okWide P w .any b 28 v) (h : ∃ fuel, DataW.trod enc P w 0 (fun _ => true) true fuel 28 v.cells.toList = some x) :
    ∃ c o1 o2 o3 o4 o5 r1 r2 r3 r4 r5 m1 m2 m3 m4 m5, ScrArg w v c o1 o2 o3 o4 o5 r1 r2 r3 r4 r5 m1 m2 m3 m4 m5 := by
  obtain ⟨cs, rfl, hl, hel⟩ := struct_cells (ts := [3, 3, 22, 23, 24, 25, 26]) Tryz.underlying28 (by kernel_rfl) (by kernel_rfl) hok
  obtain ⟨x0, x1, x2, x3, x4, x5, x6, rfl⟩ : ∃ x0 x1 x2 x3 x4 x5 x6, cs = [x0, x1, x2, x3, x4, x5, x6] := by
    match cs, hl with
    | [x0, x1, x2, x3, x4, x5, x6], _ => exact ⟨_, _, _, _, _, _, _, rfl⟩
  obtain ⟨f, rfl⟩ := cell_int Tryz.underlying3 (hel 0 _ 3 rfl rfl)
  obtain ⟨u, rfl⟩ := cell_int Tryz.underlying3 (hel 1 _ 3 rfl rfl)
  obtain ⟨fuel, h⟩ := h
  obtain ⟨xs, n, -, -, -, hxl, hf⟩ := DataW.trod_struct Tryz.underlying28 h
  have hxl : xs.length = 7 := hxl
  have c22 : P.cellsOf 22 = 1 := by kernel_rfl
  have c23 : P.cellsOf 23 = 1 := by kernel_rfl
  have c24 : P.cellsOf 24 = 1 := by kernel_rfl
  have c25 : P.cellsOf 25 = 1 := by kernel_rfl
  have c26 : P.cellsOf 26 = 1 := by kernel_rfl
  have t2 : DataW.trod enc P w 0 (fun _ => true) true n 22 (List.take (P.cellsOf 22) [x2, x3, x4, x5, x6]) = some xs[2] := (hf 2 _ rfl).trans (List.getElem?_eq_getElem (by omega))
  have t3 : DataW.trod enc P w 0 (fun _ => true) true n 23 (List.take (P.cellsOf 23) [x3, x4, x5, x6]) = some xs[3] := (hf 3 _ rfl).trans (List.getElem?_eq_getElem (by omega))
  have t4 : DataW.trod enc P w 0 (fun _ => true) true n 24 (List.take (P.cellsOf 24) [x4, x5, x6]) = some xs[4] := (hf 4 _ rfl).trans (List.getElem?_eq_getElem (by omega))
  have t5 : DataW.trod enc P w 0 (fun _ => true) true n 25 (List.take (P.cellsOf 25) [x5, x6]) = some xs[5] := (hf 5 _ rfl).trans (List.getElem?_eq_getElem (by omega))
  have t6 : DataW.trod enc P w 0 (fun _ => true) true n 26 (List.take (P.cellsOf 26) [x6]) = some xs[6] := (hf 6 _ rfl).trans (List.getElem?_eq_getElem (by omega))
  rw [c22] at t2
  rw [c23] at t3
  rw [c24] at t4
  rw [c25] at t5
  rw [c26] at t6
  obtain ⟨o1, r1, m1, y1, a1⟩ := slice_arg (α := Spl) Tryz.underlying22 (by kernel_rfl) dec_spl (hel 2 _ 22 rfl rfl) t2
  obtain ⟨o2, r2, m2, y2, a2⟩ := slice_arg (α := Ovr) Tryz.underlying23 (by kernel_rfl) dec_ovr (hel 3 _ 23 rfl rfl) t3
  obtain ⟨o3, r3, m3, y3, a3⟩ := slice_arg (α := Dfc) Tryz.underlying24 (by kernel_rfl) dec_dfc (hel 4 _ 24 rfl rfl) t4
  obtain ⟨o4, r4, m4, y4, a4⟩ := slice_arg (α := Pay) Tryz.underlying25 (by kernel_rfl) dec_pay (hel 5 _ 25 rfl rfl) t5
  obtain ⟨o5, r5, m5, y5, a5⟩ := slice_arg (α := Frn) Tryz.underlying26 (by kernel_rfl) dec_frn (hel 6 _ 26 rfl rfl) t6
  exact ⟨⟨f, u, y1, y2, y3, y4, y5⟩, o1, o2, o3, o4, o5, r1, r2, r3, r4, r5, m1, m2, m3, m4, m5, ⟨_, _, _, _, _, rfl, a1, a2, a3, a4, a5⟩⟩

/-- The release, as the evaluator holds it. -/
theorem rel_arg {b : Nat} {v : Value} (hok : Value.okWide P w .any b 33 v) :
    ∃ (s1 s2 : ByteArray) (q a k : Int) (X : Value) (o : Option Spot) (mk : Nat → AVal), v = .agg #[.string s1, .string s2, .int .i64 q, X, .int .i64 a, .int .i64 k] ∧ RowAt w o [] ∧ ∀ (φ : Emb) (id : Nat), φ id = o → VRel φ (mk id) X := by
  obtain ⟨cs, rfl, hl, hel⟩ := struct_cells (ts := [9, 9, 3, 29, 3, 3]) Tryz.underlying33 (by kernel_rfl) (by kernel_rfl) hok
  obtain ⟨x0, x1, x2, x3, x4, x5, rfl⟩ : ∃ x0 x1 x2 x3 x4 x5, cs = [x0, x1, x2, x3, x4, x5] := by
    match cs, hl with
    | [x0, x1, x2, x3, x4, x5], _ => exact ⟨_, _, _, _, _, _, rfl⟩
  obtain ⟨s1, rfl⟩ := cell_string Tryz.underlying9 (hel 0 _ 9 rfl rfl)
  obtain ⟨s2, rfl⟩ := cell_string Tryz.underlying9 (hel 1 _ 9 rfl rfl)
  obtain ⟨q, rfl⟩ := cell_int Tryz.underlying3 (hel 2 _ 3 rfl rfl)
  obtain ⟨a, rfl⟩ := cell_int Tryz.underlying3 (hel 4 _ 3 rfl rfl)
  obtain ⟨k, rfl⟩ := cell_int Tryz.underlying3 (hel 5 _ 3 rfl rfl)
  obtain ⟨o, mk, h1, h2⟩ := slice_any Tryz.underlying29 (hel 3 _ 29 rfl rfl)
  exact ⟨s1, s2, q, a, k, _, o, mk, rfl, h1, h2⟩

/-! ### The call -/

theorem start_get {needs : List (Nat × List AVal)} {rows : List (List AVal)} {N : Nat} (hl : N + rows.length ≤ Heap.lim) (k : Nat) {row : List AVal} (h : rows[k]? = some row) : (startHeap N needs rows).get (N + k) = some (.ro row) := by
  unfold startHeap
  have := pushRo_at rows (setNeeds needs ⟨.nil, N⟩) k row h (by rw [setNeeds_next]; exact hl)
  rw [setNeeds_next] at this; exact this

theorem start_needs {needs : List (Nat × List AVal)} {rows : List (List AVal)} {N : Nat} (hl : N + rows.length ≤ Heap.lim) (hn : ∀ q ∈ needs, q.1 < N) (h : chkNeeds (setNeeds needs ⟨.nil, N⟩) needs = true) : chkNeeds (startHeap N needs rows) needs = true := by
  refine needs_frame (fun q hq => ?_) h
  unfold startHeap
  exact pushRo_old _ _ _ (by rw [setNeeds_next]; exact hn q hq) (by rw [setNeeds_next]; exact hl)

/-- What a start of one of the laws is: the script, the release, the known call. -/
structure Start (needs : List (Nat × List AVal)) (w : World) (v0 v1 : Value) (c : Scr) (a1 a2 a3 a4 a5 r0 r1 : AVal) (q : Int) (r3 : AVal) (at_ nd : Int) (os : List (Option Spot)) (rows : List (List AVal)) : Prop where
  len : os.length = rows.length
  lim : 11 + rows.length ≤ 17
  row : ∀ (k : Nat) o r, os[k]? = some o → rows[k]? = some r → RowAt w o r
  v0 : VRel (startEmb 11 w os) (scV c a1 a2 a3 a4 a5) v0
  v1 : VRel (startEmb 11 w os) (.agg [r0, r1, i64 q, r3, i64 at_, i64 nd]) v1
  sc : ScIs (startHeap 11 needs rows) a1 a2 a3 a4 a5 c

theorem start_of (needs : List (Nat × List AVal)) {b : Nat} {v0 v1 : Value} {x : DataW H × List MemPlace} (h0 : Value.okWide P w .any b 28 v0) (t0 : ∃ fuel, DataW.trod enc P w 0 (fun _ => true) true fuel 28 v0.cells.toList = some x) (h1 : Value.okWide P w .any b 33 v1) :
    ∃ c a1 a2 a3 a4 a5 r0 r1 q r3 at_ nd os rows, Start needs w v0 v1 c a1 a2 a3 a4 a5 r0 r1 q r3 at_ nd os rows := by
  obtain ⟨c, o1, o2, o3, o4, o5, r1, r2, r3, r4, r5, m1, m2, m3, m4, m5, ⟨X1, X2, X3, X4, X5, rfl, a1, a2, a3, a4, a5⟩⟩ := script_arg h0 t0
  obtain ⟨s1, s2, q, at_, nd, X, o6, m6, rfl, a6, b6⟩ := rel_arg h1
  refine ⟨c, m1 11, m2 12, m3 13, m4 14, m5 15, strOf s1, strOf s2, q, m6 16, at_, nd, [o1, o2, o3, o4, o5, o6], [r1, r2, r3, r4, r5, []], rfl, Nat.le_refl 17, ?_, ?_, ?_, ?_⟩
  · intro k o r ho hr
    match k with
    | 0 => cases ho; cases hr; exact a1.at_
    | 1 => cases ho; cases hr; exact a2.at_
    | 2 => cases ho; cases hr; exact a3.at_
    | 3 => cases ho; cases hr; exact a4.at_
    | 4 => cases ho; cases hr; exact a5.at_
    | 5 => cases ho; cases hr; exact a6
    | n + 6 => cases ho
  · exact .agg (.cons (.int _ _) (.cons (.int _ _) (.cons (a1.rel _ 11 rfl) (.cons (a2.rel _ 12 rfl) (.cons (a3.rel _ 13 rfl) (.cons (a4.rel _ 14 rfl) (.cons (a5.rel _ 15 rfl) .nil)))))))
  · exact .agg (.cons (strOf_rel _ _) (.cons (strOf_rel _ _) (.cons (.int _ _) (.cons (b6 _ 16 rfl) (.cons (.int _ _) (.cons (.int _ _) .nil))))))
  · have hl : 11 + [r1, r2, r3, r4, r5, ([] : List AVal)].length ≤ Heap.lim := by show 17 ≤ 32768; decide
    have hnx : (startHeap 11 needs [r1, r2, r3, r4, r5, ([] : List AVal)]).next = 17 := startHeap_next ..
    exact ⟨a1.is _ 11 (by omega) (start_get hl 0 rfl), a2.is _ 12 (by omega) (start_get hl 1 rfl), a3.is _ 13 (by omega) (start_get hl 2 rfl), a4.is _ 14 (by omega) (start_get hl 3 rfl), a5.is _ 15 (by omega) (start_get hl 4 rfl)⟩

theorem rests_calls {needs : List (Nat × List AVal)} (hneeds : chkNeeds (setNeeds needs ⟨.nil, 11⟩) needs = true) (hm : P.follows .mixedOrders = true) (hT : TableOK P globs 11 (T6 needs)) (hN : 11 ≤ w.heap.size) (hn : ∀ q ∈ needs, q.1 < 11 ∧ Holds w q)
    {b : Nat} {v0 v1 : Value} {x : DataW H × List MemPlace} (h0 : Value.okWide P w .any b 28 v0) (t0 : ∃ fuel, DataW.trod enc P w 0 (fun _ => true) true fuel 28 v0.cells.toList = some x) (h1 : Value.okWide P w .any b 33 v1) (m k : Int) :
    Calls P 4 #[v0, v1, .int .i64 m, .int .i64 k] w fun e w' => e = .returned (.bool true) ∧ Below w.heap.size w w' := by
  obtain ⟨c, a1, a2, a3, a4, a5, r0, r1, q, r3, at_, nd, os, rows, hs⟩ := start_of needs h0 t0 h1
  have hlim := hs.lim
  have hl : 11 + rows.length ≤ Heap.lim := by unfold Heap.lim; omega
  have hnx : (startHeap 11 needs rows).next = 11 + rows.length := startHeap_next ..
  have hC : COK P globs (R (T6 needs) 1000 9) := runM_ok hm (by decide) hT 9
  have hch := start_needs (rows := rows) hl (fun q hq => (hn q hq).1) hneeds
  refine start_calls (xs := [v0, v1, .int .i64 m, .int .i64 k]) hC (by kernel_rfl) (by decide) hs.len hl hN hn hs.row (.cons hs.v0 (.cons hs.v1 (.cons (.int _ m) (.cons (.int _ k) .nil)))) (fun q hq => hq.1)
    (rests_run (n := 0) (m := m) (k := k) (fun f h => T6_other needs f h) (Nat.le_refl _) hs.sc (by omega) fun H' hfr => T6_call (needs_frame (fun q hq => ?_) hch))
  exact hfr.same' (by have := (hn q hq).1; omega)

end
end Go.Proofs.YtbokoinmlbipmaaGreatDoor.Ev.Sy
