import Derived.Test.YtbokoinmlbipmaaGreatDoorEv2

-- EvRen
namespace Go.Proofs.YtbokoinmlbipmaaGreatDoor.Ev
noncomputable section

def RenOK (φ ψ : Emb) (r : Ren) : Prop := ∀ id q s, r id = some q → φ id = some s → ∃ s2, ψ q.1 = some s2 ∧ s2.block = s.block ∧ s2.base + q.2 = s.base ∧ s2.size = s.size

mutual
theorem VRel.ren {φ ψ : Emb} {r : Ren} (k : RenOK φ ψ r) : ∀ {v u : AVal} {x : Value}, VRel φ v x → renV r v = some u → VRel ψ u x
  | _, _, _, .bool b, h => by cases h; exact .bool b
  | _, _, _, .int a n, h => by cases h; exact .int a n
  | _, _, _, .str n v, h => by cases h; exact .str n v
  | _, _, _, .ptr (id := id) (off := off) (s := s) hs, h => by
    simp only [renV] at h
    split at h
    · rename_i q hq
      cases h
      obtain ⟨s2, h1, h2, h3, h4⟩ := k id q s hq hs
      have := VRel.ptr (off := q.2 + off) h1
      rw [h2, ← Nat.add_assoc, h3] at this
      exact this
    · cases h
  | _, _, _, .nilp, h => by cases h; exact .nilp
  | _, _, _, .slice (id := id) (off := off) (s := s) hs, h => by
    simp only [renV] at h
    split at h
    · rename_i q hq
      cases h
      obtain ⟨s2, h1, h2, h3, h4⟩ := k id q s hq hs
      have := fun len cap => VRel.slice (off := q.2 + off) (len := len) (cap := cap) h1
      rw [h2, ← Nat.add_assoc, h3] at this
      exact this _ _
    · cases h
  | _, _, _, .sliceO (id := id) (off := off) (s := s) hs hc hsz ho, h => by
    simp only [renV] at h
    split at h
    · rename_i q hq
      cases h
      obtain ⟨s2, h1, h2, h3, h4⟩ := k id q s hq hs
      rw [← h2]
      exact .sliceO (off := q.2 + off) h1 hc (by omega) (fun hn => by have := ho hn; omega)
    · cases h
  | _, _, _, .nils, h => by cases h; exact .nils
  | _, _, _, .map (id := id) (s := s) hs, h => by
    simp only [renV] at h
    split at h
    · rename_i q hq
      cases h
      obtain ⟨s2, h1, h2, -, -⟩ := k id q s hq hs
      rw [← h2]; exact .map h1
    · cases h
  | _, _, _, .nilm, h => by cases h; exact .nilm
  | _, _, _, .func f h1 h2, h => by
    simp only [renV] at h
    split at h
    · rename_i a' ha
      split at h
      · rename_i c' hc
        cases h
        exact .func f (VRels.ren k h1 ha) (VRels.ren k h2 hc)
      · cases h
    · cases h
  | _, _, _, .yld _, h => by cases h
  | _, _, _, .nilf, h => by cases h; exact .nilf
  | _, _, _, .iface t hv, h => by
    simp only [renV] at h
    split at h
    · rename_i v' hv'
      cases h
      exact .iface t (VRel.ren k hv hv')
    · cases h
  | _, _, _, .niliface, h => by cases h; exact .niliface
  | _, _, _, .agg hl, h => by
    simp only [renV] at h
    split at h
    · rename_i l' hl'
      cases h
      exact .agg (VRels.ren k hl hl')
    · cases h
  | _, _, _, .tup hl, h => by
    simp only [renV] at h
    split at h
    · rename_i l' hl'
      cases h
      exact .tup (VRels.ren k hl hl')
    · cases h
theorem VRels.ren {φ ψ : Emb} {r : Ren} (k : RenOK φ ψ r) : ∀ {l m : List AVal} {x : List Value}, VRels φ l x → renL r l = some m → VRels ψ m x
  | _, _, _, .nil, h => by cases h; exact .nil
  | _, _, _, .cons h t, hr => by
    simp only [renL] at hr
    split at hr
    · rename_i v' hv
      split at hr
      · rename_i l' hl
        cases hr
        exact .cons (VRel.ren k h hv) (VRels.ren k t hl)
      · cases hr
    · cases hr
end

theorem renL_get {r : Ren} : ∀ {l m : List AVal}, renL r l = some m → m.length = l.length ∧ ∀ (i : Nat) u, m[i]? = some u → ∃ v, l[i]? = some v ∧ renV r v = some u
  | [], m, h => by cases h; exact ⟨rfl, fun i u hi => by simp at hi⟩
  | v :: l, m, h => by
    simp only [renL] at h
    split at h
    · rename_i v' hv
      split at h
      · rename_i l' hl
        cases h
        obtain ⟨h1, h2⟩ := renL_get hl
        refine ⟨by simp [h1], ?_⟩
        intro i u hi
        cases i with
        | zero => simp at hi; subst hi; exact ⟨v, rfl, hv⟩
        | succ i => simpa using h2 i u (by simpa using hi)
      · cases h
    · cases h

theorem renE_rel {φ ψ : Emb} {r : Ren} (k : RenOK φ ψ r) : ∀ {es es' : List (AVal × AVal × Nat)} {ms : List MapEntry}, All2 (EntryRel φ) es ms → renE r es = some es' → All2 (EntryRel ψ) es' ms
  | _, _, _, .nil, h => by cases h; exact .nil
  | _, _, _, .cons h t, hr => by
    simp only [renE] at hr
    split at hr
    · rename_i a ha
      split at hr
      · rename_i b hb
        split at hr
        · rename_i l' hl
          cases hr
          exact .cons ⟨h.1.ren k ha, h.2.1.ren k hb, h.2.2⟩ (renE_rel k t hl)
        · cases hr
      · cases hr
    · cases hr

theorem RowRel.ren {φ ψ : Emb} {r : Ren} (k : RenOK φ ψ r) {s : Spot} {row row' : Row} {o : Obj} (h : RowRel φ s row o) (hr : renRow r row = some row') : RowRel ψ s row' o := by
  unfold renRow at hr
  split at hr
  · rename_i e l opn fz sm
    split at hr
    · rename_i l' hl
      cases hr
      obtain ⟨h1, h2⟩ := renL_get hl
      cases h with
      | cells hc hcl hf =>
        refine .cells ⟨hc.size, by rw [h1]; exact hc.room, ?_⟩ (fun x => by rw [h1]; exact hcl x) hf
        intro i u hi
        obtain ⟨v, hv, hu⟩ := h2 i u hi
        obtain ⟨x, hx, hrel⟩ := hc.at_ i v hv
        exact ⟨x, hx, hrel.ren k hu⟩
    · cases hr
  · split at hr
    · rename_i es' he
      cases hr
      cases h with
      | map ha => exact .map (renE_rel k ha he)
    · cases hr
  · cases hr

theorem renRow_live {r : Ren} {row row' : Row} (hr : renRow r row = some row') : row.live = true ∧ row'.live = true := by
  unfold renRow at hr
  split at hr
  · split at hr
    · cases hr; exact ⟨rfl, rfl⟩
    · cases hr
  · split at hr
    · cases hr; exact ⟨rfl, rfl⟩
    · cases hr
  · cases hr

theorem beqE_eq : ∀ {l m : List (AVal × AVal × Nat)}, beqE l m = true → l = m
  | [], [], _ => rfl
  | a :: l, b :: m, h => by
    simp only [beqE, Bool.and_eq_true] at h
    obtain ⟨h1, h2, h3, h4⟩ := h
    rw [beqE_eq h4]
    have e1 := beqV_eq h1
    have e2 := beqV_eq h2
    have e3 := Nat.eq_of_beq_eq_true h3
    obtain ⟨a1, a2, a3⟩ := a
    obtain ⟨b1, b2, b3⟩ := b
    simp only at e1 e2 e3
    rw [e1, e2, e3]
  | [], _ :: _, h => by cases h
  | _ :: _, [], h => by cases h

theorem beqB_eq {a b : Bool} (h : beqB a b = true) : a = b := by cases a <;> cases b <;> first | rfl | cases h

theorem beqRow_eq {a b : Row} (h : beqRow a b = true) : a = b := by
  unfold beqRow at h
  split at h
  · simp only [Bool.and_eq_true] at h
    obtain ⟨h1, h2, h3, h4, h5⟩ := h
    rw [Nat.eq_of_beq_eq_true h1, beqL_eq h2, beqB_eq h3, Nat.eq_of_beq_eq_true h4, beqB_eq h5]
  · simp only [Bool.and_eq_true] at h
    rw [beqE_eq h.1, Nat.eq_of_beq_eq_true h.2]
  · cases h

end
end Go.Proofs.YtbokoinmlbipmaaGreatDoor.Ev

-- EvEntry
namespace Go.Proofs.YtbokoinmlbipmaaGreatDoor.Ev
noncomputable section

def PostE (post : Value → World → Prop) : Ending → World → Prop
  | .returned x, w => post x w
  | _, _ => False

/-- What the next thing comes to, calls and rounds made, in whatever words. -/
def NextP (P : Program) (post : Value → World → Prop) : Result Next → Prop
  | .ok (.value X) w' => post X w'
  | .ok .skip w' => post undef w'
  | .ok (.enter f args) w' => CallsIn Fence.wide 0 P f args w' (PostE post)
  | .ok (.round l f tmps assign body) w' => RoundIn Fence.wide 0 P l f tmps assign body w' (PostE post)
  | _ => False

def NextPost (φ : Emb) (H : Heap) (w : World) (v : AVal) (H' : Heap) (X : Value) (w' : World) : Prop := ∃ φ', VRel φ' v X ∧ HRel φ' H' w' ∧ Ext φ H w φ' H' w'

theorem NextP.of {P : Program} {φ : Emb} {H H' : Heap} {w : World} {v : AVal} {post : Value → World → Prop} {r : Result Next} (h : NextRes P φ H w v H' r) (k : ∀ X w', NextPost φ H w v H' X w' → post X w') : NextP P post r := by
  have hk : ∀ e w', RetPost φ H w v H' e w' → PostE post e w' := by
    intro e w' he
    cases e with
    | returned x => exact k x w' he
    | panicked c => exact he.elim
    | outgrown => exact he.elim
  unfold NextRes at h
  split at h
  · exact k _ _ h
  · exact k _ _ h
  · exact CallsIn.mono h hk
  · exact RoundIn.mono h hk
  · exact h.elim

theorem NextP.to {P : Program} {φ : Emb} {H H' : Heap} {w : World} {v : AVal} {post : Value → World → Prop} {r : Result Next} (h : NextP P post r) (k : ∀ X w', post X w' → NextPost φ H w v H' X w') : NextRes P φ H w v H' r := by
  have hk : ∀ e w', PostE post e w' → RetPost φ H w v H' e w' := by
    intro e w' he
    cases e with
    | returned x => exact k x w' he
    | panicked c => exact he.elim
    | outgrown => exact he.elim
  unfold NextP at h
  split at h
  · exact k _ _ h
  · exact k _ _ h
  · exact CallsIn.mono h hk
  · exact RoundIn.mono h hk
  · exact h.elim

/-- What is there behind a call that is known. -/
structure MOut (φ0 : Emb) (M : Nat) (w : World) (v : AVal) (rows : List Row) (X : Value) (w' : World) (φn : Emb) : Prop where
  val : VRel φn v X
  kept : Kept w w'
  old : ∀ id, id < M → φn id = φ0 id
  row : ∀ (j : Nat) (r : Row) (s : Spot), rows[j]? = some r → φn (M + j) = some s → w.heap.size ≤ s.block ∧ s.block < w'.heap.size ∧ r.live = true ∧ ∃ o, w'.heap[s.block]? = some o ∧ RowRel φn s r o
  apart : ∀ (i j : Nat) (s t : Spot), i ≠ j → i < rows.length → j < rows.length → φn (M + i) = some s → φn (M + j) = some t → s.block ≠ t.block
  dom : ∀ id s, φn id = some s → id < M + rows.length

def MPost (φ0 : Emb) (M : Nat) (w : World) (v : AVal) (rows : List Row) (X : Value) (w' : World) : Prop := ∃ φn, MOut φ0 M w v rows X w' φn

structure EntryOK (P : Program) (globs : List Nat) (N : Nat) (e : Entry) : Prop where
  lim : (e.num N).next ≤ Heap.lim
  needs : ∀ q ∈ e.needs, q.1 < N ∧ belowL N q.2 = true
  ok : ∀ (φ0 : Emb) (w : World) (xs : List Value), HRel φ0 (startHeap N e.needs (e.num N).rows) w → VRels φ0 (e.num N).val xs → Glob φ0 globs →
    NextP P (MPost φ0 (e.num N).next w e.v e.rows) ((callFunc e.f xs.toArray).run P w)

/-! ### The heap of the call -/

theorem pushRo_next : ∀ (rows : List (List AVal)) (H : Heap), (pushRo rows H).next = H.next + rows.length
  | [], _ => rfl
  | r :: l, H => by
    simp only [pushRo]
    rw [pushRo_next l]
    show H.next + 1 + l.length = _
    simp; omega

theorem pushRo_get : ∀ (rows : List (List AVal)) (H : Heap) (id : Nat) (r : Row), H.next + rows.length ≤ Heap.lim → id < Heap.lim → (pushRo rows H).get id = some r →
    (∃ k row, rows[k]? = some row ∧ id = H.next + k ∧ r = .ro row) ∨ H.get id = some r
  | [], H, id, r, _, _, h => .inr h
  | x :: l, H, id, r, hl, hi, h => by
    simp only [pushRo] at h
    simp only [List.length_cons] at hl
    rcases pushRo_get l _ id r (by show H.next + 1 + l.length ≤ _; omega) hi h with ⟨k, row, h1, h2, h3⟩ | h
    · exact .inl ⟨k + 1, row, by simpa using h1, by rw [h2]; show H.next + 1 + k = _; omega, h3⟩
    · by_cases e : id = H.next
      · subst e
        rw [Heap.get_push_new] at h
        cases h
        exact .inl ⟨0, x, rfl, rfl, rfl⟩
      · rw [Heap.get_push_old _ _ e hi (by omega)] at h
        exact .inr h

theorem setNeeds_next : ∀ (needs : List (Nat × List AVal)) (H : Heap), (setNeeds needs H).next = H.next
  | [], _ => rfl
  | q :: l, H => by simp only [setNeeds]; rw [setNeeds_next l]; rfl

theorem setNeeds_get : ∀ (needs : List (Nat × List AVal)) (H : Heap) (id : Nat) (r : Row), (∀ q ∈ needs, q.1 < Heap.lim) → id < Heap.lim → (setNeeds needs H).get id = some r → (∃ l, (id, l) ∈ needs ∧ r = .ro l) ∨ H.get id = some r
  | [], H, id, r, _, _, h => .inr h
  | q :: l, H, id, r, hl, hi, h => by
    simp only [setNeeds] at h
    rcases setNeeds_get l _ id r (fun x hx => hl x (List.mem_cons_of_mem _ hx)) hi h with ⟨c, h1, h2⟩ | h
    · exact .inl ⟨c, List.mem_cons_of_mem _ h1, h2⟩
    · by_cases e : q.1 = id
      · subst e
        rw [Heap.get_set] at h
        cases h
        exact .inl ⟨q.2, List.mem_cons_self .., rfl⟩
      · rw [Heap.get_set_ne _ _ e (hl q (List.mem_cons_self ..)) hi] at h
        exact .inr h

theorem startHeap_next (N : Nat) (needs : List (Nat × List AVal)) (rows : List (List AVal)) : (startHeap N needs rows).next = N + rows.length := by
  unfold startHeap
  rw [pushRo_next, setNeeds_next]

theorem startHeap_get {N : Nat} {needs : List (Nat × List AVal)} {rows : List (List AVal)} {id : Nat} {r : Row} (hn : ∀ q ∈ needs, q.1 < N) (hl : N + rows.length ≤ Heap.lim) (hi : id < Heap.lim) (h : (startHeap N needs rows).get id = some r) :
    (∃ l, (id, l) ∈ needs ∧ r = .ro l) ∨ (∃ k row, rows[k]? = some row ∧ id = N + k ∧ r = .ro row) := by
  unfold startHeap at h
  rcases pushRo_get rows _ id r (by rw [setNeeds_next]; exact hl) hi h with ⟨k, row, h1, h2, h3⟩ | h
  · rw [setNeeds_next] at h2
    exact .inr ⟨k, row, h1, h2, h3⟩
  · rcases setNeeds_get needs _ id r (fun q hq => by have := hn q hq; omega) hi h with h | h
    · exact .inl h
    · have : (⟨.nil, N⟩ : Heap).get id = none := T8.get_empty _
      rw [this] at h; cases h

/-! ### An entry's law -/

theorem not_blt {a b : Nat} (h : Nat.blt a b = false) : ¬ a < b := fun hlt => by
  have : Nat.blt a b = true := by simpa [Nat.blt_eq] using hlt
  rw [h] at this; cases this

theorem incr_ge : ∀ {ids : List Nat} {n : Nat}, incr n ids = true → ∀ (k i : Nat), ids[k]? = some i → n ≤ i
  | [], _, _, k, i, h => by simp at h
  | x :: l, n, h, k, i, hk => by
    simp only [incr, Bool.and_eq_true] at h
    have h1 := Nat.le_of_ble_eq_true h.1
    cases k with
    | zero => simp at hk; omega
    | succ k => have := incr_ge h.2 k i (by simpa using hk); omega

theorem incr_inj : ∀ {ids : List Nat} {n : Nat}, incr n ids = true → ∀ (k j i : Nat), k < j → ids[k]? = some i → ids[j]? = some i → False
  | [], _, _, k, j, i, _, h, _ => by simp at h
  | x :: l, n, h, k, j, i, hlt, hk, hj => by
    simp only [incr, Bool.and_eq_true] at h
    cases j with
    | zero => omega
    | succ j =>
      cases k with
      | zero =>
        simp at hk; subst hk
        have := incr_ge h.2 j x (by simpa using hj)
        omega
      | succ k => exact incr_inj h.2 k j i (by omega) (by simpa using hk) (by simpa using hj)

theorem idxOf_some : ∀ {ids : List Nat} {n id j : Nat}, idxOf id ids n = some j → ∃ k, j = n + k ∧ ids[k]? = some id
  | [], n, id, j, h => by cases h
  | x :: l, n, id, j, h => by
    simp only [idxOf] at h
    split at h
    · rename_i hb
      cases h
      exact ⟨0, rfl, by rw [Nat.eq_of_beq_eq_true hb]; rfl⟩
    · obtain ⟨k, h1, h2⟩ := idxOf_some h
      exact ⟨k + 1, by rw [h1]; omega, by simpa using h2⟩

theorem chkRows_some {r : Ren} {H : Heap} : ∀ {ids : List Nat} {rows : List Row}, chkRows r H ids rows = true → ids.length = rows.length ∧ ∀ (j : Nat) (x : Row), rows[j]? = some x → ∃ i row, ids[j]? = some i ∧ H.get i = some row ∧ renRow r row = some x
  | [], [], _ => ⟨rfl, fun j x h => by simp at h⟩
  | i :: l, x :: m, h => by
    simp only [chkRows, Bool.and_eq_true] at h
    obtain ⟨h1, h2⟩ := h
    obtain ⟨h3, h4⟩ := chkRows_some h2
    refine ⟨by simp [h3], ?_⟩
    intro j y hj
    cases j with
    | zero =>
      simp at hj; subst hj
      split at h1
      · rename_i row hrow
        split at h1
        · rename_i z hz
          have := beqRow_eq h1
          subst this
          exact ⟨i, row, rfl, hrow, hz⟩
        · cases h1
      · cases h1
    | succ j => simpa using h4 j y (by simpa using hj)
  | [], _ :: _, h => by cases h
  | _ :: _, [], h => by cases h

theorem chkNeedsOK_mem {N : Nat} : ∀ {l : List (Nat × List AVal)}, chkNeedsOK N l = true → ∀ q ∈ l, q.1 < N ∧ belowL N q.2 = true
  | [], _, q, hq => by simp at hq
  | x :: l, h, q, hq => by
    simp only [chkNeedsOK, Bool.and_eq_true] at h
    rcases List.mem_cons.1 hq with rfl | hq
    · exact ⟨by simpa [Nat.blt_eq] using h.1, h.2.1⟩
    · exact chkNeedsOK_mem h.2.2 q hq

mutual
theorem numV_next : ∀ (d : DV) (n : Nat), (numV d n).next = n + (numV d n).rows.length
  | .c v, n => rfl
  | .sl l len cap, n => by simp only [numV, List.length_cons]; rw [numL_next l]; omega
  | .slO l len es, n => by simp only [numV, List.length_cons]; rw [numL_next l]; omega
  | .agg l, n => by simp only [numV]; exact numL_next l n
  | .tup l, n => by simp only [numV]; exact numL_next l n
  | .iface t v, n => by simp only [numV]; exact numV_next v n
theorem numL_next : ∀ (l : List DV) (n : Nat), (numL l n).next = n + (numL l n).rows.length
  | [], n => rfl
  | d :: l, n => by
    simp only [numL, List.length_append]
    rw [numL_next l, numV_next d]; omega
end

theorem chkEntry_ok {P : Program} {globs : List Nat} {N : Nat} {C : Caller} (hC : COK P globs C) {e : Entry} {ids : List Nat} (h : chkEntry C N e ids = true) : EntryOK P globs N e := by
  unfold chkEntry at h
  simp only [Bool.and_eq_true] at h
  obtain ⟨h1, h2, h3⟩ := h
  have hlim : (e.num N).next ≤ Heap.lim := Nat.le_of_ble_eq_true h1
  have hneeds := chkNeedsOK_mem h2
  refine ⟨hlim, hneeds, ?_⟩
  intro φ0 w xs hh hx hg
  have hnext : (e.num N).next = N + (e.num N).rows.length := numL_next e.args N
  have hH0 : (startHeap N e.needs (e.num N).rows).next = (e.num N).next := by rw [startHeap_next, hnext]
  unfold chkOut at h3
  split at h3
  · rename_i q hq
    split at h3
    · rename_i u hu
      simp only [Bool.and_eq_true] at h3
      obtain ⟨hv, hinc, hrows⟩ := h3
      have hv := beqV_eq hv
      obtain ⟨hlen, hrows⟩ := chkRows_some hrows
      have hno : ∀ b, ¬ Own φ0 (startHeap N e.needs (e.num N).rows) b := by
        rintro b ⟨id, s, r, es, -, hr, hl⟩
        have hi := hh.lt_lim es
        rcases startHeap_get (fun q hq => (hneeds q hq).1) (by rw [← hnext]; exact hlim) hi hr with ⟨l, -, rfl⟩ | ⟨k, row, -, -, rfl⟩ <;> cases hl
      refine NextP.of (hC.func (v := q.1) (H' := q.2) hq hh hx hg) ?_
      rintro X w' ⟨φ', hvX, hh', hext⟩
      -- what is new
      let φn : Emb := fun id => if id < (e.num N).next then φ0 id else (match ids[id - (e.num N).next]? with | some i => φ' i | none => none)
      have hn_old : ∀ id, id < (e.num N).next → φn id = φ0 id := fun id hi => by simp only [φn]; rw [if_pos hi]
      have hn_new : ∀ j i, ids[j]? = some i → φn ((e.num N).next + j) = φ' i := fun j i hj => by
        simp only [φn]
        rw [if_neg (by omega)]
        have : (e.num N).next + j - (e.num N).next = j := by omega
        rw [this, hj]
      have hren : RenOK φ' φn (renOut (e.num N).next ids) := by
        intro id q s hr hs
        unfold renOut at hr
        split at hr
        · rename_i hb
          cases hr
          have hb : id < (e.num N).next := by simpa [Nat.blt_eq] using hb
          refine ⟨s, ?_, rfl, rfl, rfl⟩
          rw [hn_old id hb]
          exact hext.fresh id s (by rw [hH0]; exact hb) hs
        · split at hr
          · rename_i j hj
            cases hr
            obtain ⟨k, rfl, hk⟩ := idxOf_some hj
            exact ⟨s, by rw [hn_new k id hk]; exact hs, rfl, rfl, rfl⟩
          · cases hr
      have hnewid : ∀ (j i : Nat) (s : Spot), ids[j]? = some i → φ' i = some s → w.heap.size ≤ s.block := by
        intro j i s hj hs
        have hge := incr_ge hinc j i hj
        rcases hext.new i s hs with h | h | h
        · have := (hh.dom i s h).1
          rw [hH0] at this
          omega
        · exact h
        · exact absurd h (hno _)
      refine ⟨φn, ?_, ⟨hext.size, fun b hb => hext.keep b hb (hno b), hext.os, hext.tape, hext.output⟩, hn_old, ?_, ?_, ?_⟩
      · rw [← hv]; exact hvX.ren hren hu
      · intro j r s hr hs
        obtain ⟨i, row, hj, hrow, hrr⟩ := hrows j r hr
        rw [hn_new j i hj] at hs
        have hlive := renRow_live hrr
        obtain ⟨o, ho, hrel⟩ := hh'.rows i s row hs hrow (fun x => by rw [x] at hlive; cases hlive.1)
        exact ⟨hnewid j i s hj hs, (hh'.dom i s hs).2, hlive.2, o, ho, hrel.ren hren hrr⟩
      · intro i j s t hne hi hj hs ht
        obtain ⟨a, rowa, ha, hrowa, hra⟩ := hrows i _ (List.getElem?_eq_getElem hi)
        obtain ⟨b, rowb, hb, hrowb, hrb⟩ := hrows j _ (List.getElem?_eq_getElem hj)
        rw [hn_new i a ha] at hs
        rw [hn_new j b hb] at ht
        have hab : a ≠ b := by
          rintro rfl
          rcases Nat.lt_or_gt_of_ne hne with h | h
          · exact incr_inj hinc i j a h ha hb
          · exact incr_inj hinc j i a h hb ha
        intro hblk
        have := hh'.inj a b s t rowa rowb hs ht hab hblk hrowa hrowb (renRow_live hra).1
        have h2 := (renRow_live hrb).1
        rw [this] at h2; cases h2
      · intro id s hs
        by_cases hi : id < (e.num N).next
        · omega
        · simp only [φn] at hs
          rw [if_neg hi] at hs
          split at hs
          · rename_i i hidx
            have := (List.getElem?_eq_some_iff.1 hidx).1
            omega
          · cases hs
    · cases h3
  · cases h3

/-! ### An entry's use -/

theorem chkNeeds_mem {H : Heap} : ∀ {l : List (Nat × List AVal)}, chkNeeds H l = true → ∀ q ∈ l, H.get q.1 = some (.ro q.2)
  | [], _, q, hq => by simp at hq
  | x :: l, h, q, hq => by
    simp only [chkNeeds] at h
    split at h
    · rename_i r hr
      split at h
      · rename_i cs
        simp only [Bool.and_eq_true, beqFL_eq] at h
        rcases List.mem_cons.1 hq with rfl | hq
        · rw [hr, beqL_eq h.1]
        · exact chkNeeds_mem h.2 q hq
      · cases h
    · cases h

theorem pushRows_some {r : Ren} : ∀ {rows : List Row} {H H' : Heap}, pushRows r rows H = some H' → H.next ≤ Heap.lim → H'.next = H.next + rows.length ∧ H'.next ≤ Heap.lim ∧ (∀ id, id < H.next → H'.get id = H.get id) ∧
    ∀ (j : Nat) (x : Row), rows[j]? = some x → ∃ y, renRow r x = some y ∧ H'.get (H.next + j) = some y
  | [], H, H', h, hl => by
    simp only [pushRows, Option.some.injEq] at h
    subst h
    exact ⟨rfl, hl, fun _ _ => rfl, fun j x hj => by simp at hj⟩
  | x :: l, H, H', h, hl => by
    simp only [pushRows] at h
    split at h
    · rename_i y hy
      split at h
      · rename_i hb
        have hb : H.next + 1 ≤ Heap.lim := Nat.le_of_ble_eq_true hb
        obtain ⟨h1, h2, h3, h4⟩ := pushRows_some h (show H.next + 1 ≤ _ from hb)
        have h1 : H'.next = H.next + 1 + l.length := h1
        have h3 : ∀ id, id < H.next + 1 → H'.get id = (H.push y).get id := h3
        refine ⟨by rw [h1]; simp; omega, h2, ?_, ?_⟩
        · intro id hi
          rw [h3 id (by omega), Heap.get_push_old _ _ (by omega) (by omega) (by omega)]
        · intro j z hj
          cases j with
          | zero =>
            simp at hj; subst hj
            exact ⟨y, hy, by rw [Nat.add_zero, h3 H.next (Nat.lt_succ_self _)]; exact Heap.get_push_new _ _⟩
          | succ j =>
            obtain ⟨u, hu, hg⟩ := h4 j z (by simpa using hj)
            refine ⟨u, hu, ?_⟩
            have : H.next + (j + 1) = (H.push y).next + j := by show _ = H.next + 1 + j; omega
            rw [this]; exact hg
      · cases h
    · cases h

theorem tryEntry_ok {P : Program} {globs : List Nat} {N : Nat} (hN : ∀ g ∈ globs, g < N) {e : Entry} (he : EntryOK P globs N e) {args : List AVal} {H H' : Heap} {v : AVal} {φ : Emb} {w : World} {xs : List Value}
    (h : tryEntry N e args H = some (v, H')) (hh : HRel φ H w) (hx : VRels φ args xs) (hg : Glob φ globs) : NextOK P φ H w v H' (callFunc e.f xs.toArray) := by
  unfold tryEntry at h
  split at h
  · rename_i m hm
    split at h
    · rename_i hneeds
      have hneeds := chkNeeds_mem hneeds
      obtain ⟨new, hnew, hplaces, hlen, hout⟩ := matchL_ok (N := N) hh e.args (F := fun i X => xs[i]? = some X) hm (fun i v hi => by
        obtain ⟨X, hX, hr⟩ := hx.get i v hi
        exact ⟨X, hX, hr⟩)
      rw [List.append_nil] at hnew
      subst hnew
      -- where the call's rows lie
      let φ0 : Emb := fun id => if id < N then φ id else (match m.reverse[id - N]? with | some q => (φ q.1).map fun s => shift s q.2 | none => none)
      have h0_old : ∀ id, id < N → φ0 id = φ id := fun id hi => by simp only [φ0]; rw [if_pos hi]
      have h0_new : ∀ (k : Nat) (q : Nat × Nat), m.reverse[k]? = some q → φ0 (N + k) = (φ q.1).map fun s => shift s q.2 := fun k q hk => by
        simp only [φ0]
        rw [if_neg (by omega)]
        have : N + k - N = k := by omega
        rw [this, hk]
      have hle : (φ.upto N).le φ0 := fun id s hs => by
        obtain ⟨h1, h2⟩ := Emb.upto_some hs
        rw [h0_old id h1]; exact h2
      have hpl : Placed φ φ0 N m := fun k q s hk hs => by rw [h0_new k q hk, hs]; rfl
      obtain ⟨hvals, hnext, hmv⟩ := hout N φ0 hle hpl
      have hvals : ∀ (i : Nat) (u : AVal), (e.num N).val[i]? = some u → ∃ X, xs[i]? = some X ∧ VRel φ0 u X := hvals
      have hnext : (e.num N).next = N + m.length := hnext
      have hmv : MV φ0 w N m.length (e.num N).rows := hmv
      have hargs : VRels φ0 (e.num N).val xs := by
        refine VRels.of_get ?_ ?_
        · show (numL e.args N).val.length = _
          rw [numL_length, hlen, hx.length]
        · intro i u X hi hX
          obtain ⟨X', hX', hr⟩ := hvals i u hi
          rw [hX] at hX'; cases hX'; exact hr
      have hrl : N + (e.num N).rows.length ≤ Heap.lim := by
        have := he.lim
        rw [hnext] at this
        rw [hmv.len]; exact this
      have hdom : ∀ id s, φ0 id = some s → id < N + m.length ∧ s.block < w.heap.size := by
        intro id s hs
        by_cases hi : id < N
        · rw [h0_old id hi] at hs
          exact ⟨by omega, (hh.dom id s hs).2⟩
        · simp only [φ0] at hs
          rw [if_neg hi] at hs
          split at hs
          · rename_i q hq
            have hlt := (List.getElem?_eq_some_iff.1 hq).1
            rw [List.length_reverse] at hlt
            cases hφ : φ q.1 with
            | none => rw [hφ] at hs; cases hs
            | some t =>
              rw [hφ] at hs
              simp only [Option.map_some, Option.some.injEq] at hs
              subst hs
              exact ⟨by omega, (hh.dom q.1 t hφ).2⟩
          · cases hs
      have hh0 : HRel φ0 (startHeap N e.needs (e.num N).rows) w := by
        refine ⟨by rw [startHeap_next]; exact hrl, ?_, ?_, ?_⟩
        · intro id s hs
          obtain ⟨h1, h2⟩ := hdom id s hs
          exact ⟨by rw [startHeap_next, hmv.len]; exact h1, h2⟩
        · intro id s r hs hr hd
          have hi : id < Heap.lim := by have := (hdom id s hs).1; rw [hmv.len] at hrl; omega
          rcases startHeap_get (fun q hq => (he.needs q hq).1) hrl hi hr with ⟨l, hl, rfl⟩ | ⟨k, row, hk, rfl, rfl⟩
          · obtain ⟨h1, h2⟩ := he.needs _ hl
            rw [h0_old id h1] at hs
            obtain ⟨o, ho, hrel⟩ := hh.rows id s _ hs (hneeds _ hl) (by simp)
            refine ⟨o, ho, ?_⟩
            cases hrel with
            | ro hc =>
              refine .ro ⟨hc.size, hc.room, ?_⟩
              intro i u hi'
              obtain ⟨x, hxx, hr⟩ := hc.at_ i u hi'
              refine ⟨x, hxx, (hr.upto ?_).mono hle⟩
              have hb : ∀ {l : List AVal}, belowL N l = true → ∀ u ∈ l, belowV N u = true := fun h u hu => belowL_mem h u hu
              exact hb h2 u (List.mem_of_getElem? hi')
          · obtain ⟨c, t, fr, hb, hc⟩ := hmv.cells k row s hk hs
            exact ⟨_, hb, .ro hc⟩
        · intro i j si sj ri rj hi hj hne hb hri hrj hl
          have hil : i < Heap.lim := by have := (hdom i si hi).1; rw [hmv.len] at hrl; omega
          rcases startHeap_get (fun q hq => (he.needs q hq).1) hrl hil hri with ⟨l, -, rfl⟩ | ⟨k, row, -, -, rfl⟩ <;> cases hl
      have hg0 : Glob φ0 globs := fun g hgm => by
        obtain ⟨sz, hs⟩ := hg g hgm
        exact ⟨sz, by rw [h0_old g (hN g hgm)]; exact hs⟩
      refine NextP.to (he.ok φ0 w xs hh0 hargs hg0) ?_
      rintro X w' ⟨φn, mo⟩
      rw [hnext] at mo
      unfold useEntry at h
      split at h
      · rename_i v2 hv2
        split at h
        · rename_i H2 hp
          cases h
          obtain ⟨p1, p2, p3, p4⟩ := pushRows_some hp hh.next
          let φ2 : Emb := fun id => if id < H.next then φ id else if id < H.next + e.rows.length then φn (N + m.length + (id - H.next)) else none
          have h2_old : ∀ id, id < H.next → φ2 id = φ id := fun id hi => by simp only [φ2]; rw [if_pos hi]
          have h2_new : ∀ j, j < e.rows.length → φ2 (H.next + j) = φn (N + m.length + j) := fun j hj => by
            simp only [φ2]
            rw [if_neg (by omega), if_pos (by omega)]
            have : H.next + j - H.next = j := by omega
            rw [this]
          have h2_cases : ∀ id s, φ2 id = some s → (id < H.next ∧ φ id = some s) ∨ ∃ j, j < e.rows.length ∧ id = H.next + j ∧ φn (N + m.length + j) = some s := by
            intro id s hs
            by_cases hi : id < H.next
            · rw [h2_old id hi] at hs; exact .inl ⟨hi, hs⟩
            · by_cases hj : id < H.next + e.rows.length
              · refine .inr ⟨id - H.next, by omega, by omega, ?_⟩
                rw [← h2_new (id - H.next) (by omega)]
                have : H.next + (id - H.next) = id := by omega
                rw [this]; exact hs
              · simp only [φ2] at hs
                rw [if_neg hi, if_neg hj] at hs; cases hs
          have hle2 : φ.le φ2 := fun id s hs => by rw [h2_old id (hh.dom id s hs).1]; exact hs
          have hren : RenOK φn φ2 (renUse N m.length m H.next) := by
            intro id q s hr hs
            unfold renUse at hr
            split at hr
            · rename_i hb
              have hb : id < N := by simpa [Nat.blt_eq] using hb
              cases hr
              rw [mo.old id (by omega), h0_old id hb] at hs
              exact ⟨s, by rw [h2_old id (hh.dom id s hs).1]; exact hs, rfl, rfl, rfl⟩
            · rename_i hb
              have hb : ¬ id < N := not_blt hb
              split at hr
              · rename_i hb2
                have hb2 : id < N + m.length := by simpa [Nat.blt_eq] using hb2
                have hrev : m.reverse[id - N]? = some q := by
                  rw [List.getElem?_reverse (by omega)]
                  have e : Nat.sub m.length (Nat.succ (Nat.sub id N)) = m.length - 1 - (id - N) := by
                    show m.length - (id - N + 1) = _
                    omega
                  rw [← e]; exact hr
                have h3 := h0_new (id - N) q hrev
                have : N + (id - N) = id := by omega
                rw [this] at h3
                rw [mo.old id (by omega), h3] at hs
                cases hφ : φ q.1 with
                | none => rw [hφ] at hs; cases hs
                | some t =>
                  rw [hφ] at hs
                  simp only [Option.map_some, Option.some.injEq] at hs
                  subst hs
                  exact ⟨t, by rw [h2_old q.1 (hh.dom q.1 t hφ).1]; exact hφ, rfl, rfl, rfl⟩
              · rename_i hb2
                have hb2 : ¬ id < N + m.length := not_blt hb2
                cases hr
                have hd := mo.dom id s hs
                refine ⟨s, ?_, rfl, rfl, rfl⟩
                show φ2 (H.next + (id - (N + m.length))) = some s
                rw [h2_new _ (by omega)]
                have : N + m.length + (id - (N + m.length)) = id := by omega
                rw [this]; exact hs
          have hrow : ∀ (j : Nat) (s : Spot), j < e.rows.length → φn (N + m.length + j) = some s → w.heap.size ≤ s.block ∧ s.block < w'.heap.size ∧ ∃ y o, H'.get (H.next + j) = some y ∧ y.live = true ∧ w'.heap[s.block]? = some o ∧ RowRel φ2 s y o := by
            intro j s hj hs
            obtain ⟨a, b, c, o, d, f⟩ := mo.row j _ s (List.getElem?_eq_getElem hj) hs
            obtain ⟨y, hy, hgy⟩ := p4 j _ (List.getElem?_eq_getElem hj)
            exact ⟨a, b, y, o, hgy, (renRow_live hy).2, d, f.ren hren hy⟩
          refine ⟨φ2, mo.val.ren hren hv2, ⟨p2, ?_, ?_, ?_⟩, ⟨hle2, by omega, mo.kept.size, fun b hb _ => mo.kept.keep b hb, ?_, ?_, ?_, mo.kept.os, mo.kept.tape, mo.kept.output⟩⟩
          · intro id s hs
            rcases h2_cases id s hs with ⟨h1, h2⟩ | ⟨j, hj, rfl, h2⟩
            · exact ⟨by omega, Nat.lt_of_lt_of_le (hh.dom id s h2).2 mo.kept.size⟩
            · exact ⟨by omega, (hrow j s hj h2).2.1⟩
          · intro id s r hs hr hd
            rcases h2_cases id s hs with ⟨h1, h2⟩ | ⟨j, hj, rfl, h2⟩
            · rw [p3 id h1] at hr
              obtain ⟨o, ho, hrel⟩ := hh.rows id s r h2 hr hd
              exact ⟨o, by rw [mo.kept.keep _ (hh.dom id s h2).2]; exact ho, hrel.mono hle2⟩
            · obtain ⟨-, -, y, o, hy, -, ho, hrel⟩ := hrow j s hj h2
              rw [hy] at hr; cases hr
              exact ⟨o, ho, hrel⟩
          · intro i j si sj ri rj hi hj hne hb hri hrj hl
            rcases h2_cases i si hi with ⟨i1, i2⟩ | ⟨i0, i1, rfl, i2⟩
            · rcases h2_cases j sj hj with ⟨j1, j2⟩ | ⟨j0, j1, rfl, j2⟩
              · rw [p3 i i1] at hri
                rw [p3 j j1] at hrj
                exact hh.inj i j si sj ri rj i2 j2 hne hb hri hrj hl
              · have h1 := (hrow j0 sj j1 j2).1
                have h2 := (hh.dom i si i2).2
                omega
            · rcases h2_cases j sj hj with ⟨j1, j2⟩ | ⟨j0, j1, rfl, j2⟩
              · have h1 := (hrow i0 si i1 i2).1
                have h2 := (hh.dom j sj j2).2
                omega
              · exact absurd hb (mo.apart i0 j0 si sj (by omega) i1 j1 i2 j2)
          · rintro b hb ho ⟨id, s, r, hs, hsb, hr, hl⟩
            rcases h2_cases id s hs with ⟨h1, h2⟩ | ⟨j, hj, rfl, h2⟩
            · rw [p3 id h1] at hr
              exact ho ⟨id, s, r, h2, hsb, hr, hl⟩
            · have := (hrow j s hj h2).1
              omega
          · intro id s hi hs
            rw [h2_old id hi] at hs; exact hs
          · intro id s hs
            rcases h2_cases id s hs with ⟨h1, h2⟩ | ⟨j, hj, rfl, h2⟩
            · exact .inl h2
            · exact .inr (.inl (hrow j s hj h2).1)
        · cases h
      · cases h
    · cases h
  · cases h

theorem tryEntries_some {N : Nat} : ∀ {l : List Entry} {args : List AVal} {H : Heap} {r : AVal × Heap}, tryEntries N l args H = some r → ∃ e ∈ l, tryEntry N e args H = some r
  | [], _, _, _, h => by cases h
  | e :: l, args, H, r, h => by
    simp only [tryEntries] at h
    split at h
    · rename_i q hq
      cases h
      exact ⟨e, List.mem_cons_self .., hq⟩
    · obtain ⟨e', h1, h2⟩ := tryEntries_some h
      exact ⟨e', List.mem_cons_of_mem _ h1, h2⟩

theorem Table.find_mem : ∀ {T : Table} {f : FuncId} {e : Entry}, e ∈ (T.find f).val → ∃ q ∈ T, q.1 = f ∧ e ∈ q.2
  | [], f, e, h => by simp [Table.find] at h
  | q :: l, f, e, h => by
    unfold Table.find at h
    split at h
    · rename_i hb
      exact ⟨q, List.mem_cons_self .., Nat.eq_of_beq_eq_true hb, h⟩
    · obtain ⟨q', h1, h2⟩ := Table.find_mem h
      exact ⟨q', List.mem_cons_of_mem _ h1, h2⟩

def TableOK (P : Program) (globs : List Nat) (N : Nat) (T : Table) : Prop := ∀ q ∈ T, ∀ e ∈ q.2, e.f = q.1 ∧ EntryOK P globs N e

def ListOK (P : Program) (globs : List Nat) (N : Nat) (f : FuncId) (es : List Entry) : Prop := ∀ e ∈ es, e.f = f ∧ EntryOK P globs N e

theorem ListOK.nil {P : Program} {globs : List Nat} {N : Nat} {f : FuncId} : ListOK P globs N f [] := fun _ h => by cases h
theorem ListOK.cons {P : Program} {globs : List Nat} {N : Nat} {f : FuncId} {e : Entry} {es : List Entry} (h : EntryOK P globs N e) (hf : e.f = f) (t : ListOK P globs N f es) : ListOK P globs N f (e :: es) := fun x hx => by
  rcases List.mem_cons.1 hx with rfl | hx
  · exact ⟨hf, h⟩
  · exact t x hx
theorem TableOK.nil {P : Program} {globs : List Nat} {N : Nat} : TableOK P globs N [] := fun _ h => by cases h
theorem TableOK.cons {P : Program} {globs : List Nat} {N : Nat} {f : FuncId} {es : List Entry} {T : Table} (h : ListOK P globs N f es) (t : TableOK P globs N T) : TableOK P globs N ((f, es) :: T) := fun q hq => by
  rcases List.mem_cons.1 hq with rfl | hq
  · exact h
  · exact t q hq

theorem runM_ok {P : Program} (hm : P.follows .mixedOrders = true) {globs : List Nat} {N : Nat} (hN : ∀ g ∈ globs, g < N) {T : Table} (hT : TableOK P globs N T) {fuel : Nat} : ∀ n, COK P globs (runM P globs N T fuel n)
  | 0 => by
    constructor
    · intro _ _ _ _ _ _ _ _ h; cases h
    · intro _ _ _ _ _ _ _ _ _ h; cases h
  | n + 1 => by
    constructor
    · intro i args H H' v φ w xs h hh hx hg
      have h : (memoB N (T.find i) (aFunc P globs aDraw fuel i)).val (runM P globs N T fuel n) args H = some (v, H') := h
      have base : (aFunc P globs aDraw fuel i).val (runM P globs N T fuel n) args H = some (v, H') → NextOK P φ H w v H' (callFunc i xs.toArray) :=
        fun h => aFunc_ok (runM_ok hm hN hT n) (aDraw_ok hm) h hh hx hg
      unfold memoB at h
      split at h
      · exact base h
      · rename_i e l hel
        simp only at h
        split at h
        · rename_i r hr
          cases h
          obtain ⟨e', he, hr⟩ := tryEntries_some hr
          rw [← hel] at he
          obtain ⟨q, hq, hqf, heq⟩ := Table.find_mem he
          obtain ⟨h1, h2⟩ := hT q hq e' heq
          have := tryEntry_ok hN h2 hr hh hx hg
          rw [h1, hqf] at this
          exact this
        · exact base h
    · intro _ _ _ _ _ _ _ _ _ h hh hx hg hid; exact aYield_ok (runM_ok hm hN hT n) (aDraw_ok hm) h hh hx hg hid

end
end Go.Proofs.YtbokoinmlbipmaaGreatDoor.Ev

-- EvHead
namespace Go.Proofs.YtbokoinmlbipmaaGreatDoor.Ev
noncomputable section

def sizeAt (w : World) (g : Nat) : Nat := match w.heap[g]? with
  | some (.cells c _ _) => c.size
  | _ => 0

/-- The package's variables where they lie. -/
def baseEmb (N : Nat) (w : World) : Emb := fun g => if g < N then some ⟨g, 0, sizeAt w g⟩ else none

/-- A variable's block holds these values. -/
def Holds (w : World) (q : Nat × List AVal) : Prop := ∃ (c : Array Value) (e : TypeId) (fr : Nat × Nat), w.heap[q.1]? = some (.cells c e fr) ∧ All2 (VRel fun _ => none) q.2 c.toList

theorem base_rel {N : Nat} {needs : List (Nat × List AVal)} {w : World} (hl : N ≤ Heap.lim) (hN : N ≤ w.heap.size) (hn : ∀ q ∈ needs, q.1 < N ∧ Holds w q) : HRel (baseEmb N w) (setNeeds needs ⟨.nil, N⟩) w where
  next := by rw [setNeeds_next]; exact hl
  dom := fun id s e => by
    unfold baseEmb at e
    split at e
    · rename_i hi
      cases e
      exact ⟨by rw [setNeeds_next]; exact hi, by show id < _; omega⟩
    · cases e
  rows := fun id s r e hr _ => by
    unfold baseEmb at e
    split at e
    · rename_i hi
      cases e
      have hlim : id < Heap.lim := by omega
      rcases setNeeds_get needs _ id r (fun q hq => by have := (hn q hq).1; omega) hlim hr with ⟨l, hl', rfl⟩ | h
      · obtain ⟨-, c, t, fr, hc, hrel⟩ := hn _ hl'
        refine ⟨_, hc, .ro ⟨?_, ?_, ?_⟩⟩
        · unfold sizeAt; rw [hc]
        · have := hrel.length
          unfold sizeAt; rw [hc]
          simp only [Array.length_toList] at this
          simp only [Nat.zero_add]; omega
        · intro i v hv
          have hgen : ∀ {l : List AVal} {m : List Value}, All2 (VRel fun _ => none) l m → ∀ (i : Nat) v, l[i]? = some v → ∃ x, m[i]? = some x ∧ VRel (fun _ => none) v x := by
            intro l m h
            induction h with
            | nil => intro i v h; simp at h
            | cons h t ih =>
              intro i v hi
              cases i with
              | zero => simp at hi; subst hi; exact ⟨_, rfl, h⟩
              | succ i => simpa using ih i v (by simpa using hi)
          obtain ⟨x, hx, hr⟩ := hgen hrel i v hv
          refine ⟨x, ?_, hr.mono fun _ _ h => by cases h⟩
          rw [← Array.getElem?_toList]
          simpa using hx
      · have : (⟨.nil, N⟩ : Heap).get id = none := T8.get_empty _
        rw [this] at h; cases h
    · cases e
  inj := fun i j si sj ri rj ei ej hne hb hi hj hl => by
    have hil : i < Heap.lim := by
      unfold baseEmb at ei
      split at ei
      · omega
      · cases ei
    rcases setNeeds_get needs _ i ri (fun q hq => by have := (hn q hq).1; omega) hil hi with ⟨l, -, rfl⟩ | h
    · cases hl
    · have : (⟨.nil, N⟩ : Heap).get i = none := T8.get_empty _
      rw [this] at h; cases h

def isTrue (r : Res) : Bool := match r with | some q => yesV true q.1 | none => false

theorem yesV_true {v : AVal} (h : yesV true v = true) : v = .bool true := by
  cases v
  case bool b =>
    cases b
    · cases h
    · rfl
  all_goals cases h

/-- A closed check that has been run comes to true, and leaves all that was there as it was. -/
theorem closed_calls {P : Program} {globs : List Nat} {C : Caller} (hC : COK P globs C) {N : Nat} {needs : List (Nat × List AVal)} {f : FuncId} (hrun : isTrue (C.func f [] (setNeeds needs ⟨.nil, N⟩)) = true) (hent : enters P f = true)
    (hglob : ∀ g ∈ globs, g < N) {w : World} (hl : N ≤ Heap.lim) (hN : N ≤ w.heap.size) (hn : ∀ q ∈ needs, q.1 < N ∧ Holds w q) : Calls P f #[] w fun e w' => e = .returned (.bool true) ∧ Kept w w' := by
  unfold isTrue at hrun
  split at hrun
  · rename_i q hq
    have hh := base_rel hl hN hn
    have hg : Glob (baseEmb N w) globs := fun g hgm => ⟨sizeAt w g, by unfold baseEmb; rw [if_pos (hglob g hgm)]⟩
    have h := hC.func (v := q.1) (H' := q.2) (xs := []) hq hh .nil hg
    unfold NextOK at h
    rw [enters_run hent] at h
    have h : CallsIn Fence.wide 0 P f #[] w (RetPost (baseEmb N w) (setNeeds needs ⟨.nil, N⟩) w q.1 q.2) := h
    rw [callsIn_wide] at h
    refine h.mono ?_
    intro e w' hp
    cases e with
    | returned x =>
      obtain ⟨φ', hv, hh', hx⟩ := hp
      rw [yesV_true hrun] at hv
      cases hv
      refine ⟨rfl, hx.size, fun b hb => hx.keep b hb ?_, hx.os, hx.tape, hx.output⟩
      rintro ⟨id, s, r, es, -, hr, hlive⟩
      have hil := hh.lt_lim es
      rcases setNeeds_get needs _ id r (fun q hq => by have := (hn q hq).1; omega) hil hr with ⟨l, -, rfl⟩ | h
      · cases hlive
      · have : (⟨.nil, N⟩ : Heap).get id = none := T8.get_empty _
        rw [this] at h; cases h
    | panicked c => exact hp.elim
    | outgrown => exact hp.elim
  · cases hrun

end
end Go.Proofs.YtbokoinmlbipmaaGreatDoor.Ev
