import Derived.Test.YtbokoinmlbipmaaGreatDoorSy1

-- Wa
namespace Go.Proofs.YtbokoinmlbipmaaGreatDoor.Ev.Sy
open Go Go.Proofs.YtbokoinmlbipmaaGreatDoor.Ev Go.Proofs
noncomputable section
set_option linter.unusedSimpArgs false
set_option linter.unusedVariables false

/-! ### Data -/

structure Pay where
  k : Int
  t : Int
  f : Int
  a : Int
  deriving DecidableEq
structure Spl where
  k : Int
  q : Int
  n : Int
  f : Int
  u : Int
structure Ovr where
  k : Int
  t : Int
  p : Int
  l : Int
  f : Int
  u : Int
  n : Int
structure Dfc where
  t : Int
  c : Int
  f : Int
  u : Int
  n : Int
structure Frn where
  a : Int
  b : Int
  c : Int
  d : Int
  e : Int
  r : Int
structure Scr where
  f : Int
  u : Int
  sp : List Spl
  ov : List Ovr
  df : List Dfc
  py : List Pay
  fr : List Frn

abbrev i64 (n : Int) : AVal := .int .i64 n

instance : El Pay := ⟨4, fun x => [i64 x.k, i64 x.t, i64 x.f, i64 x.a], fun _ => rfl, by decide, fun _ => rfl⟩
instance : El Spl := ⟨5, fun x => [i64 x.k, i64 x.q, i64 x.n, i64 x.f, i64 x.u], fun _ => rfl, by decide, fun _ => rfl⟩
instance : El Ovr := ⟨7, fun x => [i64 x.k, i64 x.t, i64 x.p, i64 x.l, i64 x.f, i64 x.u, i64 x.n], fun _ => rfl, by decide, fun _ => rfl⟩
instance : El Dfc := ⟨5, fun x => [i64 x.t, i64 x.c, i64 x.f, i64 x.u, i64 x.n], fun _ => rfl, by decide, fun _ => rfl⟩
instance : El Frn := ⟨6, fun x => [i64 x.a, i64 x.b, i64 x.c, i64 x.d, i64 x.e, i64 x.r], fun _ => rfl, by decide, fun _ => rfl⟩
instance : El Int := ⟨1, fun x => [i64 x], fun _ => rfl, by decide, fun _ => rfl⟩

/-! ### Functions without memory -/

variable {T : Table} (hT : ∀ f, f ≠ 6 → (T.find f).val = []) {fuel : Nat} (hf : 1000 ≤ fuel)

/-- A run of the program with one known call, the check's. -/
abbrev R (T : Table) (fuel n : Nat) : Caller := runM P globs 11 T fuel n

include hT in
theorem call_eq {f n : Nat} (h : f ≠ 6) {b : Box (Caller → List AVal → Heap → Res)} (hb : aFunc P globs aDraw fuel f = b) (args : List AVal) (H : Heap) {Q : AVal × Heap → Prop} (k : Wp (b.val (R T fuel n) args H) Q) : Wp ((R T fuel (n + 1)).func f args H) Q := by
  show Wp ((runM P globs 11 T fuel (n + 1)).func f args H) Q
  rw [runM_func (hT f h), hb]; exact k

def momentB (n : Int) : Bool := decide (0 ≤ n) && decide (n ≤ 38399)

include hT in
theorem moment_run {n : Nat} (x : Int) (H : Heap) (Q : AVal × Heap → Prop) (h : Q (.bool (momentB x), H)) : Wp ((R T fuel (n + 1)).func 14 [i64 x] H) Q := by
  refine call_eq hT (by decide) (fn14 fuel) _ _ (wp_fBody (Nat.le_of_ble_eq_true rfl) ?_)
  unfold c14 r14_0 r14_1
  by_cases h0 : 0 ≤ x <;> by_cases h1 : x ≤ 38399 <;>
  simp (disch := first | decide | omega | (simp only [next_push, next_set] <;> omega) | fail) only [↓SB, ↓SO, SM, ↓SD, ↓SL, ST, @if_true, @if_false, ↓reduceIte, reduceCtorEq, Bool.false_eq_true, beq_self_eq_true, repL, Nat.reduceMul, Nat.reduceLeDiff, Nat.zero_le, Nat.zero_mul, Nat.reduceAdd, Int.reduceEq, Int.reduceLT, Int.reduceLE, Nat.zero_add, Nat.add_zero, h0, h1]
  all_goals (simpa [momentB, h0, h1] using h)

def reachF (k m u : Int) : Int × Int := if k = 1 then (m - 96, u + 96) else if k = 3 then (m, u + 48) else (m - 288, u + 288)

include hT in
theorem reach_run {n : Nat} (k m u : Int) (hm : -100000 ≤ m ∧ m ≤ 100000) (hu : -100000 ≤ u ∧ u ≤ 100000) (H : Heap) (Q : AVal × Heap → Prop) (h : Q (.tup [i64 (reachF k m u).1, i64 (reachF k m u).2], H)) :
    Wp ((R T fuel (n + 1)).func 23 [i64 k, i64 m, i64 u] H) Q := by
  refine call_eq hT (by decide) (fn23 fuel) _ _ (wp_fBody (Nat.le_of_ble_eq_true rfl) ?_)
  unfold c23 r23_0 r23_1 r23_2 r23_3 r23_4 r23_5 r23_6
  by_cases h0 : k = 1
  · subst h0
    simp (disch := first | decide | omega | (simp only [next_push, next_set] <;> omega) | fail) only [↓SB, ↓SO, SM, ↓SD, ↓SL, ST, @if_true, @if_false, ↓reduceIte, reduceCtorEq, Bool.false_eq_true, beq_self_eq_true, repL, Nat.reduceMul, Nat.reduceLeDiff, Nat.zero_le, Nat.zero_mul, Nat.reduceAdd, Int.reduceEq, Int.reduceLT, Int.reduceLE, Nat.zero_add, Nat.add_zero, ]
    exact h
  · by_cases h1 : k = 3
    · subst h1
      simp (disch := first | decide | omega | (simp only [next_push, next_set] <;> omega) | fail) only [↓SB, ↓SO, SM, ↓SD, ↓SL, ST, @if_true, @if_false, ↓reduceIte, reduceCtorEq, Bool.false_eq_true, beq_self_eq_true, repL, Nat.reduceMul, Nat.reduceLeDiff, Nat.zero_le, Nat.zero_mul, Nat.reduceAdd, Int.reduceEq, Int.reduceLT, Int.reduceLE, Nat.zero_add, Nat.add_zero, ]
      exact h
    · simp only [reachF, h0, h1, if_false] at h
      simp (disch := first | decide | omega | (simp only [next_push, next_set] <;> omega) | fail) only [↓SB, ↓SO, SM, ↓SD, ↓SL, ST, @if_true, @if_false, ↓reduceIte, reduceCtorEq, Bool.false_eq_true, beq_self_eq_true, repL, Nat.reduceMul, Nat.reduceLeDiff, Nat.zero_le, Nat.zero_mul, Nat.reduceAdd, Int.reduceEq, Int.reduceLT, Int.reduceLE, Nat.zero_add, Nat.add_zero, h0, h1]
      exact h

include hT in
theorem nan_run {n : Nat} (x : Int) (H : Heap) (Q : AVal × Heap → Prop) (h : Q (.bool false, H)) : Wp ((R T fuel (n + 1)).func 55 [i64 x] H) Q := by
  refine call_eq hT (by decide) (fn55 fuel) _ _ (wp_fBody (Nat.le_of_ble_eq_true rfl) ?_)
  unfold c55 r55_0 r55_1
  simp (disch := first | decide | omega | (simp only [next_push, next_set] <;> omega) | fail) only [↓SB, ↓SO, SM, ↓SD, ↓SL, ST, @if_true, @if_false, ↓reduceIte, reduceCtorEq, Bool.false_eq_true, beq_self_eq_true, repL, Nat.reduceMul, Nat.reduceLeDiff, Nat.zero_le, Nat.zero_mul, Nat.reduceAdd, Int.reduceEq, Int.reduceLT, Int.reduceLE, Nat.zero_add, Nat.add_zero, ne_eq, not_true_eq_false]
  exact h

def cmpF (x y : Int) : Int := if x < y then -1 else if y < x then 1 else 0

include hT in
theorem cmp_run {n : Nat} (x y : Int) (H : Heap) (Q : AVal × Heap → Prop) (h : Q (i64 (cmpF x y), H)) : Wp ((R T fuel (n + 2)).func 27 [i64 x, i64 y] H) Q := by
  refine call_eq hT (by decide) (fn27 fuel) _ _ (wp_fBody (Nat.le_of_ble_eq_true rfl) ?_)
  unfold c27 r27_0 r27_1 r27_2 r27_3 r27_4 r27_5 r27_6 r27_7 r27_8 r27_9 r27_10 r27_11 r27_12 r27_13
  simp (disch := first | decide | omega | (simp only [next_push, next_set] <;> omega) | fail) only [↓SB, ↓SO, SM, ↓SD, ↓SL, ST, @if_true, @if_false, ↓reduceIte, reduceCtorEq, Bool.false_eq_true, beq_self_eq_true, repL, Nat.reduceMul, Nat.reduceLeDiff, Nat.zero_le, Nat.zero_mul, Nat.reduceAdd, Int.reduceEq, Int.reduceLT, Int.reduceLE, Nat.zero_add, Nat.add_zero, ]
  refine nan_run hT x H _ ?_
  simp (disch := first | decide | omega | (simp only [next_push, next_set] <;> omega) | fail) only [↓SB, ↓SO, SM, ↓SD, ↓SL, ST, @if_true, @if_false, ↓reduceIte, reduceCtorEq, Bool.false_eq_true, beq_self_eq_true, repL, Nat.reduceMul, Nat.reduceLeDiff, Nat.zero_le, Nat.zero_mul, Nat.reduceAdd, Int.reduceEq, Int.reduceLT, Int.reduceLE, Nat.zero_add, Nat.add_zero, ]
  refine nan_run hT y H _ ?_
  by_cases h0 : x < y
  · simp only [cmpF, h0, if_true] at h
    simp (disch := first | decide | omega | (simp only [next_push, next_set] <;> omega) | fail) only [↓SB, ↓SO, SM, ↓SD, ↓SL, ST, @if_true, @if_false, ↓reduceIte, reduceCtorEq, Bool.false_eq_true, beq_self_eq_true, repL, Nat.reduceMul, Nat.reduceLeDiff, Nat.zero_le, Nat.zero_mul, Nat.reduceAdd, Int.reduceEq, Int.reduceLT, Int.reduceLE, Nat.zero_add, Nat.add_zero, h0]
    exact h
  · by_cases h1 : y < x
    · simp only [cmpF, h0, h1, if_true, if_false] at h
      simp (disch := first | decide | omega | (simp only [next_push, next_set] <;> omega) | fail) only [↓SB, ↓SO, SM, ↓SD, ↓SL, ST, @if_true, @if_false, ↓reduceIte, reduceCtorEq, Bool.false_eq_true, beq_self_eq_true, repL, Nat.reduceMul, Nat.reduceLeDiff, Nat.zero_le, Nat.zero_mul, Nat.reduceAdd, Int.reduceEq, Int.reduceLT, Int.reduceLE, Nat.zero_add, Nat.add_zero, h0, h1]
      exact h
    · simp only [cmpF, h0, h1, if_false] at h
      simp (disch := first | decide | omega | (simp only [next_push, next_set] <;> omega) | fail) only [↓SB, ↓SO, SM, ↓SD, ↓SL, ST, @if_true, @if_false, ↓reduceIte, reduceCtorEq, Bool.false_eq_true, beq_self_eq_true, repL, Nat.reduceMul, Nat.reduceLeDiff, Nat.zero_le, Nat.zero_mul, Nat.reduceAdd, Int.reduceEq, Int.reduceLT, Int.reduceLE, Nat.zero_add, Nat.add_zero, h0, h1]
      exact h

end
end Go.Proofs.YtbokoinmlbipmaaGreatDoor.Ev.Sy

-- Wb
namespace Go.Proofs.YtbokoinmlbipmaaGreatDoor.Ev.Sy
open Go Go.Proofs.YtbokoinmlbipmaaGreatDoor.Ev Go.Proofs
noncomputable section
set_option linter.unusedSimpArgs false
set_option linter.unusedVariables false

variable {T : Table} (hT : ∀ f, f ≠ 6 → (T.find f).val = []) {fuel : Nat} (hf : 1000 ≤ fuel)

/-- A script's value, its slices a b d e g. -/
abbrev scV (c : Scr) (a b d e g : AVal) : AVal := .agg [i64 c.f, i64 c.u, a, b, d, e, g]
structure ScIs (H : Heap) (a b d e g : AVal) (c : Scr) : Prop where
  sp : Is H a c.sp
  ov : Is H b c.ov
  df : Is H d c.df
  py : Is H e c.py
  fr : Is H g c.fr

def fewB (c : Scr) : Bool := decide ((c.sp.length : Int) ≤ 8) && decide ((c.ov.length : Int) ≤ 8) && decide ((c.df.length : Int) ≤ 8) && decide ((c.py.length : Int) ≤ 12) && decide ((c.fr.length : Int) ≤ 8)

include hT in
theorem few_run {n : Nat} {c : Scr} {a b d e g : AVal} {H : Heap} (hc : ScIs H a b d e g c) (hl : H.next < 32768) (Q : AVal × Heap → Prop)
    (h : ∀ H', Fr H.next (fun _ => False) H H' → H'.next = H.next + 1 → Q (.bool (fewB c), H')) : Wp ((R T fuel (n + 1)).func 7 [scV c a b d e g] H) Q := by
  refine call_eq hT (by decide) (fn7 fuel) _ _ (wp_fBody (Nat.le_of_ble_eq_true rfl) ?_)
  have h' := h (H.push (.cells 28 [i64 c.f, i64 c.u, a, b, d, e, g] false 0 false)) ((Fr.refl _ _ _).push (Nat.le_refl _) hl _) rfl
  have l1 := hc.sp.length su22
  have l2 := hc.ov.length su23
  have l3 := hc.df.length su24
  have l4 := hc.py.length su25
  have l5 := hc.fr.length su26
  unfold c7 r7_0 r7_1
  by_cases h1 : (c.sp.length : Int) ≤ 8
  · by_cases h2 : (c.ov.length : Int) ≤ 8
    · by_cases h3 : (c.df.length : Int) ≤ 8
      · by_cases h4 : (c.py.length : Int) ≤ 12
        · by_cases h5 : (c.fr.length : Int) ≤ 8
          · simp (disch := first | decide | omega | (simp only [next_push, next_set] <;> omega) | fail) only [↓SB, ↓SO, SM, ↓SD, ↓SL, ST, @if_true, @if_false, ↓reduceIte, reduceCtorEq, Bool.false_eq_true, beq_self_eq_true, repL, Nat.reduceMul, Nat.reduceLeDiff, Nat.zero_le, Nat.zero_mul, Nat.reduceAdd, Int.reduceEq, Int.reduceLT, Int.reduceLE, Nat.zero_add, Nat.add_zero, l1, l2, l3, l4, l5, h1, h2, h3, h4, h5]
            simpa [fewB, h1, h2, h3, h4, h5] using h'
          · simp (disch := first | decide | omega | (simp only [next_push, next_set] <;> omega) | fail) only [↓SB, ↓SO, SM, ↓SD, ↓SL, ST, @if_true, @if_false, ↓reduceIte, reduceCtorEq, Bool.false_eq_true, beq_self_eq_true, repL, Nat.reduceMul, Nat.reduceLeDiff, Nat.zero_le, Nat.zero_mul, Nat.reduceAdd, Int.reduceEq, Int.reduceLT, Int.reduceLE, Nat.zero_add, Nat.add_zero, l1, l2, l3, l4, l5, h1, h2, h3, h4, h5]
            simpa [fewB, h1, h2, h3, h4, h5] using h'
        · simp (disch := first | decide | omega | (simp only [next_push, next_set] <;> omega) | fail) only [↓SB, ↓SO, SM, ↓SD, ↓SL, ST, @if_true, @if_false, ↓reduceIte, reduceCtorEq, Bool.false_eq_true, beq_self_eq_true, repL, Nat.reduceMul, Nat.reduceLeDiff, Nat.zero_le, Nat.zero_mul, Nat.reduceAdd, Int.reduceEq, Int.reduceLT, Int.reduceLE, Nat.zero_add, Nat.add_zero, l1, l2, l3, l4, l5, h1, h2, h3, h4]
          simpa [fewB, h1, h2, h3, h4] using h'
      · simp (disch := first | decide | omega | (simp only [next_push, next_set] <;> omega) | fail) only [↓SB, ↓SO, SM, ↓SD, ↓SL, ST, @if_true, @if_false, ↓reduceIte, reduceCtorEq, Bool.false_eq_true, beq_self_eq_true, repL, Nat.reduceMul, Nat.reduceLeDiff, Nat.zero_le, Nat.zero_mul, Nat.reduceAdd, Int.reduceEq, Int.reduceLT, Int.reduceLE, Nat.zero_add, Nat.add_zero, l1, l2, l3, l4, l5, h1, h2, h3]
        simpa [fewB, h1, h2, h3] using h'
    · simp (disch := first | decide | omega | (simp only [next_push, next_set] <;> omega) | fail) only [↓SB, ↓SO, SM, ↓SD, ↓SL, ST, @if_true, @if_false, ↓reduceIte, reduceCtorEq, Bool.false_eq_true, beq_self_eq_true, repL, Nat.reduceMul, Nat.reduceLeDiff, Nat.zero_le, Nat.zero_mul, Nat.reduceAdd, Int.reduceEq, Int.reduceLT, Int.reduceLE, Nat.zero_add, Nat.add_zero, l1, l2, l3, l4, l5, h1, h2]
      simpa [fewB, h1, h2] using h'
  · simp (disch := first | decide | omega | (simp only [next_push, next_set] <;> omega) | fail) only [↓SB, ↓SO, SM, ↓SD, ↓SL, ST, @if_true, @if_false, ↓reduceIte, reduceCtorEq, Bool.false_eq_true, beq_self_eq_true, repL, Nat.reduceMul, Nat.reduceLeDiff, Nat.zero_le, Nat.zero_mul, Nat.reduceAdd, Int.reduceEq, Int.reduceLT, Int.reduceLE, Nat.zero_add, Nat.add_zero, l1, l2, l3, l4, l5, h1]
    simpa [fewB, h1] using h'

end
end Go.Proofs.YtbokoinmlbipmaaGreatDoor.Ev.Sy

-- Wc
namespace Go.Proofs.YtbokoinmlbipmaaGreatDoor.Ev.Sy
open Go Go.Proofs.YtbokoinmlbipmaaGreatDoor.Ev Go.Proofs
noncomputable section
set_option linter.unusedSimpArgs false
set_option linter.unusedVariables false

variable {T : Table} (hT : ∀ f, f ≠ 6 → (T.find f).val = []) {fuel : Nat} (hf : 1000 ≤ fuel)

def orF : List Int → Int
  | [] => 0
  | x :: l => if x = 0 then orF l else x

include hT hf in
theorem or_run {n : Nat} {v : AVal} {xs : List Int} {H : Heap} (hv : Is H v xs) (hx : xs.length < 1000) (Q : AVal × Heap → Prop) (h : Q (i64 (orF xs), H)) : Wp ((R T fuel (n + 1)).func 26 [v] H) Q := by
  refine call_eq hT (by decide) (fn26 fuel) _ _ (wp_fBody (Nat.le_of_ble_eq_true rfl) ?_)
  have l1 := hv.length su55
  unfold c26 r26_0 r26_1 r26_2 r26_8
  simp (disch := first | decide | omega | (simp only [next_push, next_set] <;> omega) | fail) only [↓SB, ↓SO, SM, ↓SD, ↓SL, ST, @if_true, @if_false, ↓reduceIte, reduceCtorEq, Bool.false_eq_true, beq_self_eq_true, repL, Nat.reduceMul, Nat.reduceLeDiff, Nat.zero_le, Nat.zero_mul, Nat.reduceAdd, Int.reduceEq, Int.reduceLT, Int.reduceLE, Nat.zero_add, Nat.add_zero, l1]
  refine wp_loop (fun k s => ∃ e i, s = ⟨e, [], H⟩ ∧ i + k = xs.length ∧ xt 2 6 e = v ∧ xt 2 7 e = i64 xs.length ∧ xt 2 8 e = i64 i ∧ xt 2 3 e = i64 0 ∧ orF (xs.drop i) = orF xs) ?_ (k := xs.length) (by omega)
    ⟨_, 0, rfl, by omega, by simp (disch := first | decide | omega | (simp only [next_push, next_set] <;> omega) | fail) only [↓SB, ↓SO, SM, ↓SD, ↓SL, ST, @if_true, @if_false, ↓reduceIte, reduceCtorEq, Bool.false_eq_true, beq_self_eq_true, repL, Nat.reduceMul, Nat.reduceLeDiff, Nat.zero_le, Nat.zero_mul, Nat.reduceAdd, Int.reduceEq, Int.reduceLT, Int.reduceLE, Nat.zero_add, Nat.add_zero, ], by simp (disch := first | decide | omega | (simp only [next_push, next_set] <;> omega) | fail) only [↓SB, ↓SO, SM, ↓SD, ↓SL, ST, @if_true, @if_false, ↓reduceIte, reduceCtorEq, Bool.false_eq_true, beq_self_eq_true, repL, Nat.reduceMul, Nat.reduceLeDiff, Nat.zero_le, Nat.zero_mul, Nat.reduceAdd, Int.reduceEq, Int.reduceLT, Int.reduceLE, Nat.zero_add, Nat.add_zero, ], by simp (disch := first | decide | omega | (simp only [next_push, next_set] <;> omega) | fail) only [↓SB, ↓SO, SM, ↓SD, ↓SL, ST, @if_true, @if_false, ↓reduceIte, reduceCtorEq, Bool.false_eq_true, beq_self_eq_true, repL, Nat.reduceMul, Nat.reduceLeDiff, Nat.zero_le, Nat.zero_mul, Nat.reduceAdd, Int.reduceEq, Int.reduceLT, Int.reduceLE, Nat.zero_add, Nat.add_zero, ]; rfl, by simp (disch := first | decide | omega | (simp only [next_push, next_set] <;> omega) | fail) only [↓SB, ↓SO, SM, ↓SD, ↓SL, ST, @if_true, @if_false, ↓reduceIte, reduceCtorEq, Bool.false_eq_true, beq_self_eq_true, repL, Nat.reduceMul, Nat.reduceLeDiff, Nat.zero_le, Nat.zero_mul, Nat.reduceAdd, Int.reduceEq, Int.reduceLT, Int.reduceLE, Nat.zero_add, Nat.add_zero, ], rfl⟩
  rintro k s ⟨e, i, rfl, hk, h6, h7, h8, h3, ho⟩
  unfold r26_3 r26_4 r26_5 r26_6 r26_7
  by_cases hi : i < xs.length
  · have hi' : (i : Int) < (xs.length : Int) := by omega
    obtain ⟨a, o, r, l, ha, -, hal, hg, hr, hb, ht⟩ := hv.get su55 sz3 .i64 hi
    have hl := take_at ht (k := 0) rfl
    rw [List.drop_eq_getElem_cons hi, orF] at ho
    rw [Nat.add_zero] at hl
    by_cases hz : xs[i] = 0
    · simp (disch := first | decide | omega | (simp only [next_push, next_set] <;> omega) | fail) only [↓SB, ↓SO, SM, ↓SD, ↓SL, ST, @if_true, @if_false, ↓reduceIte, reduceCtorEq, Bool.false_eq_true, beq_self_eq_true, repL, Nat.reduceMul, Nat.reduceLeDiff, Nat.zero_le, Nat.zero_mul, Nat.reduceAdd, Int.reduceEq, Int.reduceLT, Int.reduceLE, Nat.zero_add, Nat.add_zero, h3, h6, h7, h8, hi', ha, hg, hr, hl, hz, ne_eq, not_true_eq_false]
      refine ⟨k - 1, by omega, _, i + 1, rfl, by omega, by simp (disch := first | decide | omega | (simp only [next_push, next_set] <;> omega) | fail) only [↓SB, ↓SO, SM, ↓SD, ↓SL, ST, @if_true, @if_false, ↓reduceIte, reduceCtorEq, Bool.false_eq_true, beq_self_eq_true, repL, Nat.reduceMul, Nat.reduceLeDiff, Nat.zero_le, Nat.zero_mul, Nat.reduceAdd, Int.reduceEq, Int.reduceLT, Int.reduceLE, Nat.zero_add, Nat.add_zero, h6], by simp (disch := first | decide | omega | (simp only [next_push, next_set] <;> omega) | fail) only [↓SB, ↓SO, SM, ↓SD, ↓SL, ST, @if_true, @if_false, ↓reduceIte, reduceCtorEq, Bool.false_eq_true, beq_self_eq_true, repL, Nat.reduceMul, Nat.reduceLeDiff, Nat.zero_le, Nat.zero_mul, Nat.reduceAdd, Int.reduceEq, Int.reduceLT, Int.reduceLE, Nat.zero_add, Nat.add_zero, h7], ?_, by simp (disch := first | decide | omega | (simp only [next_push, next_set] <;> omega) | fail) only [↓SB, ↓SO, SM, ↓SD, ↓SL, ST, @if_true, @if_false, ↓reduceIte, reduceCtorEq, Bool.false_eq_true, beq_self_eq_true, repL, Nat.reduceMul, Nat.reduceLeDiff, Nat.zero_le, Nat.zero_mul, Nat.reduceAdd, Int.reduceEq, Int.reduceLT, Int.reduceLE, Nat.zero_add, Nat.add_zero, h3], ?_⟩
      · simp (disch := first | decide | omega | (simp only [next_push, next_set] <;> omega) | fail) only [↓SB, ↓SO, SM, ↓SD, ↓SL, ST, @if_true, @if_false, ↓reduceIte, reduceCtorEq, Bool.false_eq_true, beq_self_eq_true, repL, Nat.reduceMul, Nat.reduceLeDiff, Nat.zero_le, Nat.zero_mul, Nat.reduceAdd, Int.reduceEq, Int.reduceLT, Int.reduceLE, Nat.zero_add, Nat.add_zero, ]; rfl
      · rw [if_pos hz] at ho; exact ho
    · simp (disch := first | decide | omega | (simp only [next_push, next_set] <;> omega) | fail) only [↓SB, ↓SO, SM, ↓SD, ↓SL, ST, @if_true, @if_false, ↓reduceIte, reduceCtorEq, Bool.false_eq_true, beq_self_eq_true, repL, Nat.reduceMul, Nat.reduceLeDiff, Nat.zero_le, Nat.zero_mul, Nat.reduceAdd, Int.reduceEq, Int.reduceLT, Int.reduceLE, Nat.zero_add, Nat.add_zero, h3, h6, h7, h8, hi', ha, hg, hr, hl, hz, ne_eq, not_false_eq_true]
      rw [if_neg hz] at ho
      rw [ho]; exact h
  · have hi' : ¬ (i : Int) < (xs.length : Int) := by omega
    simp (disch := first | decide | omega | (simp only [next_push, next_set] <;> omega) | fail) only [↓SB, ↓SO, SM, ↓SD, ↓SL, ST, @if_true, @if_false, ↓reduceIte, reduceCtorEq, Bool.false_eq_true, beq_self_eq_true, repL, Nat.reduceMul, Nat.reduceLeDiff, Nat.zero_le, Nat.zero_mul, Nat.reduceAdd, Int.reduceEq, Int.reduceLT, Int.reduceLE, Nat.zero_add, Nat.add_zero, h3, h6, h7, h8, hi']
    rw [List.drop_of_length_le (by omega)] at ho
    rw [← ho] at h; exact h

end
end Go.Proofs.YtbokoinmlbipmaaGreatDoor.Ev.Sy

-- Wd
namespace Go.Proofs.YtbokoinmlbipmaaGreatDoor.Ev.Sy
open Go Go.Proofs.YtbokoinmlbipmaaGreatDoor.Ev Go.Proofs
noncomputable section
set_option linter.unusedSimpArgs false
set_option linter.unusedVariables false

variable {T : Table} (hT : ∀ f, f ≠ 6 → (T.find f).val = []) {fuel : Nat} (hf : 1000 ≤ fuel)

def payCmp (x y : Pay) : Int := orF [cmpF x.k y.k, cmpF x.t y.t, cmpF x.f y.f, cmpF x.a y.a]

include hT hf in
theorem payCmp_run {n : Nat} (x y : Pay) (H : Heap) (hl : H.next + 10 ≤ 32768) (Q : AVal × Heap → Prop)
    (h : ∀ H', Fr H.next (fun _ => False) H H' → H'.next = H.next + 3 → Q (i64 (payCmp x y), H')) : Wp ((R T fuel (n + 3)).func 25 [.agg (El.ce x), .agg (El.ce y)] H) Q := by
  refine call_eq hT (by decide) (fn25 fuel) _ _ (wp_fBody (Nat.le_of_ble_eq_true rfl) ?_)
  unfold c25 r25_0 r25_1
  show Wp (((cSeq _ _)).val (R T fuel (n + 2)) ⟨setArgs 2 [.agg [i64 x.k, i64 x.t, i64 x.f, i64 x.a], .agg [i64 y.k, i64 y.t, i64 y.f, i64 y.a]] 0 .nil, [], H⟩) _
  have e27 : ∀ (x y : Int) (H : Heap), (R T fuel (n + 2)).func 27 [i64 x, i64 y] H = some (i64 (cmpF x y), H) := fun x y H => by
    obtain ⟨q, h1, h2⟩ := cmp_run hT (n := n) x y H (· = (i64 (cmpF x y), H)) rfl
    rw [h1, h2]
  simp (disch := first | decide | omega | (simp only [next_push, next_set] <;> omega) | fail) only [↓SB, ↓SO, SM, ↓SD, ↓SL, ST, @if_true, @if_false, ↓reduceIte, reduceCtorEq, Bool.false_eq_true, beq_self_eq_true, repL, Nat.reduceMul, Nat.reduceLeDiff, Nat.zero_le, Nat.zero_mul, Nat.reduceAdd, Int.reduceEq, Int.reduceLT, Int.reduceLE, Nat.zero_add, Nat.add_zero, ↓wd_R rd25_1_1, pend_ld rd25_1_1, ↓wd_R rd25_1_3, pend_ld rd25_1_3, ↓wd_R rd25_1_6, pend_ld rd25_1_6, ↓wd_R rd25_1_8, pend_ld rd25_1_8, ↓wd_R rd25_1_11, pend_ld rd25_1_11, ↓wd_R rd25_1_13, pend_ld rd25_1_13, ↓wd_R rd25_1_16, pend_ld rd25_1_16, ↓wd_R rd25_1_18, pend_ld rd25_1_18, e27]
  refine or_run hT hf (xs := [cmpF x.k y.k, cmpF x.t y.t, cmpF x.f y.f, cmpF x.a y.a]) ?_ ?_ _ ?_
  · exact is_built (get_push_same _ _ (by simp only [next_push])) rfl rfl (by simp only [next_push]; omega)
  · show (4 : Nat) < 1000; decide
  simp (disch := first | decide | omega | (simp only [next_push, next_set] <;> omega) | fail) only [↓SB, ↓SO, SM, ↓SD, ↓SL, ST, @if_true, @if_false, ↓reduceIte, reduceCtorEq, Bool.false_eq_true, beq_self_eq_true, repL, Nat.reduceMul, Nat.reduceLeDiff, Nat.zero_le, Nat.zero_mul, Nat.reduceAdd, Int.reduceEq, Int.reduceLT, Int.reduceLE, Nat.zero_add, Nat.add_zero, ]
  exact h _ ((((Fr.refl _ _ H).push (Nat.le_refl _) (by omega) _).push (by simp only [next_push]; omega) (by simp only [next_push]; omega) _).push (by simp only [next_push]; omega) (by simp only [next_push]; omega) _) rfl

end
end Go.Proofs.YtbokoinmlbipmaaGreatDoor.Ev.Sy

-- We
namespace Go.Proofs.YtbokoinmlbipmaaGreatDoor.Ev.Sy
open Go Go.Proofs.YtbokoinmlbipmaaGreatDoor.Ev Go.Proofs
noncomputable section
set_option linter.unusedSimpArgs false
set_option linter.unusedVariables false

/-! ### The order -/

def plt (x y : Pay) : Prop := x.k < y.k ∨ x.k = y.k ∧ (x.t < y.t ∨ x.t = y.t ∧ (x.f < y.f ∨ x.f = y.f ∧ x.a < y.a))
theorem payCmp_neg (x y : Pay) : payCmp x y < 0 ↔ plt x y := by
  unfold payCmp plt
  simp only [orF]
  have e : ∀ a b : Int, (cmpF a b = 0 ↔ a = b) ∧ (cmpF a b < 0 ↔ a < b) := by
    intro a b; unfold cmpF
    by_cases h : a < b
    · rw [if_pos h]; omega
    · rw [if_neg h]
      by_cases h2 : b < a
      · rw [if_pos h2]; omega
      · rw [if_neg h2]; omega
  by_cases h1 : x.k = y.k
  · rw [if_pos ((e _ _).1.2 h1)]
    by_cases h2 : x.t = y.t
    · rw [if_pos ((e _ _).1.2 h2)]
      by_cases h3 : x.f = y.f
      · rw [if_pos ((e _ _).1.2 h3)]
        by_cases h4 : x.a = y.a
        · rw [if_pos ((e _ _).1.2 h4)]; omega
        · rw [if_neg (fun c => h4 ((e _ _).1.1 c)), (e _ _).2]; omega
      · rw [if_neg (fun c => h3 ((e _ _).1.1 c)), (e _ _).2]; omega
    · rw [if_neg (fun c => h2 ((e _ _).1.1 c)), (e _ _).2]; omega
  · rw [if_neg (fun c => h1 ((e _ _).1.1 c)), (e _ _).2]; omega

theorem plt_trans {x y z : Pay} (h : ¬ plt y x) (k : ¬ plt z y) : ¬ plt z x := by unfold plt at *; omega
theorem plt_asymm {x y : Pay} (h : plt x y) : ¬ plt y x := by unfold plt at *; omega
theorem plt_eq {x y : Pay} (h : ¬ plt x y) (k : ¬ plt y x) : x = y := by
  cases x; cases y
  unfold plt at *
  simp only [Pay.mk.injEq] at *
  omega

/-- Sorted: none comes before one that stands ahead of it. -/
abbrev Srt (l : List Pay) : Prop := l.Pairwise fun x y => ¬ plt y x

theorem ins_done {A B : List Pay} {p : Pay} (h : Srt (A ++ B)) (hB : ∀ b ∈ B, plt p b) (hA : A = [] ∨ ∃ A' q, A = A' ++ [q] ∧ ¬ plt p q) : Srt (A ++ p :: B) := by
  obtain ⟨h1, h2, h3⟩ := List.pairwise_append.1 h
  refine List.pairwise_append.2 ⟨h1, List.pairwise_cons.2 ⟨fun b hb => plt_asymm (hB b hb), h2⟩, ?_⟩
  intro a ha b hb
  rcases List.mem_cons.1 hb with rfl | hb
  · rcases hA with rfl | ⟨A', q, rfl, hq⟩
    · cases ha
    · rcases List.mem_append.1 ha with ha | ha
      · have := (List.pairwise_append.1 h1).2.2 a ha q (by simp)
        exact plt_trans this hq
      · rw [List.mem_singleton] at ha; subst ha; exact hq
  · exact h3 a ha b hb

/-! ### Elements in the middle of a list -/

theorem flat_mid {α : Type} [El α] (A R : List α) (p : α) : ((flat (A ++ p :: R)).drop (A.length * El.sz α)).take (El.sz α) = El.ce p := by
  have := flat_at (A ++ p :: R) A.length (by simp)
  rw [this]; simp
theorem flat_put {α : Type} [El α] (A R : List α) (p q : α) : splice (flat (A ++ p :: R)) (A.length * El.sz α) (El.ce q) = flat (A ++ q :: R) := by
  unfold splice
  rw [flat_append, flat_cons, flat_append, flat_cons, El.len]
  have h1 := flat_len A
  rw [List.take_append_of_le_length (by omega), List.take_of_length_le (by omega), ← h1]
  rw [List.drop_append, List.drop_of_length_le (by omega), List.nil_append]
  have : (flat A).length + El.sz α - (flat A).length = El.sz α := by omega
  rw [this, List.drop_append, List.drop_of_length_le (by rw [El.len]; omega), List.nil_append, El.len]
  simp

end
end Go.Proofs.YtbokoinmlbipmaaGreatDoor.Ev.Sy

-- Wf
namespace Go.Proofs.YtbokoinmlbipmaaGreatDoor.Ev.Sy
open Go Go.Proofs.YtbokoinmlbipmaaGreatDoor.Ev Go.Proofs
noncomputable section
set_option linter.unusedSimpArgs false
set_option linter.unusedVariables false

variable {T : Table} (hT : ∀ f, f ≠ 6 → (T.find f).val = []) {fuel : Nat} (hf : 1000 ≤ fuel)

theorem bp (N : Nat) (p : Pay) : belowFL N (El.ce p) = true ↔ True := ⟨fun _ => trivial, fun _ => rfl⟩
theorem lp (p : Pay) : (El.ce p : List AVal).length = 4 := rfl
theorem sp (p : Pay) : (El.ce p : List AVal).all scalarB = true := rfl

/-- The inner loop: the element p goes down to its place. -/
def Inn (H : Heap) (i m : Nat) (o : Bool) (v : AVal) (xs : List Pay) (p : Pay) (C : List Pay) (a N : Nat) (k : Nat) (s : ASt) : Prop :=
  ∃ e H2 A B, s = ⟨e, [], H2⟩ ∧ List.length A = k ∧ xt 2 0 e = v ∧ xt 2 1 e = i64 0 ∧ xt 2 2 e = i64 m ∧ xt 2 3 e = .func 25 [] [] ∧ xt 2 8 e = i64 a ∧ xt 2 9 e = i64 k ∧
    H2.get i = some (.cells 45 (flat (A ++ p :: (B ++ C))) o 0 false) ∧ (A ++ p :: (B ++ C)).Perm xs ∧ Srt (A ++ B) ∧ (∀ b ∈ B, plt p b) ∧ A.length + B.length = a ∧ Fr H.next (· = i) H H2 ∧ H2.next + 3 * k ≤ N

include hT hf in
theorem inner_run {n : Nat} {H : Heap} {i m : Nat} {o : Bool} {xs : List Pay} {p : Pay} {C : List Pay} {a N : Nat} (hi : i < H.next) (ham : a < m) (hm : m ≤ 12) (hN : N + 10 ≤ 32768) {Q : AExit × ASt → Prop} {k : Nat} {s : ASt} (hs : Inn H i m o (.sliceO i 0 m 4) xs p C a N k s)
    (h : ∀ e H2 L, List.length L = a + 1 → xt 2 0 e = .sliceO i 0 m 4 → xt 2 1 e = i64 0 → xt 2 2 e = i64 m → xt 2 3 e = .func 25 [] [] → xt 2 8 e = i64 a → H2.get i = some (.cells 45 (flat (L ++ C)) o 0 false) → (L ++ C).Perm xs → Srt L → Fr H.next (· = i) H H2 → H2.next ≤ N → Q (.exit 2, ⟨e, [], H2⟩)) (hk : k < fuel) :
    Wp ((cLoop fuel (cSeq (cSeq r114_4 (cIf (xt 2 34) cSkip (cExit 2))) (cSeq (cBlk 3 r114_6) r114_5))).val (R T fuel (n + 3)) s) Q := by
  refine wp_loop (Inn H i m o (.sliceO i 0 m 4) xs p C a N) ?_ hk hs
  rintro k s ⟨e, H2, A, B, rfl, hA, h0, h1, h2, h3, h8, h9, hg, hp, hso, hB, hAB, hfr, hn⟩
  unfold r114_4 r114_6 r114_5
  have hi2 : i < H2.next := Nat.lt_of_lt_of_le hi hfr.le
  rcases List.eq_nil_or_concat A with rfl | ⟨A', q, rfl⟩
  · simp only [List.length_nil] at hA hAB
    subst hA
    simp (disch := first | decide | omega | (simp only [next_push, next_set] <;> omega) | fail) only [↓SB, ↓SO, SM, ↓SD, ↓SL, ST, @if_true, @if_false, ↓reduceIte, reduceCtorEq, Bool.false_eq_true, beq_self_eq_true, repL, Nat.reduceMul, Nat.reduceLeDiff, Nat.zero_le, Nat.zero_mul, Nat.reduceAdd, Int.reduceEq, Int.reduceLT, Int.reduceLE, Nat.zero_add, Nat.add_zero, h0, h1, h2, h3, h8, h9, Int.natCast_zero, Int.ofNat_zero, Int.lt_irrefl, ↓wd_R rd114_4_8, pend_ld rd114_4_8, ↓wd_R rd114_4_13, pend_ld rd114_4_13]
    refine h _ _ (p :: B) (by simp only [List.length_cons]; omega) (by simp (disch := first | decide | omega | (simp only [next_push, next_set] <;> omega) | fail) only [↓SB, ↓SO, SM, ↓SD, ↓SL, ST, @if_true, @if_false, ↓reduceIte, reduceCtorEq, Bool.false_eq_true, beq_self_eq_true, repL, Nat.reduceMul, Nat.reduceLeDiff, Nat.zero_le, Nat.zero_mul, Nat.reduceAdd, Int.reduceEq, Int.reduceLT, Int.reduceLE, Nat.zero_add, Nat.add_zero, h0]) (by simp (disch := first | decide | omega | (simp only [next_push, next_set] <;> omega) | fail) only [↓SB, ↓SO, SM, ↓SD, ↓SL, ST, @if_true, @if_false, ↓reduceIte, reduceCtorEq, Bool.false_eq_true, beq_self_eq_true, repL, Nat.reduceMul, Nat.reduceLeDiff, Nat.zero_le, Nat.zero_mul, Nat.reduceAdd, Int.reduceEq, Int.reduceLT, Int.reduceLE, Nat.zero_add, Nat.add_zero, h1]) (by simp (disch := first | decide | omega | (simp only [next_push, next_set] <;> omega) | fail) only [↓SB, ↓SO, SM, ↓SD, ↓SL, ST, @if_true, @if_false, ↓reduceIte, reduceCtorEq, Bool.false_eq_true, beq_self_eq_true, repL, Nat.reduceMul, Nat.reduceLeDiff, Nat.zero_le, Nat.zero_mul, Nat.reduceAdd, Int.reduceEq, Int.reduceLT, Int.reduceLE, Nat.zero_add, Nat.add_zero, h2]) (by simp (disch := first | decide | omega | (simp only [next_push, next_set] <;> omega) | fail) only [↓SB, ↓SO, SM, ↓SD, ↓SL, ST, @if_true, @if_false, ↓reduceIte, reduceCtorEq, Bool.false_eq_true, beq_self_eq_true, repL, Nat.reduceMul, Nat.reduceLeDiff, Nat.zero_le, Nat.zero_mul, Nat.reduceAdd, Int.reduceEq, Int.reduceLT, Int.reduceLE, Nat.zero_add, Nat.add_zero, h3]) (by simp (disch := first | decide | omega | (simp only [next_push, next_set] <;> omega) | fail) only [↓SB, ↓SO, SM, ↓SD, ↓SL, ST, @if_true, @if_false, ↓reduceIte, reduceCtorEq, Bool.false_eq_true, beq_self_eq_true, repL, Nat.reduceMul, Nat.reduceLeDiff, Nat.zero_le, Nat.zero_mul, Nat.reduceAdd, Int.reduceEq, Int.reduceLT, Int.reduceLE, Nat.zero_add, Nat.add_zero, h8]) hg hp ?_ hfr (by omega)
    exact ins_done (A := []) hso hB (.inl rfl)
  · simp only [List.concat_eq_append] at hA hg hp hso hAB
    rw [List.length_append, List.length_singleton] at hA hAB
    subst hA
    have e1 : (A' ++ [q]) ++ p :: (B ++ C) = A' ++ q :: p :: (B ++ C) := by simp
    have ht1 := flat_mid (A' ++ [q]) (B ++ C) p
    have hs1 := flat_put (A' ++ [q]) (B ++ C) p q
    have e2 : (A' ++ [q]) ++ q :: (B ++ C) = A' ++ q :: q :: (B ++ C) := by simp
    rw [e1, List.length_append, List.length_singleton] at ht1 hs1
    rw [e2] at hs1
    rw [e1] at hg hp
    have ht0 := flat_mid A' (p :: (B ++ C)) q
    have hs2 := flat_put A' (q :: (B ++ C)) q p
    have hl0 := flat_len (A' ++ q :: p :: (B ++ C))
    have hl1 := flat_len (A' ++ q :: q :: (B ++ C))
    simp only [List.length_append, List.length_cons, El.sz] at hl0 hl1
    simp only [El.sz] at ht0 ht1 hs1 hs2
    generalize hF : flat (A' ++ q :: p :: (B ++ C)) = F at *
    generalize hF1 : flat (A' ++ q :: q :: (B ++ C)) = F1 at *
    have hb1 : (A'.length + 1) * 4 + 4 ≤ F.length := by omega
    have hb0 : A'.length * 4 + 4 ≤ F.length := by omega
    have hb2 : A'.length * 4 + 4 ≤ F1.length := by omega
    have hj1 : ∀ o, aIndexAddr P 25 (.sliceO i o m 4) (.int .i64 ((A'.length + 1 : Nat) : Int)) = some (.ptr i (o + (A'.length + 1) * 4)) := fun o => ia_sliceO su25 sz45 .i64 (by omega)
    have hj0 : ∀ o, aIndexAddr P 25 (.sliceO i o m 4) (.int .i64 (((A'.length + 1 : Nat) : Int) - 1)) = some (.ptr i (o + A'.length * 4)) := fun o => by
      rw [show ((A'.length + 1 : Nat) : Int) - 1 = (A'.length : Int) by omega]
      exact ia_sliceO su25 sz45 .i64 (by omega)
    have hj : (0 : Int) < ((A'.length + 1 : Nat) : Int) := by omega
    simp (disch := first | decide | omega | (simp only [next_push, next_set] <;> omega) | fail) only [↓SB, ↓SO, SM, ↓SD, ↓SL, ST, @if_true, @if_false, ↓reduceIte, reduceCtorEq, Bool.false_eq_true, beq_self_eq_true, repL, Nat.reduceMul, Nat.reduceLeDiff, Nat.zero_le, Nat.zero_mul, Nat.reduceAdd, Int.reduceEq, Int.reduceLT, Int.reduceLE, Nat.zero_add, Nat.add_zero, h0, h1, h2, h3, h8, h9, hj, hj0, hj1, hg, hb0, hb1, ht0, ht1, bp, ↓wd_R rd114_4_8, pend_ld rd114_4_8, ↓wd_R rd114_4_13, pend_ld rd114_4_13]
    refine payCmp_run hT hf p q H2 (by omega) _ ?_
    intro H3 hfr3 hn3
    have hg3 : H3.get i = some (.cells 45 F o 0 false) := by rw [hfr3.same i hi2 (fun x => x)]; exact hg
    have hfr' : Fr H.next (· = i) H H3 := hfr.trans (hfr3.weak hfr.le (fun _ _ x => x.elim))
    have hle := hfr'.le
    by_cases hc : payCmp p q < 0
    · have hlt := (payCmp_neg p q).1 hc
      simp (disch := first | decide | omega | (simp only [next_push, next_set] <;> omega) | fail) only [↓SB, ↓SO, SM, ↓SD, ↓SL, ST, @if_true, @if_false, ↓reduceIte, reduceCtorEq, Bool.false_eq_true, beq_self_eq_true, repL, Nat.reduceMul, Nat.reduceLeDiff, Nat.zero_le, Nat.zero_mul, Nat.reduceAdd, Int.reduceEq, Int.reduceLT, Int.reduceLE, Nat.zero_add, Nat.add_zero, h0, h1, h2, h3, h8, h9, hj, hj0, hj1, hg3, hb0, hb1, hb2, ht0, ht1, bp, lp, sp, hs1, hs2, hc, ↓wd_R rd114_6_9, pend_ld rd114_6_9, ↓wd_R rd114_6_13, pend_ld rd114_6_13]
      have hB' : ∀ b ∈ q :: B, plt p b := fun b hb => by
        rcases List.mem_cons.1 hb with rfl | hb
        · exact hlt
        · exact hB b hb
      refine ⟨A'.length, by omega, _, _, A', q :: B, rfl, rfl, by simp (disch := first | decide | omega | (simp only [next_push, next_set] <;> omega) | fail) only [↓SB, ↓SO, SM, ↓SD, ↓SL, ST, @if_true, @if_false, ↓reduceIte, reduceCtorEq, Bool.false_eq_true, beq_self_eq_true, repL, Nat.reduceMul, Nat.reduceLeDiff, Nat.zero_le, Nat.zero_mul, Nat.reduceAdd, Int.reduceEq, Int.reduceLT, Int.reduceLE, Nat.zero_add, Nat.add_zero, h0], by simp (disch := first | decide | omega | (simp only [next_push, next_set] <;> omega) | fail) only [↓SB, ↓SO, SM, ↓SD, ↓SL, ST, @if_true, @if_false, ↓reduceIte, reduceCtorEq, Bool.false_eq_true, beq_self_eq_true, repL, Nat.reduceMul, Nat.reduceLeDiff, Nat.zero_le, Nat.zero_mul, Nat.reduceAdd, Int.reduceEq, Int.reduceLT, Int.reduceLE, Nat.zero_add, Nat.add_zero, h1], by simp (disch := first | decide | omega | (simp only [next_push, next_set] <;> omega) | fail) only [↓SB, ↓SO, SM, ↓SD, ↓SL, ST, @if_true, @if_false, ↓reduceIte, reduceCtorEq, Bool.false_eq_true, beq_self_eq_true, repL, Nat.reduceMul, Nat.reduceLeDiff, Nat.zero_le, Nat.zero_mul, Nat.reduceAdd, Int.reduceEq, Int.reduceLT, Int.reduceLE, Nat.zero_add, Nat.add_zero, h2], by simp (disch := first | decide | omega | (simp only [next_push, next_set] <;> omega) | fail) only [↓SB, ↓SO, SM, ↓SD, ↓SL, ST, @if_true, @if_false, ↓reduceIte, reduceCtorEq, Bool.false_eq_true, beq_self_eq_true, repL, Nat.reduceMul, Nat.reduceLeDiff, Nat.zero_le, Nat.zero_mul, Nat.reduceAdd, Int.reduceEq, Int.reduceLT, Int.reduceLE, Nat.zero_add, Nat.add_zero, h3], by simp (disch := first | decide | omega | (simp only [next_push, next_set] <;> omega) | fail) only [↓SB, ↓SO, SM, ↓SD, ↓SL, ST, @if_true, @if_false, ↓reduceIte, reduceCtorEq, Bool.false_eq_true, beq_self_eq_true, repL, Nat.reduceMul, Nat.reduceLeDiff, Nat.zero_le, Nat.zero_mul, Nat.reduceAdd, Int.reduceEq, Int.reduceLT, Int.reduceLE, Nat.zero_add, Nat.add_zero, h8], ?_, by rw [get_set_same]; rfl, ?_, ?_, hB', by rw [List.length_cons]; omega, ?_, ?_⟩
      · rw [xt_up_same]; show AVal.int _ _ = _; congr 1; omega
      · refine List.Perm.trans ?_ hp
        exact (List.Perm.swap q p (B ++ C)).append_left A'
      · have e3 : (A' ++ [q]) ++ B = A' ++ q :: B := by simp
        rw [e3] at hso; exact hso
      · exact (hfr'.set (.inr rfl) (by omega) (by omega) _).set (.inr rfl) (by omega) (by omega) _
      · rw [next_set, next_set]; omega
    · simp (disch := first | decide | omega | (simp only [next_push, next_set] <;> omega) | fail) only [↓SB, ↓SO, SM, ↓SD, ↓SL, ST, @if_true, @if_false, ↓reduceIte, reduceCtorEq, Bool.false_eq_true, beq_self_eq_true, repL, Nat.reduceMul, Nat.reduceLeDiff, Nat.zero_le, Nat.zero_mul, Nat.reduceAdd, Int.reduceEq, Int.reduceLT, Int.reduceLE, Nat.zero_add, Nat.add_zero, h0, h1, h2, h3, h8, h9, hc]
      refine h _ _ ((A' ++ [q]) ++ p :: B) (by simp only [List.length_append, List.length_cons, List.length_nil]; omega) (by simp (disch := first | decide | omega | (simp only [next_push, next_set] <;> omega) | fail) only [↓SB, ↓SO, SM, ↓SD, ↓SL, ST, @if_true, @if_false, ↓reduceIte, reduceCtorEq, Bool.false_eq_true, beq_self_eq_true, repL, Nat.reduceMul, Nat.reduceLeDiff, Nat.zero_le, Nat.zero_mul, Nat.reduceAdd, Int.reduceEq, Int.reduceLT, Int.reduceLE, Nat.zero_add, Nat.add_zero, h0]) (by simp (disch := first | decide | omega | (simp only [next_push, next_set] <;> omega) | fail) only [↓SB, ↓SO, SM, ↓SD, ↓SL, ST, @if_true, @if_false, ↓reduceIte, reduceCtorEq, Bool.false_eq_true, beq_self_eq_true, repL, Nat.reduceMul, Nat.reduceLeDiff, Nat.zero_le, Nat.zero_mul, Nat.reduceAdd, Int.reduceEq, Int.reduceLT, Int.reduceLE, Nat.zero_add, Nat.add_zero, h1]) (by simp (disch := first | decide | omega | (simp only [next_push, next_set] <;> omega) | fail) only [↓SB, ↓SO, SM, ↓SD, ↓SL, ST, @if_true, @if_false, ↓reduceIte, reduceCtorEq, Bool.false_eq_true, beq_self_eq_true, repL, Nat.reduceMul, Nat.reduceLeDiff, Nat.zero_le, Nat.zero_mul, Nat.reduceAdd, Int.reduceEq, Int.reduceLT, Int.reduceLE, Nat.zero_add, Nat.add_zero, h2]) (by simp (disch := first | decide | omega | (simp only [next_push, next_set] <;> omega) | fail) only [↓SB, ↓SO, SM, ↓SD, ↓SL, ST, @if_true, @if_false, ↓reduceIte, reduceCtorEq, Bool.false_eq_true, beq_self_eq_true, repL, Nat.reduceMul, Nat.reduceLeDiff, Nat.zero_le, Nat.zero_mul, Nat.reduceAdd, Int.reduceEq, Int.reduceLT, Int.reduceLE, Nat.zero_add, Nat.add_zero, h3]) (by simp (disch := first | decide | omega | (simp only [next_push, next_set] <;> omega) | fail) only [↓SB, ↓SO, SM, ↓SD, ↓SL, ST, @if_true, @if_false, ↓reduceIte, reduceCtorEq, Bool.false_eq_true, beq_self_eq_true, repL, Nat.reduceMul, Nat.reduceLeDiff, Nat.zero_le, Nat.zero_mul, Nat.reduceAdd, Int.reduceEq, Int.reduceLT, Int.reduceLE, Nat.zero_add, Nat.add_zero, h8]) ?_ ?_ ?_ hfr' (by omega)
      · rw [hg3, ← hF]; simp
      · have e4 : (A' ++ [q] ++ p :: B) ++ C = A' ++ q :: p :: (B ++ C) := by simp
        rw [e4]; exact hp
      · exact ins_done hso hB (.inr ⟨A', q, rfl, fun x => hc ((payCmp_neg p q).2 x)⟩)

include hT hf in
theorem isort_run {n : Nat} {H : Heap} {i m : Nat} {o : Bool} {xs : List Pay} (hg : H.get i = some (.cells 45 (flat xs) o 0 false)) (hi : i < H.next) (hx : xs.length = m) (hm : m ≤ 12) (h0 : 0 < m) (hl : H.next + 500 ≤ 32768) (Q : AVal × Heap → Prop)
    (h : ∀ H' ys, List.Perm ys xs → Srt ys → H'.get i = some (.cells 45 (flat ys) o 0 false) → Fr H.next (· = i) H H' → H'.next ≤ H.next + 450 → Q (.tup [], H')) :
    Wp ((R T fuel (n + 4)).func 114 [.sliceO i 0 m 4, i64 0, i64 m, .func 25 [] []] H) Q := by
  refine call_eq hT (by decide) (fn114 fuel) _ _ (wp_fBody (Nat.le_of_ble_eq_true rfl) ?_)
  unfold c114 r114_0 r114_1 r114_3 r114_2
  simp (disch := first | decide | omega | (simp only [next_push, next_set] <;> omega) | fail) only [↓SB, ↓SO, SM, ↓SD, ↓SL, ST, @if_true, @if_false, ↓reduceIte, reduceCtorEq, Bool.false_eq_true, beq_self_eq_true, repL, Nat.reduceMul, Nat.reduceLeDiff, Nat.zero_le, Nat.zero_mul, Nat.reduceAdd, Int.reduceEq, Int.reduceLT, Int.reduceLE, Nat.zero_add, Nat.add_zero, ]
  obtain ⟨x, l, rfl⟩ : ∃ x l, xs = x :: l := by cases xs with | nil => simp at hx; omega | cons x l => exact ⟨x, l, rfl⟩
  refine wp_loop (fun k s => ∃ e H1 A C, s = ⟨e, [], H1⟩ ∧ List.length A + k = m ∧ 1 ≤ A.length ∧ xt 2 0 e = .sliceO i 0 m 4 ∧ xt 2 1 e = i64 0 ∧ xt 2 2 e = i64 m ∧ xt 2 3 e = .func 25 [] [] ∧ xt 2 8 e = i64 A.length ∧
    H1.get i = some (.cells 45 (flat (A ++ C)) o 0 false) ∧ (A ++ C).Perm (x :: l) ∧ Srt A ∧ Fr H.next (· = i) H H1 ∧ H1.next ≤ H.next + 36 * A.length) ?_ (k := m - 1) (by omega)
    ⟨_, _, [x], l, rfl, by simp only [List.length_singleton]; omega, by simp, by simp (disch := first | decide | omega | (simp only [next_push, next_set] <;> omega) | fail) only [↓SB, ↓SO, SM, ↓SD, ↓SL, ST, @if_true, @if_false, ↓reduceIte, reduceCtorEq, Bool.false_eq_true, beq_self_eq_true, repL, Nat.reduceMul, Nat.reduceLeDiff, Nat.zero_le, Nat.zero_mul, Nat.reduceAdd, Int.reduceEq, Int.reduceLT, Int.reduceLE, Nat.zero_add, Nat.add_zero, ], by simp (disch := first | decide | omega | (simp only [next_push, next_set] <;> omega) | fail) only [↓SB, ↓SO, SM, ↓SD, ↓SL, ST, @if_true, @if_false, ↓reduceIte, reduceCtorEq, Bool.false_eq_true, beq_self_eq_true, repL, Nat.reduceMul, Nat.reduceLeDiff, Nat.zero_le, Nat.zero_mul, Nat.reduceAdd, Int.reduceEq, Int.reduceLT, Int.reduceLE, Nat.zero_add, Nat.add_zero, ], by simp (disch := first | decide | omega | (simp only [next_push, next_set] <;> omega) | fail) only [↓SB, ↓SO, SM, ↓SD, ↓SL, ST, @if_true, @if_false, ↓reduceIte, reduceCtorEq, Bool.false_eq_true, beq_self_eq_true, repL, Nat.reduceMul, Nat.reduceLeDiff, Nat.zero_le, Nat.zero_mul, Nat.reduceAdd, Int.reduceEq, Int.reduceLT, Int.reduceLE, Nat.zero_add, Nat.add_zero, ], by simp (disch := first | decide | omega | (simp only [next_push, next_set] <;> omega) | fail) only [↓SB, ↓SO, SM, ↓SD, ↓SL, ST, @if_true, @if_false, ↓reduceIte, reduceCtorEq, Bool.false_eq_true, beq_self_eq_true, repL, Nat.reduceMul, Nat.reduceLeDiff, Nat.zero_le, Nat.zero_mul, Nat.reduceAdd, Int.reduceEq, Int.reduceLT, Int.reduceLE, Nat.zero_add, Nat.add_zero, ], by simp (disch := first | decide | omega | (simp only [next_push, next_set] <;> omega) | fail) only [↓SB, ↓SO, SM, ↓SD, ↓SL, ST, @if_true, @if_false, ↓reduceIte, reduceCtorEq, Bool.false_eq_true, beq_self_eq_true, repL, Nat.reduceMul, Nat.reduceLeDiff, Nat.zero_le, Nat.zero_mul, Nat.reduceAdd, Int.reduceEq, Int.reduceLT, Int.reduceLE, Nat.zero_add, Nat.add_zero, ]; rfl, hg, List.Perm.refl _, by simp, Fr.refl _ _ _, by omega⟩
  rintro k s ⟨e, H1, A, C, rfl, hk, hA1, g0, g1, g2, g3, g8, hg1, hp, hso, hfr, hn⟩
  have hlen := hp.length_eq
  rw [List.length_append] at hlen
  have hle := hfr.le
  by_cases hlt : A.length < m
  · have hlt' : (A.length : Int) < (m : Int) := by omega
    obtain ⟨p, C', rfl⟩ : ∃ p C', C = p :: C' := by cases C with | nil => simp at hlen hx; omega | cons p C' => exact ⟨p, C', rfl⟩
    simp (disch := first | decide | omega | (simp only [next_push, next_set] <;> omega) | fail) only [↓SB, ↓SO, SM, ↓SD, ↓SL, ST, @if_true, @if_false, ↓reduceIte, reduceCtorEq, Bool.false_eq_true, beq_self_eq_true, repL, Nat.reduceMul, Nat.reduceLeDiff, Nat.zero_le, Nat.zero_mul, Nat.reduceAdd, Int.reduceEq, Int.reduceLT, Int.reduceLE, Nat.zero_add, Nat.add_zero, g0, g1, g2, g3, g8, hlt']
    refine inner_run hT hf (H := H) (p := p) (C := C') (a := A.length) (N := H1.next + 36) (xs := x :: l) (o := o) (k := A.length) hi hlt hm (by omega)
      ⟨_, _, A, [], rfl, rfl, by simp (disch := first | decide | omega | (simp only [next_push, next_set] <;> omega) | fail) only [↓SB, ↓SO, SM, ↓SD, ↓SL, ST, @if_true, @if_false, ↓reduceIte, reduceCtorEq, Bool.false_eq_true, beq_self_eq_true, repL, Nat.reduceMul, Nat.reduceLeDiff, Nat.zero_le, Nat.zero_mul, Nat.reduceAdd, Int.reduceEq, Int.reduceLT, Int.reduceLE, Nat.zero_add, Nat.add_zero, g0], by simp (disch := first | decide | omega | (simp only [next_push, next_set] <;> omega) | fail) only [↓SB, ↓SO, SM, ↓SD, ↓SL, ST, @if_true, @if_false, ↓reduceIte, reduceCtorEq, Bool.false_eq_true, beq_self_eq_true, repL, Nat.reduceMul, Nat.reduceLeDiff, Nat.zero_le, Nat.zero_mul, Nat.reduceAdd, Int.reduceEq, Int.reduceLT, Int.reduceLE, Nat.zero_add, Nat.add_zero, g1], by simp (disch := first | decide | omega | (simp only [next_push, next_set] <;> omega) | fail) only [↓SB, ↓SO, SM, ↓SD, ↓SL, ST, @if_true, @if_false, ↓reduceIte, reduceCtorEq, Bool.false_eq_true, beq_self_eq_true, repL, Nat.reduceMul, Nat.reduceLeDiff, Nat.zero_le, Nat.zero_mul, Nat.reduceAdd, Int.reduceEq, Int.reduceLT, Int.reduceLE, Nat.zero_add, Nat.add_zero, g2], by simp (disch := first | decide | omega | (simp only [next_push, next_set] <;> omega) | fail) only [↓SB, ↓SO, SM, ↓SD, ↓SL, ST, @if_true, @if_false, ↓reduceIte, reduceCtorEq, Bool.false_eq_true, beq_self_eq_true, repL, Nat.reduceMul, Nat.reduceLeDiff, Nat.zero_le, Nat.zero_mul, Nat.reduceAdd, Int.reduceEq, Int.reduceLT, Int.reduceLE, Nat.zero_add, Nat.add_zero, g3], by simp (disch := first | decide | omega | (simp only [next_push, next_set] <;> omega) | fail) only [↓SB, ↓SO, SM, ↓SD, ↓SL, ST, @if_true, @if_false, ↓reduceIte, reduceCtorEq, Bool.false_eq_true, beq_self_eq_true, repL, Nat.reduceMul, Nat.reduceLeDiff, Nat.zero_le, Nat.zero_mul, Nat.reduceAdd, Int.reduceEq, Int.reduceLT, Int.reduceLE, Nat.zero_add, Nat.add_zero, g8], by simp (disch := first | decide | omega | (simp only [next_push, next_set] <;> omega) | fail) only [↓SB, ↓SO, SM, ↓SD, ↓SL, ST, @if_true, @if_false, ↓reduceIte, reduceCtorEq, Bool.false_eq_true, beq_self_eq_true, repL, Nat.reduceMul, Nat.reduceLeDiff, Nat.zero_le, Nat.zero_mul, Nat.reduceAdd, Int.reduceEq, Int.reduceLT, Int.reduceLE, Nat.zero_add, Nat.add_zero, g8], hg1, hp, by rw [List.append_nil]; exact hso, (by intro b hb; cases hb), rfl, hfr, by omega⟩ ?_ (by omega)
    intro e' H2 L hL k0 k1 k2 k3 k8 hg2 hp2 hso2 hfr2 hn2
    simp (disch := first | decide | omega | (simp only [next_push, next_set] <;> omega) | fail) only [↓SB, ↓SO, SM, ↓SD, ↓SL, ST, @if_true, @if_false, ↓reduceIte, reduceCtorEq, Bool.false_eq_true, beq_self_eq_true, repL, Nat.reduceMul, Nat.reduceLeDiff, Nat.zero_le, Nat.zero_mul, Nat.reduceAdd, Int.reduceEq, Int.reduceLT, Int.reduceLE, Nat.zero_add, Nat.add_zero, k0, k1, k2, k3, k8]
    exact ⟨k - 1, by omega, _, H2, L, C', rfl, by omega, by omega, by simp (disch := first | decide | omega | (simp only [next_push, next_set] <;> omega) | fail) only [↓SB, ↓SO, SM, ↓SD, ↓SL, ST, @if_true, @if_false, ↓reduceIte, reduceCtorEq, Bool.false_eq_true, beq_self_eq_true, repL, Nat.reduceMul, Nat.reduceLeDiff, Nat.zero_le, Nat.zero_mul, Nat.reduceAdd, Int.reduceEq, Int.reduceLT, Int.reduceLE, Nat.zero_add, Nat.add_zero, k0], by simp (disch := first | decide | omega | (simp only [next_push, next_set] <;> omega) | fail) only [↓SB, ↓SO, SM, ↓SD, ↓SL, ST, @if_true, @if_false, ↓reduceIte, reduceCtorEq, Bool.false_eq_true, beq_self_eq_true, repL, Nat.reduceMul, Nat.reduceLeDiff, Nat.zero_le, Nat.zero_mul, Nat.reduceAdd, Int.reduceEq, Int.reduceLT, Int.reduceLE, Nat.zero_add, Nat.add_zero, k1], by simp (disch := first | decide | omega | (simp only [next_push, next_set] <;> omega) | fail) only [↓SB, ↓SO, SM, ↓SD, ↓SL, ST, @if_true, @if_false, ↓reduceIte, reduceCtorEq, Bool.false_eq_true, beq_self_eq_true, repL, Nat.reduceMul, Nat.reduceLeDiff, Nat.zero_le, Nat.zero_mul, Nat.reduceAdd, Int.reduceEq, Int.reduceLT, Int.reduceLE, Nat.zero_add, Nat.add_zero, k2], by simp (disch := first | decide | omega | (simp only [next_push, next_set] <;> omega) | fail) only [↓SB, ↓SO, SM, ↓SD, ↓SL, ST, @if_true, @if_false, ↓reduceIte, reduceCtorEq, Bool.false_eq_true, beq_self_eq_true, repL, Nat.reduceMul, Nat.reduceLeDiff, Nat.zero_le, Nat.zero_mul, Nat.reduceAdd, Int.reduceEq, Int.reduceLT, Int.reduceLE, Nat.zero_add, Nat.add_zero, k3], by simp (disch := first | decide | omega | (simp only [next_push, next_set] <;> omega) | fail) only [↓SB, ↓SO, SM, ↓SD, ↓SL, ST, @if_true, @if_false, ↓reduceIte, reduceCtorEq, Bool.false_eq_true, beq_self_eq_true, repL, Nat.reduceMul, Nat.reduceLeDiff, Nat.zero_le, Nat.zero_mul, Nat.reduceAdd, Int.reduceEq, Int.reduceLT, Int.reduceLE, Nat.zero_add, Nat.add_zero, ]; rw [hL]; rfl, hg2, hp2, hso2, hfr2, by omega⟩
  · have hlt' : ¬ (A.length : Int) < (m : Int) := by omega
    have hC : C = [] := by cases C with | nil => rfl | cons p C' => simp at hlen hx; omega
    subst hC
    rw [List.append_nil] at hg1 hp
    simp (disch := first | decide | omega | (simp only [next_push, next_set] <;> omega) | fail) only [↓SB, ↓SO, SM, ↓SD, ↓SL, ST, @if_true, @if_false, ↓reduceIte, reduceCtorEq, Bool.false_eq_true, beq_self_eq_true, repL, Nat.reduceMul, Nat.reduceLeDiff, Nat.zero_le, Nat.zero_mul, Nat.reduceAdd, Int.reduceEq, Int.reduceLT, Int.reduceLE, Nat.zero_add, Nat.add_zero, g0, g1, g2, g3, g8, hlt']
    exact h _ A hp hso hg1 hfr (by omega)

end
end Go.Proofs.YtbokoinmlbipmaaGreatDoor.Ev.Sy

-- Wg
namespace Go.Proofs.YtbokoinmlbipmaaGreatDoor.Ev.Sy
open Go Go.Proofs.YtbokoinmlbipmaaGreatDoor.Ev Go.Proofs
noncomputable section
set_option linter.unusedSimpArgs false
set_option linter.unusedVariables false

variable {T : Table} (hT : ∀ f, f ≠ 6 → (T.find f).val = []) {fuel : Nat} (hf : 1000 ≤ fuel)

/-- A loop that ends in its first round. -/
theorem wp_once {C : Caller} {c : CodeB} {Q : AExit × ASt → Prop} {fuel : Nat} {s : ASt} (hf : 0 < fuel) (h : Wp (c.val C s) (Lq (fun _ _ => False) 0 Q)) : Wp ((cLoop fuel c).val C s) Q := by
  refine wp_loop (fun _ s' => s' = s) ?_ (k := 0) hf rfl
  rintro k s' rfl
  refine h.mono ?_
  rintro ⟨x, s''⟩ hq
  cases x with
  | normal => obtain ⟨j, hj, -⟩ := hq; omega
  | exit i => exact hq
  | ret => exact hq

theorem str9 : P.underlying 9 = some .string := by kernel_rfl

include hT in
theorem len64_run {n : Nat} {m : Nat} (hm : m ≤ 12) (H : Heap) (Q : AVal × Heap → Prop) (h : ∀ z : Int, Q (i64 z, H)) : Wp ((R T fuel (n + 1)).func 123 [.int .u64 m] H) Q := by
  refine call_eq hT (by decide) (fn123 fuel) _ _ (wp_fBody (Nat.le_of_ble_eq_true rfl) ?_)
  unfold c123 r123_0 r123_1 r123_2 r123_3 r123_4 r123_5 r123_6 r123_7 r123_8 r123_9 r123_10
  have h1 : ¬ (4294967296 : Int) ≤ (m : Int) := by omega
  have h2 : ¬ (65536 : Int) ≤ (m : Int) := by omega
  have h3 : ¬ (256 : Int) ≤ (m : Int) := by omega
  have hix : ∀ v, aIndex P 9 (.str 256 v) (.int .u8 (m : Int)) = some (.int .u8 ((byteAt v m : Nat) : Int)) := fun v => ix_str str9 .u8 (by omega)
  simp (disch := first | decide | omega | (simp only [next_push, next_set] <;> omega) | fail) only [↓SB, ↓SO, SM, ↓SD, ↓SL, ST, @if_true, @if_false, ↓reduceIte, reduceCtorEq, Bool.false_eq_true, beq_self_eq_true, repL, Nat.reduceMul, Nat.reduceLeDiff, Nat.zero_le, Nat.zero_mul, Nat.reduceAdd, Int.reduceEq, Int.reduceLT, Int.reduceLE, Nat.zero_add, Nat.add_zero, h1, h2, h3, hix]
  exact h _

include hT in
theorem len_run {n : Nat} {m : Nat} (hm : m ≤ 12) (H : Heap) (Q : AVal × Heap → Prop) (h : ∀ z : Int, Q (i64 z, H)) : Wp ((R T fuel (n + 2)).func 54 [.int .u64 m] H) Q := by
  refine call_eq hT (by decide) (fn54 fuel) _ _ (wp_fBody (Nat.le_of_ble_eq_true rfl) ?_)
  unfold c54 r54_0 r54_1 r54_2
  simp (disch := first | decide | omega | (simp only [next_push, next_set] <;> omega) | fail) only [↓SB, ↓SO, SM, ↓SD, ↓SL, ST, @if_true, @if_false, ↓reduceIte, reduceCtorEq, Bool.false_eq_true, beq_self_eq_true, repL, Nat.reduceMul, Nat.reduceLeDiff, Nat.zero_le, Nat.zero_mul, Nat.reduceAdd, Int.reduceEq, Int.reduceLT, Int.reduceLE, Nat.zero_add, Nat.add_zero, ]
  refine len64_run hT hm H _ ?_
  intro z
  simp (disch := first | decide | omega | (simp only [next_push, next_set] <;> omega) | fail) only [↓SB, ↓SO, SM, ↓SD, ↓SL, ST, @if_true, @if_false, ↓reduceIte, reduceCtorEq, Bool.false_eq_true, beq_self_eq_true, repL, Nat.reduceMul, Nat.reduceLeDiff, Nat.zero_le, Nat.zero_mul, Nat.reduceAdd, Int.reduceEq, Int.reduceLT, Int.reduceLE, Nat.zero_add, Nat.add_zero, ]
  exact h z

include hT hf in
theorem isort_none {n : Nat} {v : AVal} {H : Heap} (Q : AVal × Heap → Prop) (h : Q (.tup [], H)) : Wp ((R T fuel (n + 4)).func 114 [v, i64 0, i64 (0 : Nat), .func 25 [] []] H) Q := by
  refine call_eq hT (by decide) (fn114 fuel) _ _ (wp_fBody (Nat.le_of_ble_eq_true rfl) ?_)
  unfold c114 r114_0 r114_1
  simp (disch := first | decide | omega | (simp only [next_push, next_set] <;> omega) | fail) only [↓SB, ↓SO, SM, ↓SD, ↓SL, ST, @if_true, @if_false, ↓reduceIte, reduceCtorEq, Bool.false_eq_true, beq_self_eq_true, repL, Nat.reduceMul, Nat.reduceLeDiff, Nat.zero_le, Nat.zero_mul, Nat.reduceAdd, Int.reduceEq, Int.reduceLT, Int.reduceLE, Nat.zero_add, Nat.add_zero, ]
  refine wp_once (by omega) ?_
  have h1 : ¬ (0 + 1 : Int) < ((0 : Nat) : Int) := by omega
  simp (disch := first | decide | omega | (simp only [next_push, next_set] <;> omega) | fail) only [↓SB, ↓SO, SM, ↓SD, ↓SL, ST, @if_true, @if_false, ↓reduceIte, reduceCtorEq, Bool.false_eq_true, beq_self_eq_true, repL, Nat.reduceMul, Nat.reduceLeDiff, Nat.zero_le, Nat.zero_mul, Nat.reduceAdd, Int.reduceEq, Int.reduceLT, Int.reduceLE, Nat.zero_add, Nat.add_zero, h1]
  exact h

include hT hf in
theorem pdq_run {n : Nat} {v : AVal} {m : Nat} (hm : m ≤ 12) (z : Int) {H : Heap} {Q : AVal × Heap → Prop} (h : Wp ((R T fuel (n + 4)).func 114 [v, i64 0, i64 m, .func 25 [] []] H) fun q => Q (.tup [], q.2)) :
    Wp ((R T fuel (n + 5)).func 53 [v, i64 0, i64 m, i64 z, .func 25 [] []] H) Q := by
  refine call_eq hT (by decide) (fn53 fuel) _ _ (wp_fBody (Nat.le_of_ble_eq_true rfl) ?_)
  unfold c53 r53_0 r53_1
  simp (disch := first | decide | omega | (simp only [next_push, next_set] <;> omega) | fail) only [↓SB, ↓SO, SM, ↓SD, ↓SL, ST, @if_true, @if_false, ↓reduceIte, reduceCtorEq, Bool.false_eq_true, beq_self_eq_true, repL, Nat.reduceMul, Nat.reduceLeDiff, Nat.zero_le, Nat.zero_mul, Nat.reduceAdd, Int.reduceEq, Int.reduceLT, Int.reduceLE, Nat.zero_add, Nat.add_zero, ]
  refine wp_once (by omega) ?_
  unfold r53_2 r53_3 r53_4
  have h1 : (m : Int) ≤ 12 := by omega
  simp (disch := first | decide | omega | (simp only [next_push, next_set] <;> omega) | fail) only [↓SB, ↓SO, SM, ↓SD, ↓SL, ST, @if_true, @if_false, ↓reduceIte, reduceCtorEq, Bool.false_eq_true, beq_self_eq_true, repL, Nat.reduceMul, Nat.reduceLeDiff, Nat.zero_le, Nat.zero_mul, Nat.reduceAdd, Int.reduceEq, Int.reduceLT, Int.reduceLE, Nat.zero_add, Nat.add_zero, Int.sub_zero, h1]
  refine h.mono ?_
  rintro ⟨x, H'⟩ hq
  simp (disch := first | decide | omega | (simp only [next_push, next_set] <;> omega) | fail) only [↓SB, ↓SO, SM, ↓SD, ↓SL, ST, @if_true, @if_false, ↓reduceIte, reduceCtorEq, Bool.false_eq_true, beq_self_eq_true, repL, Nat.reduceMul, Nat.reduceLeDiff, Nat.zero_le, Nat.zero_mul, Nat.reduceAdd, Int.reduceEq, Int.reduceLT, Int.reduceLE, Nat.zero_add, Nat.add_zero, ]
  exact hq

include hT hf in
theorem sort_run {n : Nat} {v : AVal} {xs : List Pay} {B : Nat} {H : Heap} (hv : Mine H 45 4 B v (flat xs)) (hx : xs.length ≤ 12) (hl : H.next + 500 ≤ 32768) (Q : AVal × Heap → Prop)
    (h : ∀ H' ys, List.Perm ys xs → Srt ys → Mine H' 45 4 B v (flat ys) → Fr H.next (fun j => idOf v = some j) H H' → H'.next ≤ H.next + 450 → Q (.tup [], H')) : Wp ((R T fuel (n + 6)).func 24 [v, .func 25 [] []] H) Q := by
  refine call_eq hT (by decide) (fn24 fuel) _ _ (wp_fBody (Nat.le_of_ble_eq_true rfl) ?_)
  have l1 := Is.length (Mine.is (α := Pay) hv) su25
  unfold c24 r24_0 r24_1
  simp (disch := first | decide | omega | (simp only [next_push, next_set] <;> omega) | fail) only [↓SB, ↓SO, SM, ↓SD, ↓SL, ST, @if_true, @if_false, ↓reduceIte, reduceCtorEq, Bool.false_eq_true, beq_self_eq_true, repL, Nat.reduceMul, Nat.reduceLeDiff, Nat.zero_le, Nat.zero_mul, Nat.reduceAdd, Int.reduceEq, Int.reduceLT, Int.reduceLE, Nat.zero_add, Nat.add_zero, l1]
  refine len_run hT hx H _ ?_
  intro z
  simp (disch := first | decide | omega | (simp only [next_push, next_set] <;> omega) | fail) only [↓SB, ↓SO, SM, ↓SD, ↓SL, ST, @if_true, @if_false, ↓reduceIte, reduceCtorEq, Bool.false_eq_true, beq_self_eq_true, repL, Nat.reduceMul, Nat.reduceLeDiff, Nat.zero_le, Nat.zero_mul, Nat.reduceAdd, Int.reduceEq, Int.reduceLT, Int.reduceLE, Nat.zero_add, Nat.add_zero, ]
  refine pdq_run hT hf hx z ?_
  rcases hv with ⟨rfl, h0⟩ | ⟨i, m, rfl, h1, h2, h3, h4, h5⟩
  · have : xs = [] := by
      cases xs with
      | nil => rfl
      | cons a l => have := flat_len (a :: l); rw [h0] at this; simp only [List.length_nil, List.length_cons, El.sz] at this; omega
    subst this
    refine isort_none hT hf _ ?_
    simp (disch := first | decide | omega | (simp only [next_push, next_set] <;> omega) | fail) only [↓SB, ↓SO, SM, ↓SD, ↓SL, ST, @if_true, @if_false, ↓reduceIte, reduceCtorEq, Bool.false_eq_true, beq_self_eq_true, repL, Nat.reduceMul, Nat.reduceLeDiff, Nat.zero_le, Nat.zero_mul, Nat.reduceAdd, Int.reduceEq, Int.reduceLT, Int.reduceLE, Nat.zero_add, Nat.add_zero, ]
    exact h H [] (List.Perm.refl _) List.Pairwise.nil (.inl ⟨rfl, rfl⟩) (Fr.refl _ _ _) (by omega)
  · have hm : m = xs.length := by rw [flat_len] at h1; simp only [El.sz] at h1; omega
    subst hm
    refine isort_run hT hf h5 h4 rfl hx h2 hl _ ?_
    intro H' ys hp hs hg hfr hn
    simp (disch := first | decide | omega | (simp only [next_push, next_set] <;> omega) | fail) only [↓SB, ↓SO, SM, ↓SD, ↓SL, ST, @if_true, @if_false, ↓reduceIte, reduceCtorEq, Bool.false_eq_true, beq_self_eq_true, repL, Nat.reduceMul, Nat.reduceLeDiff, Nat.zero_le, Nat.zero_mul, Nat.reduceAdd, Int.reduceEq, Int.reduceLT, Int.reduceLE, Nat.zero_add, Nat.add_zero, ]
    refine h H' ys hp hs (.inr ⟨i, xs.length, rfl, ?_, h2, h3, Nat.lt_of_lt_of_le h4 hfr.le, hg⟩) (hfr.weak (Nat.le_refl _) fun j _ hj => by rw [hj]; rfl) hn
    rw [flat_len, hp.length_eq]; rfl

end
end Go.Proofs.YtbokoinmlbipmaaGreatDoor.Ev.Sy

-- Wh
namespace Go.Proofs.YtbokoinmlbipmaaGreatDoor.Ev.Sy
open Go Go.Proofs.YtbokoinmlbipmaaGreatDoor.Ev Go.Proofs
noncomputable section
set_option linter.unusedSimpArgs false
set_option linter.unusedVariables false

variable {T : Table} (hT : ∀ f, f ≠ 6 → (T.find f).val = []) {fuel : Nat} (hf : 1000 ≤ fuel)

theorem ce_pay (p : Pay) : (El.ce p : List AVal) = [i64 p.k, i64 p.t, i64 p.f, i64 p.a] := rfl

theorem bin_neq_agg (P : Program) (t : TypeId) (c : Bool) (l m : List AVal) : aBin P .neq t c (.agg l) (.agg m) = (aEql P t c (.agg l) (.agg m)).bind fun b => mkB (!b) := by
  unfold aBin
  simp only
  cases aEql P t c (.agg l) (.agg m) <;> rfl
theorem eql_agg {P : Program} {t : TypeId} {c : Bool} {l m : List AVal} {fs : Array Field} (h1 : P.eqGuardType P.depth t = false) (h2 : P.stoodInHeld t = false) (hu : P.underlying t = some (.struct fs)) :
    aEql P t c (.agg l) (.agg m) = aEqIn.aEqFields P (aEqIn P 9999) l m fs.toList := by
  unfold aEql guardB
  simp only [h1, Bool.not_false]
  show aEqIn P (9999 + 1) t (.agg l) (.agg m) = _
  rw [aEqIn]
  simp only [hu, h2]
  rfl
theorem eqf_cons (P : Program) (eq : TypeId → AVal → AVal → Option Bool) (xs ys : List AVal) (f : Field) (fs : List Field) (hn : f.name ≠ "_") {a b : AVal} (ha : aPart P f.type xs f.offset = some a) (hb : aPart P f.type ys f.offset = some b) {r : Bool} (hr : eq f.type a b = some r) :
    aEqIn.aEqFields P eq xs ys (f :: fs) = if r = true then aEqIn.aEqFields P eq xs ys fs else some false := by
  rw [aEqIn.aEqFields]
  simp only [ne_eq, hn, not_false_eq_true, if_true, ha, hb, hr]
  cases r <;> rfl
theorem eqIn_int {P : Program} {t : TypeId} {k : IntKind} (hu : P.underlying t = some (.int k)) (d : Nat) (j : IntKind) (a b : Int) : aEqIn P (d + 1) t (.int j a) (.int j b) = some (a == b) := by
  rw [aEqIn]
  simp only [hu]
  show (if j = j then some (a == b) else none) = _
  rw [if_pos rfl]
theorem part3 (l : List AVal) (o : Nat) : aPart P 3 l o = l[o]? := by
  unfold aPart
  rw [ag3]

theorem gq45 : P.eqGuardType P.depth 45 = false := by kernel_rfl
theorem sh45 : P.stoodInHeld 45 = false := by kernel_rfl

/-- Two payments compared. -/
theorem neq45 (c : Bool) (p q : Pay) [Decidable (p = q)] : aBin P .neq 45 c (.agg [i64 p.k, i64 p.t, i64 p.f, i64 p.a]) (.agg [i64 q.k, i64 q.t, i64 q.f, i64 q.a]) = some (.bool (!decide (p = q))) := by
  rw [bin_neq_agg, eql_agg gq45 sh45 Tryz.underlying45]
  have hi := fun (a b : Int) => eqIn_int (P := P) Tryz.underlying3 9998 .i64 a b
  have hi' : ∀ (a b : Int), aEqIn P 9999 3 (i64 a) (i64 b) = some (a == b) := hi
  simp only [aEqIn.aEqFields, part3, ne_eq, String.reduceEq, not_false_eq_true, if_true, List.getElem?_cons_zero, List.getElem?_cons_succ, hi']
  obtain ⟨k, t, f, a⟩ := p
  obtain ⟨k', t', f', a'⟩ := q
  simp only [Pay.mk.injEq]
  by_cases e1 : k = k'
  · by_cases e2 : t = t'
    · by_cases e3 : f = f'
      · by_cases e4 : a = a'
        · simp [e1, e2, e3, e4, mkB_eq]
        · simp [e1, e2, e3, e4, beq_false_of_ne e4, mkB_eq]
      · simp [e1, e2, e3, beq_false_of_ne e3, mkB_eq]
    · simp [e1, e2, beq_false_of_ne e2, mkB_eq]
  · simp [e1, beq_false_of_ne e1, mkB_eq]

/-! ### The law of payments -/

def keepP (c : Scr) (at_ m : Int) (p : Pay) : Prop := p.a ≤ at_ ∧ (reachF p.k m c.u).1 ≤ p.a ∧ p.a ≤ (reachF p.k m c.u).2
instance (c : Scr) (at_ m : Int) (p : Pay) : Decidable (keepP c at_ m p) := by unfold keepP; exact inferInstance

/-- What the payments of a rest are: strictly in order, those that are kept. -/
def payRes (c : Scr) (at_ m : Int) (out : List Pay) : Prop := out.Pairwise plt ∧ ∀ p, p ∈ out ↔ m ≤ c.u ∧ p ∈ c.py ∧ keepP c at_ m p

theorem strict_ext : ∀ {l m : List Pay}, l.Pairwise plt → m.Pairwise plt → (∀ p, p ∈ l ↔ p ∈ m) → l = m
  | [], [], _, _, _ => rfl
  | [], b :: m, _, _, h => by have := (h b).2 (by simp); cases this
  | a :: l, [], _, _, h => by have := (h a).1 (by simp); cases this
  | a :: l, b :: m, h1, h2, h => by
    have g1 := List.pairwise_cons.1 h1
    have g2 := List.pairwise_cons.1 h2
    have hab : a = b := by
      have e1 : a ∈ b :: m := (h a).1 (by simp)
      have e2 : b ∈ a :: l := (h b).2 (by simp)
      rcases List.mem_cons.1 e1 with e | e
      · exact e
      · rcases List.mem_cons.1 e2 with e' | e'
        · exact e'.symm
        · exact absurd (g2.1 a e) (plt_asymm (g1.1 b e'))
    subst hab
    congr 1
    refine strict_ext g1.2 g2.2 ?_
    intro p
    have hn : ∀ q : Pay, ¬ plt q q := fun q hq => plt_asymm hq hq
    constructor
    · intro hp
      rcases List.mem_cons.1 ((h p).1 (List.mem_cons_of_mem _ hp)) with rfl | e
      · exact absurd (g1.1 p hp) (hn p)
      · exact e
    · intro hp
      rcases List.mem_cons.1 ((h p).2 (List.mem_cons_of_mem _ hp)) with rfl | e
      · exact absurd (g2.1 p hp) (hn p)
      · exact e

theorem payRes_unique {c : Scr} {at_ m : Int} {l l' : List Pay} (h : payRes c at_ m l) (k : payRes c at_ m l') : l = l' :=
  strict_ext h.1 k.1 fun p => by rw [h.2, k.2]

end
end Go.Proofs.YtbokoinmlbipmaaGreatDoor.Ev.Sy

-- Wi
namespace Go.Proofs.YtbokoinmlbipmaaGreatDoor.Ev.Sy
open Go Go.Proofs.YtbokoinmlbipmaaGreatDoor.Ev Go.Proofs
noncomputable section
set_option linter.unusedSimpArgs false
set_option linter.unusedVariables false
set_option linter.unusedSectionVars false

variable {T : Table} (hT : ∀ f, f ≠ 6 → (T.find f).val = []) {fuel : Nat} (hf : 1000 ≤ fuel)

theorem get_ce {α : Type} [El α] {l cs : List AVal} {o n : Nat} (h : (l.drop o).take n = cs) {k : Nat} {v : AVal} (hk : cs[k]? = some v) : l[o + k]? = some v := take_at h hk

/-- The first loop: what is kept. -/
def Pl1 (H : Heap) (c : Scr) (at_ m : Int) (pv : AVal) (row : Row) (k : Nat) (s : ASt) : Prop :=
  ∃ e H1 i v, s = ⟨e, [], H1⟩ ∧ i + k = c.py.length ∧ xt 3 1 e = i64 at_ ∧ xt 3 2 e = i64 m ∧ xt 3 3 e = .ptr H.next 0 ∧ xt 3 20 e = pv ∧ xt 3 21 e = i64 c.py.length ∧ xt 3 22 e = i64 i ∧ xt 3 7 e = v ∧ xt 3 8 e = .nils ∧
    H1.get H.next = some row ∧ Mine H1 45 4 (H.next + 1) v (flat ((c.py.take i).filter fun p => decide (keepP c at_ m p))) ∧ Fr H.next (fun _ => False) H H1 ∧ H.next < H1.next ∧ H1.next ≤ H.next + 1 + 3 * i

include hT hf in
theorem pl1_run {n : Nat} {H : Heap} {c : Scr} {at_ m : Int} {a b d pv g : AVal} (hpv : Is H pv c.py) (hm : -100000 ≤ m ∧ m ≤ 100000) (hu : -100000 ≤ c.u ∧ c.u ≤ 100000) (hlen : c.py.length ≤ 12) (hl : H.next + 100 ≤ 32768) {Q : AExit × ASt → Prop} {k : Nat} {s : ASt}
    (hs : Pl1 H c at_ m pv (.cells 28 [i64 c.f, i64 c.u, a, b, d, pv, g] false 0 false) k s) (hk : k < fuel)
    (h : ∀ e H1 v, xt 3 7 e = v → xt 3 8 e = .nils → Mine H1 45 4 (H.next + 1) v (flat (c.py.filter fun p => decide (keepP c at_ m p))) → Fr H.next (fun _ => False) H H1 → H1.next ≤ H.next + 1 + 36 → Q (.exit 0, ⟨e, [], H1⟩)) :
    Wp ((cLoop fuel (cSeq r15_5 (cSeq (cIf (xt 3 23) cSkip (cExit 0)) (cSeq (cBlk 1 (cSeq r15_6 (cSeq r15_7 (cSeq r15_8 (cIf (xt 3 50) r15_9 cSkip))))) r15_10)))).val (R T fuel (n + 1)) s) Q := by
  refine wp_loop _ ?_ hk hs
  rintro k s ⟨e, H1, i, v, rfl, hi, h1, h2, h3, h20, h21, h22, h7, h8, hg, hv, hfr, hlt, hn⟩
  unfold r15_5 r15_6 r15_7 r15_8 r15_9 r15_10
  have hpv1 : Is H1 pv c.py := hfr.is hpv fun j hj => ⟨hpv.lo j hj, fun x => x⟩
  by_cases hil : i < c.py.length
  · have hil' : (i : Int) < (c.py.length : Int) := by omega
    obtain ⟨q, o, r, l, ha, hid, hq, hgq, hr, hb, ht⟩ := hpv1.get su25 sz45 .i64 hil
    have hqn : q < H.next := hpv.lo q hid
    have hkk : (c.py.take (i + 1)).filter (fun p => decide (keepP c at_ m p)) = (c.py.take i).filter (fun p => decide (keepP c at_ m p)) ++ [c.py[i]].filter (fun p => decide (keepP c at_ m p)) := by
      rw [← List.filter_append, List.take_append_getElem hil]
    generalize hp : c.py[i] = p at *
    rw [ce_pay] at ht
    simp only [El.sz] at hb ht
    have e23 : ∀ H, (R T fuel (n + 1)).func 23 [i64 p.k, i64 m, i64 c.u] H = some (.tup [i64 (reachF p.k m c.u).1, i64 (reachF p.k m c.u).2], H) := fun H => by
      obtain ⟨q, h1, h2⟩ := reach_run hT (n := n) p.k m c.u hm hu H (· = (.tup [i64 (reachF p.k m c.u).1, i64 (reachF p.k m c.u).2], H)) rfl
      rw [h1, h2]
    by_cases hA : p.a ≤ at_
    · by_cases hB : (reachF p.k m c.u).1 ≤ p.a
      · by_cases hC : p.a ≤ (reachF p.k m c.u).2
        · have hkeep : keepP c at_ m p := ⟨hA, hB, hC⟩
          rw [List.filter_cons_of_pos (by simpa using hkeep), List.filter_nil] at hkk
          simp (maxSteps := 1000000) (disch := first | decide | omega | (simp only [next_push, next_set] <;> omega) | fail) only [↓SB, ↓SO, SM, ↓SD, ↓SL, ST, List.getElem?_cons_zero, List.getElem?_cons_succ, @if_true, @if_false, ↓reduceIte, reduceCtorEq, Bool.false_eq_true, beq_self_eq_true, repL, Nat.reduceMul, Nat.reduceLeDiff, Nat.zero_le, Nat.zero_mul, Nat.reduceAdd, Int.reduceEq, Int.reduceLT, Int.reduceLE, Nat.zero_add, Nat.add_zero, h1, h2, h3, h20, h21, h22, h7, h8, hil', ha, hg, hgq, hr, hb, ht, e23, hA, hB, hC]
          have hF : Fr H1.next (fun _ => False) H1 (((H1.push (.cells 45 [.int .i64 0, .int .i64 0, .int .i64 0, .int .i64 0] false 0 false)).set H1.next (.cells 45 [i64 p.k, i64 p.t, i64 p.f, i64 p.a] false 0 false)).push (.cells 45 [i64 p.k, i64 p.t, i64 p.f, i64 p.a] false 0 false)) := (by repeat (first | exact Fr.refl _ _ _ | refine Fr.push ?_ (by first | omega | (simp only [next_push, next_set] <;> omega)) (by first | omega | (simp only [next_push, next_set] <;> omega)) _ | refine Fr.set ?_ (.inl (by first | omega | (simp only [next_push, next_set] <;> omega))) (by first | omega | (simp only [next_push, next_set] <;> omega)) (by first | omega | (simp only [next_push, next_set] <;> omega)) _))
          obtain ⟨v', H', e1, e2, e3, e4, e5⟩ := app_mine (α := Pay) (e := 45) (B := H.next + 1) (zs := [p]) (v := v) (y := .slice (H1.next + 1) 0 1 1) ap25_25 (hv.fr hF) (is_built (get_push_same _ _ (by simp only [next_push, next_set])) (by rw [flat_one]; rfl) rfl (by simp only [next_push, next_set]; omega))
            (by have := List.length_filter_le (fun p => decide (keepP c at_ m p)) (c.py.take i); rw [List.length_take] at this; simp only [List.length_singleton]; omega) (by decide) (by simp only [next_push, next_set]; omega) (by simp only [next_push, next_set]; omega)
          simp only [next_push, next_set] at e3 e4 e5
          simp (maxSteps := 1000000) (disch := first | decide | omega | (simp only [next_push, next_set] <;> omega) | fail) only [↓SB, ↓SO, SM, ↓SD, ↓SL, ST, List.getElem?_cons_zero, List.getElem?_cons_succ, @if_true, @if_false, ↓reduceIte, reduceCtorEq, Bool.false_eq_true, beq_self_eq_true, repL, Nat.reduceMul, Nat.reduceLeDiff, Nat.zero_le, Nat.zero_mul, Nat.reduceAdd, Int.reduceEq, Int.reduceLT, Int.reduceLE, Nat.zero_add, Nat.add_zero, e1, h22]
          refine ⟨k - 1, by omega, _, _, i + 1, v', rfl, by omega, by simp (maxSteps := 1000000) (disch := first | decide | omega | (simp only [next_push, next_set] <;> omega) | fail) only [↓SB, ↓SO, SM, ↓SD, ↓SL, ST, List.getElem?_cons_zero, List.getElem?_cons_succ, @if_true, @if_false, ↓reduceIte, reduceCtorEq, Bool.false_eq_true, beq_self_eq_true, repL, Nat.reduceMul, Nat.reduceLeDiff, Nat.zero_le, Nat.zero_mul, Nat.reduceAdd, Int.reduceEq, Int.reduceLT, Int.reduceLE, Nat.zero_add, Nat.add_zero, h1], by simp (maxSteps := 1000000) (disch := first | decide | omega | (simp only [next_push, next_set] <;> omega) | fail) only [↓SB, ↓SO, SM, ↓SD, ↓SL, ST, List.getElem?_cons_zero, List.getElem?_cons_succ, @if_true, @if_false, ↓reduceIte, reduceCtorEq, Bool.false_eq_true, beq_self_eq_true, repL, Nat.reduceMul, Nat.reduceLeDiff, Nat.zero_le, Nat.zero_mul, Nat.reduceAdd, Int.reduceEq, Int.reduceLT, Int.reduceLE, Nat.zero_add, Nat.add_zero, h2], by simp (maxSteps := 1000000) (disch := first | decide | omega | (simp only [next_push, next_set] <;> omega) | fail) only [↓SB, ↓SO, SM, ↓SD, ↓SL, ST, List.getElem?_cons_zero, List.getElem?_cons_succ, @if_true, @if_false, ↓reduceIte, reduceCtorEq, Bool.false_eq_true, beq_self_eq_true, repL, Nat.reduceMul, Nat.reduceLeDiff, Nat.zero_le, Nat.zero_mul, Nat.reduceAdd, Int.reduceEq, Int.reduceLT, Int.reduceLE, Nat.zero_add, Nat.add_zero, h3], by simp (maxSteps := 1000000) (disch := first | decide | omega | (simp only [next_push, next_set] <;> omega) | fail) only [↓SB, ↓SO, SM, ↓SD, ↓SL, ST, List.getElem?_cons_zero, List.getElem?_cons_succ, @if_true, @if_false, ↓reduceIte, reduceCtorEq, Bool.false_eq_true, beq_self_eq_true, repL, Nat.reduceMul, Nat.reduceLeDiff, Nat.zero_le, Nat.zero_mul, Nat.reduceAdd, Int.reduceEq, Int.reduceLT, Int.reduceLE, Nat.zero_add, Nat.add_zero, h20], by simp (maxSteps := 1000000) (disch := first | decide | omega | (simp only [next_push, next_set] <;> omega) | fail) only [↓SB, ↓SO, SM, ↓SD, ↓SL, ST, List.getElem?_cons_zero, List.getElem?_cons_succ, @if_true, @if_false, ↓reduceIte, reduceCtorEq, Bool.false_eq_true, beq_self_eq_true, repL, Nat.reduceMul, Nat.reduceLeDiff, Nat.zero_le, Nat.zero_mul, Nat.reduceAdd, Int.reduceEq, Int.reduceLT, Int.reduceLE, Nat.zero_add, Nat.add_zero, h21], by simp (maxSteps := 1000000) (disch := first | decide | omega | (simp only [next_push, next_set] <;> omega) | fail) only [↓SB, ↓SO, SM, ↓SD, ↓SL, ST, List.getElem?_cons_zero, List.getElem?_cons_succ, @if_true, @if_false, ↓reduceIte, reduceCtorEq, Bool.false_eq_true, beq_self_eq_true, repL, Nat.reduceMul, Nat.reduceLeDiff, Nat.zero_le, Nat.zero_mul, Nat.reduceAdd, Int.reduceEq, Int.reduceLT, Int.reduceLE, Nat.zero_add, Nat.add_zero, ]; rfl, by simp (maxSteps := 1000000) (disch := first | decide | omega | (simp only [next_push, next_set] <;> omega) | fail) only [↓SB, ↓SO, SM, ↓SD, ↓SL, ST, List.getElem?_cons_zero, List.getElem?_cons_succ, @if_true, @if_false, ↓reduceIte, reduceCtorEq, Bool.false_eq_true, beq_self_eq_true, repL, Nat.reduceMul, Nat.reduceLeDiff, Nat.zero_le, Nat.zero_mul, Nat.reduceAdd, Int.reduceEq, Int.reduceLT, Int.reduceLE, Nat.zero_add, Nat.add_zero, ], by simp (maxSteps := 1000000) (disch := first | decide | omega | (simp only [next_push, next_set] <;> omega) | fail) only [↓SB, ↓SO, SM, ↓SD, ↓SL, ST, List.getElem?_cons_zero, List.getElem?_cons_succ, @if_true, @if_false, ↓reduceIte, reduceCtorEq, Bool.false_eq_true, beq_self_eq_true, repL, Nat.reduceMul, Nat.reduceLeDiff, Nat.zero_le, Nat.zero_mul, Nat.reduceAdd, Int.reduceEq, Int.reduceLT, Int.reduceLE, Nat.zero_add, Nat.add_zero, h8], ?_, by rw [hkk]; exact e2, ?_, by omega, by omega⟩
          · rw [e5 H.next (by omega) (fun x => by have := hv.id x; omega), hF.same' hlt]; exact hg
          · refine hfr.trans ⟨by omega, fun j hj _ => ?_⟩
            rw [e5 j (by omega) (fun x => by have := hv.id x; omega)]; exact hF.same' (by omega)
        · have hkeep : ¬ keepP c at_ m p := fun x => hC x.2.2
          rw [List.filter_cons_of_neg (by simpa using hkeep), List.filter_nil, List.append_nil] at hkk
          simp (maxSteps := 1000000) (disch := first | decide | omega | (simp only [next_push, next_set] <;> omega) | fail) only [↓SB, ↓SO, SM, ↓SD, ↓SL, ST, List.getElem?_cons_zero, List.getElem?_cons_succ, @if_true, @if_false, ↓reduceIte, reduceCtorEq, Bool.false_eq_true, beq_self_eq_true, repL, Nat.reduceMul, Nat.reduceLeDiff, Nat.zero_le, Nat.zero_mul, Nat.reduceAdd, Int.reduceEq, Int.reduceLT, Int.reduceLE, Nat.zero_add, Nat.add_zero, h1, h2, h3, h20, h21, h22, h7, h8, hil', ha, hg, hgq, hr, hb, ht, e23, hA, hB, hC]
          have hF : Fr H1.next (fun _ => False) H1 ((H1.push (.cells 45 [.int .i64 0, .int .i64 0, .int .i64 0, .int .i64 0] false 0 false)).set H1.next (.cells 45 [i64 p.k, i64 p.t, i64 p.f, i64 p.a] false 0 false)) := (by repeat (first | exact Fr.refl _ _ _ | refine Fr.push ?_ (by first | omega | (simp only [next_push, next_set] <;> omega)) (by first | omega | (simp only [next_push, next_set] <;> omega)) _ | refine Fr.set ?_ (.inl (by first | omega | (simp only [next_push, next_set] <;> omega))) (by first | omega | (simp only [next_push, next_set] <;> omega)) (by first | omega | (simp only [next_push, next_set] <;> omega)) _))
          exact ⟨k - 1, by omega, _, _, i + 1, v, rfl, by omega, by simp (maxSteps := 1000000) (disch := first | decide | omega | (simp only [next_push, next_set] <;> omega) | fail) only [↓SB, ↓SO, SM, ↓SD, ↓SL, ST, List.getElem?_cons_zero, List.getElem?_cons_succ, @if_true, @if_false, ↓reduceIte, reduceCtorEq, Bool.false_eq_true, beq_self_eq_true, repL, Nat.reduceMul, Nat.reduceLeDiff, Nat.zero_le, Nat.zero_mul, Nat.reduceAdd, Int.reduceEq, Int.reduceLT, Int.reduceLE, Nat.zero_add, Nat.add_zero, h1], by simp (maxSteps := 1000000) (disch := first | decide | omega | (simp only [next_push, next_set] <;> omega) | fail) only [↓SB, ↓SO, SM, ↓SD, ↓SL, ST, List.getElem?_cons_zero, List.getElem?_cons_succ, @if_true, @if_false, ↓reduceIte, reduceCtorEq, Bool.false_eq_true, beq_self_eq_true, repL, Nat.reduceMul, Nat.reduceLeDiff, Nat.zero_le, Nat.zero_mul, Nat.reduceAdd, Int.reduceEq, Int.reduceLT, Int.reduceLE, Nat.zero_add, Nat.add_zero, h2], by simp (maxSteps := 1000000) (disch := first | decide | omega | (simp only [next_push, next_set] <;> omega) | fail) only [↓SB, ↓SO, SM, ↓SD, ↓SL, ST, List.getElem?_cons_zero, List.getElem?_cons_succ, @if_true, @if_false, ↓reduceIte, reduceCtorEq, Bool.false_eq_true, beq_self_eq_true, repL, Nat.reduceMul, Nat.reduceLeDiff, Nat.zero_le, Nat.zero_mul, Nat.reduceAdd, Int.reduceEq, Int.reduceLT, Int.reduceLE, Nat.zero_add, Nat.add_zero, h3], by simp (maxSteps := 1000000) (disch := first | decide | omega | (simp only [next_push, next_set] <;> omega) | fail) only [↓SB, ↓SO, SM, ↓SD, ↓SL, ST, List.getElem?_cons_zero, List.getElem?_cons_succ, @if_true, @if_false, ↓reduceIte, reduceCtorEq, Bool.false_eq_true, beq_self_eq_true, repL, Nat.reduceMul, Nat.reduceLeDiff, Nat.zero_le, Nat.zero_mul, Nat.reduceAdd, Int.reduceEq, Int.reduceLT, Int.reduceLE, Nat.zero_add, Nat.add_zero, h20], by simp (maxSteps := 1000000) (disch := first | decide | omega | (simp only [next_push, next_set] <;> omega) | fail) only [↓SB, ↓SO, SM, ↓SD, ↓SL, ST, List.getElem?_cons_zero, List.getElem?_cons_succ, @if_true, @if_false, ↓reduceIte, reduceCtorEq, Bool.false_eq_true, beq_self_eq_true, repL, Nat.reduceMul, Nat.reduceLeDiff, Nat.zero_le, Nat.zero_mul, Nat.reduceAdd, Int.reduceEq, Int.reduceLT, Int.reduceLE, Nat.zero_add, Nat.add_zero, h21], by simp (maxSteps := 1000000) (disch := first | decide | omega | (simp only [next_push, next_set] <;> omega) | fail) only [↓SB, ↓SO, SM, ↓SD, ↓SL, ST, List.getElem?_cons_zero, List.getElem?_cons_succ, @if_true, @if_false, ↓reduceIte, reduceCtorEq, Bool.false_eq_true, beq_self_eq_true, repL, Nat.reduceMul, Nat.reduceLeDiff, Nat.zero_le, Nat.zero_mul, Nat.reduceAdd, Int.reduceEq, Int.reduceLT, Int.reduceLE, Nat.zero_add, Nat.add_zero, ]; rfl, by simp (maxSteps := 1000000) (disch := first | decide | omega | (simp only [next_push, next_set] <;> omega) | fail) only [↓SB, ↓SO, SM, ↓SD, ↓SL, ST, List.getElem?_cons_zero, List.getElem?_cons_succ, @if_true, @if_false, ↓reduceIte, reduceCtorEq, Bool.false_eq_true, beq_self_eq_true, repL, Nat.reduceMul, Nat.reduceLeDiff, Nat.zero_le, Nat.zero_mul, Nat.reduceAdd, Int.reduceEq, Int.reduceLT, Int.reduceLE, Nat.zero_add, Nat.add_zero, h7], by simp (maxSteps := 1000000) (disch := first | decide | omega | (simp only [next_push, next_set] <;> omega) | fail) only [↓SB, ↓SO, SM, ↓SD, ↓SL, ST, List.getElem?_cons_zero, List.getElem?_cons_succ, @if_true, @if_false, ↓reduceIte, reduceCtorEq, Bool.false_eq_true, beq_self_eq_true, repL, Nat.reduceMul, Nat.reduceLeDiff, Nat.zero_le, Nat.zero_mul, Nat.reduceAdd, Int.reduceEq, Int.reduceLT, Int.reduceLE, Nat.zero_add, Nat.add_zero, h8], (hF.same' hlt).trans hg, by rw [hkk]; exact hv.fr hF, hfr.on (by omega) hF, Nat.lt_of_lt_of_le hlt hF.le, by simp only [next_push, next_set]; omega⟩
      · have hkeep : ¬ keepP c at_ m p := fun x => hB x.2.1
        rw [List.filter_cons_of_neg (by simpa using hkeep), List.filter_nil, List.append_nil] at hkk
        simp (maxSteps := 1000000) (disch := first | decide | omega | (simp only [next_push, next_set] <;> omega) | fail) only [↓SB, ↓SO, SM, ↓SD, ↓SL, ST, List.getElem?_cons_zero, List.getElem?_cons_succ, @if_true, @if_false, ↓reduceIte, reduceCtorEq, Bool.false_eq_true, beq_self_eq_true, repL, Nat.reduceMul, Nat.reduceLeDiff, Nat.zero_le, Nat.zero_mul, Nat.reduceAdd, Int.reduceEq, Int.reduceLT, Int.reduceLE, Nat.zero_add, Nat.add_zero, h1, h2, h3, h20, h21, h22, h7, h8, hil', ha, hg, hgq, hr, hb, ht, e23, hA, hB]
        have hF : Fr H1.next (fun _ => False) H1 ((H1.push (.cells 45 [.int .i64 0, .int .i64 0, .int .i64 0, .int .i64 0] false 0 false)).set H1.next (.cells 45 [i64 p.k, i64 p.t, i64 p.f, i64 p.a] false 0 false)) := (by repeat (first | exact Fr.refl _ _ _ | refine Fr.push ?_ (by first | omega | (simp only [next_push, next_set] <;> omega)) (by first | omega | (simp only [next_push, next_set] <;> omega)) _ | refine Fr.set ?_ (.inl (by first | omega | (simp only [next_push, next_set] <;> omega))) (by first | omega | (simp only [next_push, next_set] <;> omega)) (by first | omega | (simp only [next_push, next_set] <;> omega)) _))
        exact ⟨k - 1, by omega, _, _, i + 1, v, rfl, by omega, by simp (maxSteps := 1000000) (disch := first | decide | omega | (simp only [next_push, next_set] <;> omega) | fail) only [↓SB, ↓SO, SM, ↓SD, ↓SL, ST, List.getElem?_cons_zero, List.getElem?_cons_succ, @if_true, @if_false, ↓reduceIte, reduceCtorEq, Bool.false_eq_true, beq_self_eq_true, repL, Nat.reduceMul, Nat.reduceLeDiff, Nat.zero_le, Nat.zero_mul, Nat.reduceAdd, Int.reduceEq, Int.reduceLT, Int.reduceLE, Nat.zero_add, Nat.add_zero, h1], by simp (maxSteps := 1000000) (disch := first | decide | omega | (simp only [next_push, next_set] <;> omega) | fail) only [↓SB, ↓SO, SM, ↓SD, ↓SL, ST, List.getElem?_cons_zero, List.getElem?_cons_succ, @if_true, @if_false, ↓reduceIte, reduceCtorEq, Bool.false_eq_true, beq_self_eq_true, repL, Nat.reduceMul, Nat.reduceLeDiff, Nat.zero_le, Nat.zero_mul, Nat.reduceAdd, Int.reduceEq, Int.reduceLT, Int.reduceLE, Nat.zero_add, Nat.add_zero, h2], by simp (maxSteps := 1000000) (disch := first | decide | omega | (simp only [next_push, next_set] <;> omega) | fail) only [↓SB, ↓SO, SM, ↓SD, ↓SL, ST, List.getElem?_cons_zero, List.getElem?_cons_succ, @if_true, @if_false, ↓reduceIte, reduceCtorEq, Bool.false_eq_true, beq_self_eq_true, repL, Nat.reduceMul, Nat.reduceLeDiff, Nat.zero_le, Nat.zero_mul, Nat.reduceAdd, Int.reduceEq, Int.reduceLT, Int.reduceLE, Nat.zero_add, Nat.add_zero, h3], by simp (maxSteps := 1000000) (disch := first | decide | omega | (simp only [next_push, next_set] <;> omega) | fail) only [↓SB, ↓SO, SM, ↓SD, ↓SL, ST, List.getElem?_cons_zero, List.getElem?_cons_succ, @if_true, @if_false, ↓reduceIte, reduceCtorEq, Bool.false_eq_true, beq_self_eq_true, repL, Nat.reduceMul, Nat.reduceLeDiff, Nat.zero_le, Nat.zero_mul, Nat.reduceAdd, Int.reduceEq, Int.reduceLT, Int.reduceLE, Nat.zero_add, Nat.add_zero, h20], by simp (maxSteps := 1000000) (disch := first | decide | omega | (simp only [next_push, next_set] <;> omega) | fail) only [↓SB, ↓SO, SM, ↓SD, ↓SL, ST, List.getElem?_cons_zero, List.getElem?_cons_succ, @if_true, @if_false, ↓reduceIte, reduceCtorEq, Bool.false_eq_true, beq_self_eq_true, repL, Nat.reduceMul, Nat.reduceLeDiff, Nat.zero_le, Nat.zero_mul, Nat.reduceAdd, Int.reduceEq, Int.reduceLT, Int.reduceLE, Nat.zero_add, Nat.add_zero, h21], by simp (maxSteps := 1000000) (disch := first | decide | omega | (simp only [next_push, next_set] <;> omega) | fail) only [↓SB, ↓SO, SM, ↓SD, ↓SL, ST, List.getElem?_cons_zero, List.getElem?_cons_succ, @if_true, @if_false, ↓reduceIte, reduceCtorEq, Bool.false_eq_true, beq_self_eq_true, repL, Nat.reduceMul, Nat.reduceLeDiff, Nat.zero_le, Nat.zero_mul, Nat.reduceAdd, Int.reduceEq, Int.reduceLT, Int.reduceLE, Nat.zero_add, Nat.add_zero, ]; rfl, by simp (maxSteps := 1000000) (disch := first | decide | omega | (simp only [next_push, next_set] <;> omega) | fail) only [↓SB, ↓SO, SM, ↓SD, ↓SL, ST, List.getElem?_cons_zero, List.getElem?_cons_succ, @if_true, @if_false, ↓reduceIte, reduceCtorEq, Bool.false_eq_true, beq_self_eq_true, repL, Nat.reduceMul, Nat.reduceLeDiff, Nat.zero_le, Nat.zero_mul, Nat.reduceAdd, Int.reduceEq, Int.reduceLT, Int.reduceLE, Nat.zero_add, Nat.add_zero, h7], by simp (maxSteps := 1000000) (disch := first | decide | omega | (simp only [next_push, next_set] <;> omega) | fail) only [↓SB, ↓SO, SM, ↓SD, ↓SL, ST, List.getElem?_cons_zero, List.getElem?_cons_succ, @if_true, @if_false, ↓reduceIte, reduceCtorEq, Bool.false_eq_true, beq_self_eq_true, repL, Nat.reduceMul, Nat.reduceLeDiff, Nat.zero_le, Nat.zero_mul, Nat.reduceAdd, Int.reduceEq, Int.reduceLT, Int.reduceLE, Nat.zero_add, Nat.add_zero, h8], (hF.same' hlt).trans hg, by rw [hkk]; exact hv.fr hF, hfr.on (by omega) hF, Nat.lt_of_lt_of_le hlt hF.le, by simp only [next_push, next_set]; omega⟩
    · have hkeep : ¬ keepP c at_ m p := fun x => hA x.1
      rw [List.filter_cons_of_neg (by simpa using hkeep), List.filter_nil, List.append_nil] at hkk
      simp (maxSteps := 1000000) (disch := first | decide | omega | (simp only [next_push, next_set] <;> omega) | fail) only [↓SB, ↓SO, SM, ↓SD, ↓SL, ST, List.getElem?_cons_zero, List.getElem?_cons_succ, @if_true, @if_false, ↓reduceIte, reduceCtorEq, Bool.false_eq_true, beq_self_eq_true, repL, Nat.reduceMul, Nat.reduceLeDiff, Nat.zero_le, Nat.zero_mul, Nat.reduceAdd, Int.reduceEq, Int.reduceLT, Int.reduceLE, Nat.zero_add, Nat.add_zero, h1, h2, h3, h20, h21, h22, h7, h8, hil', ha, hg, hgq, hr, hb, ht, e23, hA]
      have hF : Fr H1.next (fun _ => False) H1 ((H1.push (.cells 45 [.int .i64 0, .int .i64 0, .int .i64 0, .int .i64 0] false 0 false)).set H1.next (.cells 45 [i64 p.k, i64 p.t, i64 p.f, i64 p.a] false 0 false)) := (by repeat (first | exact Fr.refl _ _ _ | refine Fr.push ?_ (by first | omega | (simp only [next_push, next_set] <;> omega)) (by first | omega | (simp only [next_push, next_set] <;> omega)) _ | refine Fr.set ?_ (.inl (by first | omega | (simp only [next_push, next_set] <;> omega))) (by first | omega | (simp only [next_push, next_set] <;> omega)) (by first | omega | (simp only [next_push, next_set] <;> omega)) _))
      exact ⟨k - 1, by omega, _, _, i + 1, v, rfl, by omega, by simp (maxSteps := 1000000) (disch := first | decide | omega | (simp only [next_push, next_set] <;> omega) | fail) only [↓SB, ↓SO, SM, ↓SD, ↓SL, ST, List.getElem?_cons_zero, List.getElem?_cons_succ, @if_true, @if_false, ↓reduceIte, reduceCtorEq, Bool.false_eq_true, beq_self_eq_true, repL, Nat.reduceMul, Nat.reduceLeDiff, Nat.zero_le, Nat.zero_mul, Nat.reduceAdd, Int.reduceEq, Int.reduceLT, Int.reduceLE, Nat.zero_add, Nat.add_zero, h1], by simp (maxSteps := 1000000) (disch := first | decide | omega | (simp only [next_push, next_set] <;> omega) | fail) only [↓SB, ↓SO, SM, ↓SD, ↓SL, ST, List.getElem?_cons_zero, List.getElem?_cons_succ, @if_true, @if_false, ↓reduceIte, reduceCtorEq, Bool.false_eq_true, beq_self_eq_true, repL, Nat.reduceMul, Nat.reduceLeDiff, Nat.zero_le, Nat.zero_mul, Nat.reduceAdd, Int.reduceEq, Int.reduceLT, Int.reduceLE, Nat.zero_add, Nat.add_zero, h2], by simp (maxSteps := 1000000) (disch := first | decide | omega | (simp only [next_push, next_set] <;> omega) | fail) only [↓SB, ↓SO, SM, ↓SD, ↓SL, ST, List.getElem?_cons_zero, List.getElem?_cons_succ, @if_true, @if_false, ↓reduceIte, reduceCtorEq, Bool.false_eq_true, beq_self_eq_true, repL, Nat.reduceMul, Nat.reduceLeDiff, Nat.zero_le, Nat.zero_mul, Nat.reduceAdd, Int.reduceEq, Int.reduceLT, Int.reduceLE, Nat.zero_add, Nat.add_zero, h3], by simp (maxSteps := 1000000) (disch := first | decide | omega | (simp only [next_push, next_set] <;> omega) | fail) only [↓SB, ↓SO, SM, ↓SD, ↓SL, ST, List.getElem?_cons_zero, List.getElem?_cons_succ, @if_true, @if_false, ↓reduceIte, reduceCtorEq, Bool.false_eq_true, beq_self_eq_true, repL, Nat.reduceMul, Nat.reduceLeDiff, Nat.zero_le, Nat.zero_mul, Nat.reduceAdd, Int.reduceEq, Int.reduceLT, Int.reduceLE, Nat.zero_add, Nat.add_zero, h20], by simp (maxSteps := 1000000) (disch := first | decide | omega | (simp only [next_push, next_set] <;> omega) | fail) only [↓SB, ↓SO, SM, ↓SD, ↓SL, ST, List.getElem?_cons_zero, List.getElem?_cons_succ, @if_true, @if_false, ↓reduceIte, reduceCtorEq, Bool.false_eq_true, beq_self_eq_true, repL, Nat.reduceMul, Nat.reduceLeDiff, Nat.zero_le, Nat.zero_mul, Nat.reduceAdd, Int.reduceEq, Int.reduceLT, Int.reduceLE, Nat.zero_add, Nat.add_zero, h21], by simp (maxSteps := 1000000) (disch := first | decide | omega | (simp only [next_push, next_set] <;> omega) | fail) only [↓SB, ↓SO, SM, ↓SD, ↓SL, ST, List.getElem?_cons_zero, List.getElem?_cons_succ, @if_true, @if_false, ↓reduceIte, reduceCtorEq, Bool.false_eq_true, beq_self_eq_true, repL, Nat.reduceMul, Nat.reduceLeDiff, Nat.zero_le, Nat.zero_mul, Nat.reduceAdd, Int.reduceEq, Int.reduceLT, Int.reduceLE, Nat.zero_add, Nat.add_zero, ]; rfl, by simp (maxSteps := 1000000) (disch := first | decide | omega | (simp only [next_push, next_set] <;> omega) | fail) only [↓SB, ↓SO, SM, ↓SD, ↓SL, ST, List.getElem?_cons_zero, List.getElem?_cons_succ, @if_true, @if_false, ↓reduceIte, reduceCtorEq, Bool.false_eq_true, beq_self_eq_true, repL, Nat.reduceMul, Nat.reduceLeDiff, Nat.zero_le, Nat.zero_mul, Nat.reduceAdd, Int.reduceEq, Int.reduceLT, Int.reduceLE, Nat.zero_add, Nat.add_zero, h7], by simp (maxSteps := 1000000) (disch := first | decide | omega | (simp only [next_push, next_set] <;> omega) | fail) only [↓SB, ↓SO, SM, ↓SD, ↓SL, ST, List.getElem?_cons_zero, List.getElem?_cons_succ, @if_true, @if_false, ↓reduceIte, reduceCtorEq, Bool.false_eq_true, beq_self_eq_true, repL, Nat.reduceMul, Nat.reduceLeDiff, Nat.zero_le, Nat.zero_mul, Nat.reduceAdd, Int.reduceEq, Int.reduceLT, Int.reduceLE, Nat.zero_add, Nat.add_zero, h8], (hF.same' hlt).trans hg, by rw [hkk]; exact hv.fr hF, hfr.on (by omega) hF, Nat.lt_of_lt_of_le hlt hF.le, by simp only [next_push, next_set]; omega⟩
  · have hil' : ¬ (i : Int) < (c.py.length : Int) := by omega
    simp (maxSteps := 1000000) (disch := first | decide | omega | (simp only [next_push, next_set] <;> omega) | fail) only [↓SB, ↓SO, SM, ↓SD, ↓SL, ST, List.getElem?_cons_zero, List.getElem?_cons_succ, @if_true, @if_false, ↓reduceIte, reduceCtorEq, Bool.false_eq_true, beq_self_eq_true, repL, Nat.reduceMul, Nat.reduceLeDiff, Nat.zero_le, Nat.zero_mul, Nat.reduceAdd, Int.reduceEq, Int.reduceLT, Int.reduceLE, Nat.zero_add, Nat.add_zero, h21, h22, hil']
    rw [List.take_of_length_le (by omega)] at hv
    exact h _ _ _ (by simp (maxSteps := 1000000) (disch := first | decide | omega | (simp only [next_push, next_set] <;> omega) | fail) only [↓SB, ↓SO, SM, ↓SD, ↓SL, ST, List.getElem?_cons_zero, List.getElem?_cons_succ, @if_true, @if_false, ↓reduceIte, reduceCtorEq, Bool.false_eq_true, beq_self_eq_true, repL, Nat.reduceMul, Nat.reduceLeDiff, Nat.zero_le, Nat.zero_mul, Nat.reduceAdd, Int.reduceEq, Int.reduceLT, Int.reduceLE, Nat.zero_add, Nat.add_zero, h7]) (by simp (maxSteps := 1000000) (disch := first | decide | omega | (simp only [next_push, next_set] <;> omega) | fail) only [↓SB, ↓SO, SM, ↓SD, ↓SL, ST, List.getElem?_cons_zero, List.getElem?_cons_succ, @if_true, @if_false, ↓reduceIte, reduceCtorEq, Bool.false_eq_true, beq_self_eq_true, repL, Nat.reduceMul, Nat.reduceLeDiff, Nat.zero_le, Nat.zero_mul, Nat.reduceAdd, Int.reduceEq, Int.reduceLT, Int.reduceLE, Nat.zero_add, Nat.add_zero, h8]) hv hfr (by omega)

end
end Go.Proofs.YtbokoinmlbipmaaGreatDoor.Ev.Sy

-- Wj
namespace Go.Proofs.YtbokoinmlbipmaaGreatDoor.Ev.Sy
open Go Go.Proofs.YtbokoinmlbipmaaGreatDoor.Ev Go.Proofs
noncomputable section
set_option linter.unusedSimpArgs false
set_option linter.unusedVariables false
set_option linter.unusedSectionVars false

theorem dd_skip {ys : List Pay} {i : Nat} (hi : i < ys.length) (h0 : 0 < i) (he : ys[i] = ys[i - 1]) {p : Pay} : p ∈ ys.take (i + 1) ↔ p ∈ ys.take i := by
  rw [← List.take_append_getElem hi, List.mem_append, List.mem_singleton]
  constructor
  · rintro (h | h)
    · exact h
    · subst h
      rw [he]
      exact List.mem_take_iff_getElem.2 ⟨i - 1, by omega, rfl⟩
  · exact .inl

theorem dd_add {ys zs : List Pay} {i : Nat} (hi : i < ys.length) (hs : Srt ys) (hz : List.Pairwise plt zs) (hm : ∀ p, p ∈ zs ↔ p ∈ ys.take i) (hne : i = 0 ∨ ∃ h : 0 < i, ys[i] ≠ ys[i - 1]) : List.Pairwise plt (zs ++ [ys[i]]) := by
  refine List.pairwise_append.2 ⟨hz, by simp, ?_⟩
  intro q hq p hp
  rw [List.mem_singleton] at hp
  subst hp
  obtain ⟨j, hj, rfl⟩ := List.mem_take_iff_getElem.1 ((hm q).1 hq)
  have hj' : j < i := by omega
  have hs' := List.pairwise_iff_getElem.1 hs
  have h1 := hs' j i (by omega) hi hj'
  rcases hne with rfl | ⟨h0, hne⟩
  · omega
  · apply Classical.byContradiction
    intro hc
    have e1 : ys[i] = ys[j] := plt_eq h1 hc
    apply hne
    by_cases hji : j = i - 1
    · subst hji; exact e1
    · have h2 := hs' j (i - 1) (by omega) (by omega) (by omega)
      have h3 := hs' (i - 1) i (by omega) hi (by omega)
      rw [e1] at h3 ⊢
      exact plt_eq h3 h2

variable {T : Table} (hT : ∀ f, f ≠ 6 → (T.find f).val = []) {fuel : Nat} (hf : 1000 ≤ fuel)

/-- The second loop: each once. -/
def Pl2 (Hs : Heap) (v : AVal) (ys : List Pay) (k : Nat) (s : ASt) : Prop :=
  ∃ e H1 i w zs, s = ⟨e, [], H1⟩ ∧ i + k = ys.length ∧ xt 3 58 e = v ∧ xt 3 7 e = v ∧ xt 3 59 e = i64 ys.length ∧ xt 3 60 e = i64 i ∧ xt 3 8 e = w ∧ Mine H1 45 4 Hs.next w (flat zs) ∧ List.Pairwise plt zs ∧ (∀ p, p ∈ zs ↔ p ∈ ys.take i) ∧ zs.length ≤ i ∧
    Fr Hs.next (fun _ => False) Hs H1 ∧ H1.next ≤ Hs.next + 3 * i

include hT hf in
theorem pl2_run {n : Nat} {Hs : Heap} {v : AVal} {ys : List Pay} (hv : Is Hs v ys) (hsrt : Srt ys) (hlen : ys.length ≤ 12) (hl : Hs.next + 100 ≤ 32768) {Q : AExit × ASt → Prop} {k : Nat} {s : ASt} (hs : Pl2 Hs v ys k s) (hk : k < fuel)
    (h : ∀ e H1 w zs, xt 3 8 e = w → Mine H1 45 4 Hs.next w (flat zs) → List.Pairwise plt zs → (∀ p, p ∈ zs ↔ p ∈ ys) → zs.length ≤ ys.length → Fr Hs.next (fun _ => False) Hs H1 → H1.next ≤ Hs.next + 36 → Q (.exit 2, ⟨e, [], H1⟩)) :
    Wp ((cLoop fuel (cSeq r15_13 (cSeq (cIf (xt 3 61) cSkip (cExit 2)) (cSeq (cBlk 3 (cSeq r15_14 (cSeq r15_15 (cIf (xt 3 75) r15_16 cSkip)))) r15_17)))).val (R T fuel n) s) Q := by
  refine wp_loop _ ?_ hk hs
  rintro k s ⟨e, H1, i, w, zs, rfl, hi, h58, h7, h59, h60, h8, hw, hz, hm, hzl, hfr, hn⟩
  unfold r15_13 r15_14 r15_15 r15_16 r15_17
  have hle := hfr.le
  have hv1 : Is H1 v ys := hfr.is hv fun j hj => ⟨hv.lo j hj, fun x => x⟩
  by_cases hil : i < ys.length
  · have hil' : (i : Int) < (ys.length : Int) := by omega
    obtain ⟨q, o, r, l, ha, hid, hq, hgq, hr, hb, ht⟩ := hv1.get su25 sz45 .i64 hil
    have hqn : q < Hs.next := hv.lo q hid
    have hadd := dd_add hil hsrt hz hm
    have hskip := fun h0 he => @dd_skip ys i hil h0 he
    have hmem : ∀ p, p ∈ zs ++ [ys[i]] ↔ p ∈ ys.take (i + 1) := fun p => by rw [← List.take_append_getElem hil, List.mem_append, List.mem_append, hm]
    generalize hp : ys[i] = p at *
    rw [ce_pay] at ht
    simp only [El.sz] at hb ht
    have happ : ∀ (u : AVal) (Hx : Heap), Fr H1.next (fun _ => False) H1 Hx → Hx.next = H1.next + 2 → Is Hx u [p] → ∃ w' H', aAppend P Hx #[25, 25] w u = some (w', H') ∧ Mine H' 45 4 Hs.next w' (flat (zs ++ [p])) ∧ Fr Hs.next (fun _ => False) Hs H' ∧ H'.next ≤ H1.next + 3 := by
      intro u Hx hF hx2 hu
      obtain ⟨w', H', e1, e2, e3, e4, e5⟩ := app_mine (α := Pay) (e := 45) (B := Hs.next) (zs := [p]) (v := w) (y := u) ap25_25 (hw.fr hF) hu (by simp only [List.length_singleton]; omega) (by decide) (by omega) (by omega)
      refine ⟨w', H', e1, e2, ⟨by omega, fun j hj _ => ?_⟩, by omega⟩
      rw [e5 j (by omega) (fun x => by have := hw.id x; omega), hF.same' (by omega)]
      exact hfr.same' hj
    by_cases h0 : i = 0
    · have h0' : ((i : Int) = 0) = True := eq_true (by omega)
      simp (disch := first | decide | omega | (simp only [next_push, next_set] <;> omega) | fail) only [↓SB, ↓SO, SM, ↓SD, ↓SL, ST, @if_true, @if_false, ↓reduceIte, reduceCtorEq, Bool.false_eq_true, beq_self_eq_true, repL, Nat.reduceMul, Nat.reduceLeDiff, Nat.zero_le, Nat.zero_mul, Nat.reduceAdd, Int.reduceEq, Int.reduceLT, Int.reduceLE, Nat.zero_add, Nat.add_zero, h58, h7, h59, h60, h8, hil', ha, hgq, hr, hb, ht, h0', ↓wd_R rd15_15_3, pend_ld rd15_15_3, ↓wd_R rd15_15_8, pend_ld rd15_15_8]
      have hF : Fr H1.next (fun _ => False) H1 (((H1.push (.cells 45 [.int .i64 0, .int .i64 0, .int .i64 0, .int .i64 0] false 0 false)).set H1.next (.cells 45 [i64 p.k, i64 p.t, i64 p.f, i64 p.a] false 0 false)).push (.cells 45 [i64 p.k, i64 p.t, i64 p.f, i64 p.a] false 0 false)) := (by repeat (first | exact Fr.refl _ _ _ | refine Fr.push ?_ (by first | omega | (simp only [next_push, next_set] <;> omega)) (by first | omega | (simp only [next_push, next_set] <;> omega)) _ | refine Fr.set ?_ (.inl (by first | omega | (simp only [next_push, next_set] <;> omega))) (by first | omega | (simp only [next_push, next_set] <;> omega)) (by first | omega | (simp only [next_push, next_set] <;> omega)) _))
      obtain ⟨w', H', e1, e2, e3, e4⟩ := happ (.slice (H1.next + 1) 0 1 1) _ hF rfl (is_built (get_push_same _ _ (by simp only [next_push, next_set])) (by rw [flat_one]; rfl) rfl (by simp only [next_push, next_set]; omega))
      simp (disch := first | decide | omega | (simp only [next_push, next_set] <;> omega) | fail) only [↓SB, ↓SO, SM, ↓SD, ↓SL, ST, @if_true, @if_false, ↓reduceIte, reduceCtorEq, Bool.false_eq_true, beq_self_eq_true, repL, Nat.reduceMul, Nat.reduceLeDiff, Nat.zero_le, Nat.zero_mul, Nat.reduceAdd, Int.reduceEq, Int.reduceLT, Int.reduceLE, Nat.zero_add, Nat.add_zero, e1, h60]
      exact ⟨k - 1, by omega, _, _, i + 1, w', zs ++ [p], rfl, by omega, by simp (disch := first | decide | omega | (simp only [next_push, next_set] <;> omega) | fail) only [↓SB, ↓SO, SM, ↓SD, ↓SL, ST, @if_true, @if_false, ↓reduceIte, reduceCtorEq, Bool.false_eq_true, beq_self_eq_true, repL, Nat.reduceMul, Nat.reduceLeDiff, Nat.zero_le, Nat.zero_mul, Nat.reduceAdd, Int.reduceEq, Int.reduceLT, Int.reduceLE, Nat.zero_add, Nat.add_zero, h58], by simp (disch := first | decide | omega | (simp only [next_push, next_set] <;> omega) | fail) only [↓SB, ↓SO, SM, ↓SD, ↓SL, ST, @if_true, @if_false, ↓reduceIte, reduceCtorEq, Bool.false_eq_true, beq_self_eq_true, repL, Nat.reduceMul, Nat.reduceLeDiff, Nat.zero_le, Nat.zero_mul, Nat.reduceAdd, Int.reduceEq, Int.reduceLT, Int.reduceLE, Nat.zero_add, Nat.add_zero, h7], by simp (disch := first | decide | omega | (simp only [next_push, next_set] <;> omega) | fail) only [↓SB, ↓SO, SM, ↓SD, ↓SL, ST, @if_true, @if_false, ↓reduceIte, reduceCtorEq, Bool.false_eq_true, beq_self_eq_true, repL, Nat.reduceMul, Nat.reduceLeDiff, Nat.zero_le, Nat.zero_mul, Nat.reduceAdd, Int.reduceEq, Int.reduceLT, Int.reduceLE, Nat.zero_add, Nat.add_zero, h59], by simp (disch := first | decide | omega | (simp only [next_push, next_set] <;> omega) | fail) only [↓SB, ↓SO, SM, ↓SD, ↓SL, ST, @if_true, @if_false, ↓reduceIte, reduceCtorEq, Bool.false_eq_true, beq_self_eq_true, repL, Nat.reduceMul, Nat.reduceLeDiff, Nat.zero_le, Nat.zero_mul, Nat.reduceAdd, Int.reduceEq, Int.reduceLT, Int.reduceLE, Nat.zero_add, Nat.add_zero, ]; rfl, by simp (disch := first | decide | omega | (simp only [next_push, next_set] <;> omega) | fail) only [↓SB, ↓SO, SM, ↓SD, ↓SL, ST, @if_true, @if_false, ↓reduceIte, reduceCtorEq, Bool.false_eq_true, beq_self_eq_true, repL, Nat.reduceMul, Nat.reduceLeDiff, Nat.zero_le, Nat.zero_mul, Nat.reduceAdd, Int.reduceEq, Int.reduceLT, Int.reduceLE, Nat.zero_add, Nat.add_zero, ], e2, hadd (.inl h0), hmem, by rw [List.length_append, List.length_singleton]; omega, e3, by omega⟩
    · have h0' : ¬ (i : Int) = 0 := by omega
      obtain ⟨q', o', r', l', ha', hid', hq', hgq', hr', hb', ht'⟩ := hv1.get su25 sz45 .i64 (j := i - 1) (by omega)
      rw [show ((i - 1 : Nat) : Int) = (i : Int) - 1 by omega] at ha'
      have hqn' : q' < Hs.next := hv.lo q' hid'
      rw [ce_pay] at ht'
      simp only [El.sz] at hb' ht'
      generalize hp' : ys[i - 1] = p' at *
      by_cases hpp : p = p'
      · simp (disch := first | decide | omega | (simp only [next_push, next_set] <;> omega) | fail) only [↓SB, ↓SO, SM, ↓SD, ↓SL, ST, @if_true, @if_false, ↓reduceIte, reduceCtorEq, Bool.false_eq_true, beq_self_eq_true, repL, Nat.reduceMul, Nat.reduceLeDiff, Nat.zero_le, Nat.zero_mul, Nat.reduceAdd, Int.reduceEq, Int.reduceLT, Int.reduceLE, Nat.zero_add, Nat.add_zero, h58, h7, h59, h60, h8, hil', ha, hgq, hr, hb, ht, h0', ha', hgq', hr', hb', ht', neq45, hpp, Bool.not_true, Bool.not_false, ↓wd_R rd15_15_3, pend_ld rd15_15_3, ↓wd_R rd15_15_8, pend_ld rd15_15_8]
        have hF : Fr H1.next (fun _ => False) H1 ((H1.push (.cells 45 [.int .i64 0, .int .i64 0, .int .i64 0, .int .i64 0] false 0 false)).set H1.next (.cells 45 [i64 p'.k, i64 p'.t, i64 p'.f, i64 p'.a] false 0 false)) := (by repeat (first | exact Fr.refl _ _ _ | refine Fr.push ?_ (by first | omega | (simp only [next_push, next_set] <;> omega)) (by first | omega | (simp only [next_push, next_set] <;> omega)) _ | refine Fr.set ?_ (.inl (by first | omega | (simp only [next_push, next_set] <;> omega))) (by first | omega | (simp only [next_push, next_set] <;> omega)) (by first | omega | (simp only [next_push, next_set] <;> omega)) _))
        exact ⟨k - 1, by omega, _, _, i + 1, w, zs, rfl, by omega, by simp (disch := first | decide | omega | (simp only [next_push, next_set] <;> omega) | fail) only [↓SB, ↓SO, SM, ↓SD, ↓SL, ST, @if_true, @if_false, ↓reduceIte, reduceCtorEq, Bool.false_eq_true, beq_self_eq_true, repL, Nat.reduceMul, Nat.reduceLeDiff, Nat.zero_le, Nat.zero_mul, Nat.reduceAdd, Int.reduceEq, Int.reduceLT, Int.reduceLE, Nat.zero_add, Nat.add_zero, h58], by simp (disch := first | decide | omega | (simp only [next_push, next_set] <;> omega) | fail) only [↓SB, ↓SO, SM, ↓SD, ↓SL, ST, @if_true, @if_false, ↓reduceIte, reduceCtorEq, Bool.false_eq_true, beq_self_eq_true, repL, Nat.reduceMul, Nat.reduceLeDiff, Nat.zero_le, Nat.zero_mul, Nat.reduceAdd, Int.reduceEq, Int.reduceLT, Int.reduceLE, Nat.zero_add, Nat.add_zero, h7], by simp (disch := first | decide | omega | (simp only [next_push, next_set] <;> omega) | fail) only [↓SB, ↓SO, SM, ↓SD, ↓SL, ST, @if_true, @if_false, ↓reduceIte, reduceCtorEq, Bool.false_eq_true, beq_self_eq_true, repL, Nat.reduceMul, Nat.reduceLeDiff, Nat.zero_le, Nat.zero_mul, Nat.reduceAdd, Int.reduceEq, Int.reduceLT, Int.reduceLE, Nat.zero_add, Nat.add_zero, h59], by simp (disch := first | decide | omega | (simp only [next_push, next_set] <;> omega) | fail) only [↓SB, ↓SO, SM, ↓SD, ↓SL, ST, @if_true, @if_false, ↓reduceIte, reduceCtorEq, Bool.false_eq_true, beq_self_eq_true, repL, Nat.reduceMul, Nat.reduceLeDiff, Nat.zero_le, Nat.zero_mul, Nat.reduceAdd, Int.reduceEq, Int.reduceLT, Int.reduceLE, Nat.zero_add, Nat.add_zero, ]; rfl, by simp (disch := first | decide | omega | (simp only [next_push, next_set] <;> omega) | fail) only [↓SB, ↓SO, SM, ↓SD, ↓SL, ST, @if_true, @if_false, ↓reduceIte, reduceCtorEq, Bool.false_eq_true, beq_self_eq_true, repL, Nat.reduceMul, Nat.reduceLeDiff, Nat.zero_le, Nat.zero_mul, Nat.reduceAdd, Int.reduceEq, Int.reduceLT, Int.reduceLE, Nat.zero_add, Nat.add_zero, h8], hw.fr hF, hz, fun p => by rw [hm, hskip (by omega) (hpp.trans hp'.symm)], by omega, hfr.on hle hF, by simp only [next_push, next_set]; omega⟩
      · simp (disch := first | decide | omega | (simp only [next_push, next_set] <;> omega) | fail) only [↓SB, ↓SO, SM, ↓SD, ↓SL, ST, @if_true, @if_false, ↓reduceIte, reduceCtorEq, Bool.false_eq_true, beq_self_eq_true, repL, Nat.reduceMul, Nat.reduceLeDiff, Nat.zero_le, Nat.zero_mul, Nat.reduceAdd, Int.reduceEq, Int.reduceLT, Int.reduceLE, Nat.zero_add, Nat.add_zero, h58, h7, h59, h60, h8, hil', ha, hgq, hr, hb, ht, h0', ha', hgq', hr', hb', ht', neq45, hpp, Bool.not_true, Bool.not_false, ↓wd_R rd15_15_3, pend_ld rd15_15_3, ↓wd_R rd15_15_8, pend_ld rd15_15_8]
        have hF : Fr H1.next (fun _ => False) H1 (((H1.push (.cells 45 [.int .i64 0, .int .i64 0, .int .i64 0, .int .i64 0] false 0 false)).set H1.next (.cells 45 [i64 p.k, i64 p.t, i64 p.f, i64 p.a] false 0 false)).push (.cells 45 [i64 p.k, i64 p.t, i64 p.f, i64 p.a] false 0 false)) := (by repeat (first | exact Fr.refl _ _ _ | refine Fr.push ?_ (by first | omega | (simp only [next_push, next_set] <;> omega)) (by first | omega | (simp only [next_push, next_set] <;> omega)) _ | refine Fr.set ?_ (.inl (by first | omega | (simp only [next_push, next_set] <;> omega))) (by first | omega | (simp only [next_push, next_set] <;> omega)) (by first | omega | (simp only [next_push, next_set] <;> omega)) _))
        obtain ⟨w', H', e1, e2, e3, e4⟩ := happ (.slice (H1.next + 1) 0 1 1) _ hF rfl (is_built (get_push_same _ _ (by simp only [next_push, next_set])) (by rw [flat_one]; rfl) rfl (by simp only [next_push, next_set]; omega))
        simp (disch := first | decide | omega | (simp only [next_push, next_set] <;> omega) | fail) only [↓SB, ↓SO, SM, ↓SD, ↓SL, ST, @if_true, @if_false, ↓reduceIte, reduceCtorEq, Bool.false_eq_true, beq_self_eq_true, repL, Nat.reduceMul, Nat.reduceLeDiff, Nat.zero_le, Nat.zero_mul, Nat.reduceAdd, Int.reduceEq, Int.reduceLT, Int.reduceLE, Nat.zero_add, Nat.add_zero, e1, h60]
        exact ⟨k - 1, by omega, _, _, i + 1, w', zs ++ [p], rfl, by omega, by simp (disch := first | decide | omega | (simp only [next_push, next_set] <;> omega) | fail) only [↓SB, ↓SO, SM, ↓SD, ↓SL, ST, @if_true, @if_false, ↓reduceIte, reduceCtorEq, Bool.false_eq_true, beq_self_eq_true, repL, Nat.reduceMul, Nat.reduceLeDiff, Nat.zero_le, Nat.zero_mul, Nat.reduceAdd, Int.reduceEq, Int.reduceLT, Int.reduceLE, Nat.zero_add, Nat.add_zero, h58], by simp (disch := first | decide | omega | (simp only [next_push, next_set] <;> omega) | fail) only [↓SB, ↓SO, SM, ↓SD, ↓SL, ST, @if_true, @if_false, ↓reduceIte, reduceCtorEq, Bool.false_eq_true, beq_self_eq_true, repL, Nat.reduceMul, Nat.reduceLeDiff, Nat.zero_le, Nat.zero_mul, Nat.reduceAdd, Int.reduceEq, Int.reduceLT, Int.reduceLE, Nat.zero_add, Nat.add_zero, h7], by simp (disch := first | decide | omega | (simp only [next_push, next_set] <;> omega) | fail) only [↓SB, ↓SO, SM, ↓SD, ↓SL, ST, @if_true, @if_false, ↓reduceIte, reduceCtorEq, Bool.false_eq_true, beq_self_eq_true, repL, Nat.reduceMul, Nat.reduceLeDiff, Nat.zero_le, Nat.zero_mul, Nat.reduceAdd, Int.reduceEq, Int.reduceLT, Int.reduceLE, Nat.zero_add, Nat.add_zero, h59], by simp (disch := first | decide | omega | (simp only [next_push, next_set] <;> omega) | fail) only [↓SB, ↓SO, SM, ↓SD, ↓SL, ST, @if_true, @if_false, ↓reduceIte, reduceCtorEq, Bool.false_eq_true, beq_self_eq_true, repL, Nat.reduceMul, Nat.reduceLeDiff, Nat.zero_le, Nat.zero_mul, Nat.reduceAdd, Int.reduceEq, Int.reduceLT, Int.reduceLE, Nat.zero_add, Nat.add_zero, ]; rfl, by simp (disch := first | decide | omega | (simp only [next_push, next_set] <;> omega) | fail) only [↓SB, ↓SO, SM, ↓SD, ↓SL, ST, @if_true, @if_false, ↓reduceIte, reduceCtorEq, Bool.false_eq_true, beq_self_eq_true, repL, Nat.reduceMul, Nat.reduceLeDiff, Nat.zero_le, Nat.zero_mul, Nat.reduceAdd, Int.reduceEq, Int.reduceLT, Int.reduceLE, Nat.zero_add, Nat.add_zero, ], e2, hadd (.inr ⟨by omega, fun x => hpp (x.trans hp')⟩), hmem, by rw [List.length_append, List.length_singleton]; omega, e3, by omega⟩
  · have hil' : ¬ (i : Int) < (ys.length : Int) := by omega
    simp (disch := first | decide | omega | (simp only [next_push, next_set] <;> omega) | fail) only [↓SB, ↓SO, SM, ↓SD, ↓SL, ST, @if_true, @if_false, ↓reduceIte, reduceCtorEq, Bool.false_eq_true, beq_self_eq_true, repL, Nat.reduceMul, Nat.reduceLeDiff, Nat.zero_le, Nat.zero_mul, Nat.reduceAdd, Int.reduceEq, Int.reduceLT, Int.reduceLE, Nat.zero_add, Nat.add_zero, h58, h59, h60, hil']
    rw [List.take_of_length_le (by omega)] at hm
    exact h _ _ _ _ (by simp (disch := first | decide | omega | (simp only [next_push, next_set] <;> omega) | fail) only [↓SB, ↓SO, SM, ↓SD, ↓SL, ST, @if_true, @if_false, ↓reduceIte, reduceCtorEq, Bool.false_eq_true, beq_self_eq_true, repL, Nat.reduceMul, Nat.reduceLeDiff, Nat.zero_le, Nat.zero_mul, Nat.reduceAdd, Int.reduceEq, Int.reduceLT, Int.reduceLE, Nat.zero_add, Nat.add_zero, h8]) hw hz hm (by omega) hfr (by omega)

end
end Go.Proofs.YtbokoinmlbipmaaGreatDoor.Ev.Sy

-- Wk
namespace Go.Proofs.YtbokoinmlbipmaaGreatDoor.Ev.Sy
open Go Go.Proofs.YtbokoinmlbipmaaGreatDoor.Ev Go.Proofs
noncomputable section
set_option linter.unusedSimpArgs false
set_option linter.unusedVariables false
set_option linter.unusedSectionVars false

variable {T : Table} (hT : ∀ f, f ≠ 6 → (T.find f).val = []) {fuel : Nat} (hf : 1000 ≤ fuel)

theorem mine_low {H : Heap} {e s B C : Nat} {v : AVal} {ys : List AVal} (h : Mine H e s B v ys) (hc : C ≤ B) : Mine H e s C v ys := by
  rcases h with h | ⟨i, n, h1, h2, h3, h4, h5, h6⟩
  · exact .inl h
  · exact .inr ⟨i, n, h1, h2, h3, by omega, h5, h6⟩

include hT hf in
theorem payments_run {n : Nat} {H : Heap} {c : Scr} {at_ m : Int} {a b d pv g : AVal} (hpv : Is H pv c.py) (hm : -100000 ≤ m ∧ m ≤ 100000) (hu : -100000 ≤ c.u ∧ c.u ≤ 100000) (hlen : c.py.length ≤ 12) (hl : H.next + 1000 ≤ 32768) (Q : AVal × Heap → Prop)
    (h : ∀ H' w out, payRes c at_ m out → out.length ≤ 12 → Mine H' 45 4 H.next w (flat out) → Fr H.next (fun _ => False) H H' → H'.next ≤ H.next + 600 → Q (w, H')) :
    Wp ((R T fuel (n + 7)).func 15 [scV c a b d pv g, i64 at_, i64 m] H) Q := by
  refine call_eq hT (by decide) (fn15 fuel) _ _ (wp_fBody (Nat.le_of_ble_eq_true rfl) ?_)
  unfold c15 r15_0 r15_1 r15_2 r15_3 r15_4 r15_11 r15_12 r15_18
  have l1 := hpv.length su25
  by_cases hmu : c.u < m
  · simp (disch := first | decide | omega | (simp only [next_push, next_set] <;> omega) | fail) only [↓SB, ↓SO, SM, ↓SD, ↓SL, ST, @if_true, @if_false, ↓reduceIte, reduceCtorEq, Bool.false_eq_true, beq_self_eq_true, repL, Nat.reduceMul, Nat.reduceLeDiff, Nat.zero_le, Nat.zero_mul, Nat.reduceAdd, Int.reduceEq, Int.reduceLT, Int.reduceLE, Nat.zero_add, Nat.add_zero, hmu]
    exact h _ _ [] ⟨List.Pairwise.nil, fun p => ⟨fun x => (by cases x), fun x => (by have := x.1; omega)⟩⟩ (by decide) (.inl ⟨rfl, rfl⟩) (by repeat (first | exact Fr.refl _ _ _ | refine Fr.push ?_ (by first | omega | (simp only [next_push, next_set] <;> omega)) (by first | omega | (simp only [next_push, next_set] <;> omega)) _ | refine Fr.set ?_ (.inl (by first | omega | (simp only [next_push, next_set] <;> omega))) (by first | omega | (simp only [next_push, next_set] <;> omega)) (by first | omega | (simp only [next_push, next_set] <;> omega)) _)) (by simp only [next_push]; omega)
  · simp (disch := first | decide | omega | (simp only [next_push, next_set] <;> omega) | fail) only [↓SB, ↓SO, SM, ↓SD, ↓SL, ST, @if_true, @if_false, ↓reduceIte, reduceCtorEq, Bool.false_eq_true, beq_self_eq_true, repL, Nat.reduceMul, Nat.reduceLeDiff, Nat.zero_le, Nat.zero_mul, Nat.reduceAdd, Int.reduceEq, Int.reduceLT, Int.reduceLE, Nat.zero_add, Nat.add_zero, hmu, l1]
    refine pl1_run hT hf (H := H) (c := c) (at_ := at_) (m := m) (a := a) (b := b) (d := d) (pv := pv) (g := g) (k := c.py.length) hpv hm hu hlen (by omega)
      ⟨_, _, 0, .nils, rfl, by omega, by simp (disch := first | decide | omega | (simp only [next_push, next_set] <;> omega) | fail) only [↓SB, ↓SO, SM, ↓SD, ↓SL, ST, @if_true, @if_false, ↓reduceIte, reduceCtorEq, Bool.false_eq_true, beq_self_eq_true, repL, Nat.reduceMul, Nat.reduceLeDiff, Nat.zero_le, Nat.zero_mul, Nat.reduceAdd, Int.reduceEq, Int.reduceLT, Int.reduceLE, Nat.zero_add, Nat.add_zero, ], by simp (disch := first | decide | omega | (simp only [next_push, next_set] <;> omega) | fail) only [↓SB, ↓SO, SM, ↓SD, ↓SL, ST, @if_true, @if_false, ↓reduceIte, reduceCtorEq, Bool.false_eq_true, beq_self_eq_true, repL, Nat.reduceMul, Nat.reduceLeDiff, Nat.zero_le, Nat.zero_mul, Nat.reduceAdd, Int.reduceEq, Int.reduceLT, Int.reduceLE, Nat.zero_add, Nat.add_zero, ], by simp (disch := first | decide | omega | (simp only [next_push, next_set] <;> omega) | fail) only [↓SB, ↓SO, SM, ↓SD, ↓SL, ST, @if_true, @if_false, ↓reduceIte, reduceCtorEq, Bool.false_eq_true, beq_self_eq_true, repL, Nat.reduceMul, Nat.reduceLeDiff, Nat.zero_le, Nat.zero_mul, Nat.reduceAdd, Int.reduceEq, Int.reduceLT, Int.reduceLE, Nat.zero_add, Nat.add_zero, ], by simp (disch := first | decide | omega | (simp only [next_push, next_set] <;> omega) | fail) only [↓SB, ↓SO, SM, ↓SD, ↓SL, ST, @if_true, @if_false, ↓reduceIte, reduceCtorEq, Bool.false_eq_true, beq_self_eq_true, repL, Nat.reduceMul, Nat.reduceLeDiff, Nat.zero_le, Nat.zero_mul, Nat.reduceAdd, Int.reduceEq, Int.reduceLT, Int.reduceLE, Nat.zero_add, Nat.add_zero, ], by simp (disch := first | decide | omega | (simp only [next_push, next_set] <;> omega) | fail) only [↓SB, ↓SO, SM, ↓SD, ↓SL, ST, @if_true, @if_false, ↓reduceIte, reduceCtorEq, Bool.false_eq_true, beq_self_eq_true, repL, Nat.reduceMul, Nat.reduceLeDiff, Nat.zero_le, Nat.zero_mul, Nat.reduceAdd, Int.reduceEq, Int.reduceLT, Int.reduceLE, Nat.zero_add, Nat.add_zero, ], by simp (disch := first | decide | omega | (simp only [next_push, next_set] <;> omega) | fail) only [↓SB, ↓SO, SM, ↓SD, ↓SL, ST, @if_true, @if_false, ↓reduceIte, reduceCtorEq, Bool.false_eq_true, beq_self_eq_true, repL, Nat.reduceMul, Nat.reduceLeDiff, Nat.zero_le, Nat.zero_mul, Nat.reduceAdd, Int.reduceEq, Int.reduceLT, Int.reduceLE, Nat.zero_add, Nat.add_zero, ]; rfl, by simp (disch := first | decide | omega | (simp only [next_push, next_set] <;> omega) | fail) only [↓SB, ↓SO, SM, ↓SD, ↓SL, ST, @if_true, @if_false, ↓reduceIte, reduceCtorEq, Bool.false_eq_true, beq_self_eq_true, repL, Nat.reduceMul, Nat.reduceLeDiff, Nat.zero_le, Nat.zero_mul, Nat.reduceAdd, Int.reduceEq, Int.reduceLT, Int.reduceLE, Nat.zero_add, Nat.add_zero, ], by simp (disch := first | decide | omega | (simp only [next_push, next_set] <;> omega) | fail) only [↓SB, ↓SO, SM, ↓SD, ↓SL, ST, @if_true, @if_false, ↓reduceIte, reduceCtorEq, Bool.false_eq_true, beq_self_eq_true, repL, Nat.reduceMul, Nat.reduceLeDiff, Nat.zero_le, Nat.zero_mul, Nat.reduceAdd, Int.reduceEq, Int.reduceLT, Int.reduceLE, Nat.zero_add, Nat.add_zero, ], get_push_same _ _ rfl, .inl ⟨rfl, by simp [flat]⟩, (by repeat (first | exact Fr.refl _ _ _ | refine Fr.push ?_ (by first | omega | (simp only [next_push, next_set] <;> omega)) (by first | omega | (simp only [next_push, next_set] <;> omega)) _ | refine Fr.set ?_ (.inl (by first | omega | (simp only [next_push, next_set] <;> omega))) (by first | omega | (simp only [next_push, next_set] <;> omega)) (by first | omega | (simp only [next_push, next_set] <;> omega)) _)), by simp only [next_push]; omega, by simp only [next_push]; omega⟩ (by omega) ?_
    intro e H1 v h7 h8 hv hfr hn
    have hle := hfr.le
    have hlf := List.length_filter_le (fun p => decide (keepP c at_ m p)) c.py
    simp (disch := first | decide | omega | (simp only [next_push, next_set] <;> omega) | fail) only [↓SB, ↓SO, SM, ↓SD, ↓SL, ST, @if_true, @if_false, ↓reduceIte, reduceCtorEq, Bool.false_eq_true, beq_self_eq_true, repL, Nat.reduceMul, Nat.reduceLeDiff, Nat.zero_le, Nat.zero_mul, Nat.reduceAdd, Int.reduceEq, Int.reduceLT, Int.reduceLE, Nat.zero_add, Nat.add_zero, h7, h8]
    refine sort_run hT hf hv (by omega) (by omega) _ ?_
    intro H2 ys hp hs hv2 hfr2 hn2
    have hle2 := hfr2.le
    have hlen2 := hp.length_eq
    have l2 := Is.length (Mine.is (α := Pay) hv2) su25
    simp (disch := first | decide | omega | (simp only [next_push, next_set] <;> omega) | fail) only [↓SB, ↓SO, SM, ↓SD, ↓SL, ST, @if_true, @if_false, ↓reduceIte, reduceCtorEq, Bool.false_eq_true, beq_self_eq_true, repL, Nat.reduceMul, Nat.reduceLeDiff, Nat.zero_le, Nat.zero_mul, Nat.reduceAdd, Int.reduceEq, Int.reduceLT, Int.reduceLE, Nat.zero_add, Nat.add_zero, h7, h8, l2]
    refine pl2_run hT hf (Hs := H2) (v := v) (ys := ys) (k := ys.length) (Mine.is (α := Pay) hv2) hs (by omega) (by omega)
      ⟨_, _, 0, .nils, [], rfl, by omega, by simp (disch := first | decide | omega | (simp only [next_push, next_set] <;> omega) | fail) only [↓SB, ↓SO, SM, ↓SD, ↓SL, ST, @if_true, @if_false, ↓reduceIte, reduceCtorEq, Bool.false_eq_true, beq_self_eq_true, repL, Nat.reduceMul, Nat.reduceLeDiff, Nat.zero_le, Nat.zero_mul, Nat.reduceAdd, Int.reduceEq, Int.reduceLT, Int.reduceLE, Nat.zero_add, Nat.add_zero, ], by simp (disch := first | decide | omega | (simp only [next_push, next_set] <;> omega) | fail) only [↓SB, ↓SO, SM, ↓SD, ↓SL, ST, @if_true, @if_false, ↓reduceIte, reduceCtorEq, Bool.false_eq_true, beq_self_eq_true, repL, Nat.reduceMul, Nat.reduceLeDiff, Nat.zero_le, Nat.zero_mul, Nat.reduceAdd, Int.reduceEq, Int.reduceLT, Int.reduceLE, Nat.zero_add, Nat.add_zero, h7], by simp (disch := first | decide | omega | (simp only [next_push, next_set] <;> omega) | fail) only [↓SB, ↓SO, SM, ↓SD, ↓SL, ST, @if_true, @if_false, ↓reduceIte, reduceCtorEq, Bool.false_eq_true, beq_self_eq_true, repL, Nat.reduceMul, Nat.reduceLeDiff, Nat.zero_le, Nat.zero_mul, Nat.reduceAdd, Int.reduceEq, Int.reduceLT, Int.reduceLE, Nat.zero_add, Nat.add_zero, ], by simp (disch := first | decide | omega | (simp only [next_push, next_set] <;> omega) | fail) only [↓SB, ↓SO, SM, ↓SD, ↓SL, ST, @if_true, @if_false, ↓reduceIte, reduceCtorEq, Bool.false_eq_true, beq_self_eq_true, repL, Nat.reduceMul, Nat.reduceLeDiff, Nat.zero_le, Nat.zero_mul, Nat.reduceAdd, Int.reduceEq, Int.reduceLT, Int.reduceLE, Nat.zero_add, Nat.add_zero, ]; rfl, by simp (disch := first | decide | omega | (simp only [next_push, next_set] <;> omega) | fail) only [↓SB, ↓SO, SM, ↓SD, ↓SL, ST, @if_true, @if_false, ↓reduceIte, reduceCtorEq, Bool.false_eq_true, beq_self_eq_true, repL, Nat.reduceMul, Nat.reduceLeDiff, Nat.zero_le, Nat.zero_mul, Nat.reduceAdd, Int.reduceEq, Int.reduceLT, Int.reduceLE, Nat.zero_add, Nat.add_zero, h8], .inl ⟨rfl, rfl⟩, List.Pairwise.nil, by intro p; simp, by simp, Fr.refl _ _ _, by omega⟩ (by omega) ?_
    intro e3 H3 w zs h8 hw hz hm3 hzl hfr3 hn3
    have hle3 := hfr3.le
    simp (disch := first | decide | omega | (simp only [next_push, next_set] <;> omega) | fail) only [↓SB, ↓SO, SM, ↓SD, ↓SL, ST, @if_true, @if_false, ↓reduceIte, reduceCtorEq, Bool.false_eq_true, beq_self_eq_true, repL, Nat.reduceMul, Nat.reduceLeDiff, Nat.zero_le, Nat.zero_mul, Nat.reduceAdd, Int.reduceEq, Int.reduceLT, Int.reduceLE, Nat.zero_add, Nat.add_zero, h8]
    have hfrA : Fr H.next (fun _ => False) H H2 := hfr.trans (hfr2.weak (by omega) fun j hj hx => by have := hv.id hx; omega)
    refine h _ _ zs ⟨hz, fun p => ?_⟩ ?_ (mine_low hw (by omega)) (hfrA.on (by omega) hfr3) (by omega)
    · rw [hm3, hp.mem_iff, List.mem_filter]
      simp only [decide_eq_true_eq]
      exact ⟨fun x => ⟨by omega, x⟩, fun x => x.2⟩
    · omega

end
end Go.Proofs.YtbokoinmlbipmaaGreatDoor.Ev.Sy

-- Wl
namespace Go.Proofs.YtbokoinmlbipmaaGreatDoor.Ev.Sy
open Go Go.Proofs.YtbokoinmlbipmaaGreatDoor.Ev Go.Proofs
noncomputable section
set_option linter.unusedSimpArgs false
set_option linter.unusedVariables false
set_option linter.unusedSectionVars false

variable {T : Table} (hT : ∀ f, f ≠ 6 → (T.find f).val = []) {fuel : Nat} (hf : 1000 ≤ fuel)

def nilB : AVal → Bool
  | .nils => true
  | _ => false

theorem eqIn_nil {P : Program} {t el : TypeId} (hu : P.underlying t = some (.slice el)) (d : Nat) {v : AVal} (hv : isSl v = true) : aEqIn P (d + 1) t v .nils = some (nilB v) := by
  rw [aEqIn.eq_def]
  simp only [hu]
  cases v <;> first | rfl | cases hv

theorem bin_nil {P : Program} {t el : TypeId} (hu : P.underlying t = some (.slice el)) (c : Bool) {v : AVal} (hv : isSl v = true) : aBin P .eql t c v .nils = some (.bool (nilB v)) := by
  have h := eqIn_nil hu 9999 hv
  cases v with
  | nils => show (match aEqIn P 10000 t .nils .nils with | some b => mkB b | none => none) = _; rw [h]; rfl
  | slice i o n k => show (match aEqIn P 10000 t (.slice i o n k) .nils with | some b => mkB b | none => none) = _; rw [h]; rfl
  | sliceO i o n k => show (match aEqIn P 10000 t (.sliceO i o n k) .nils with | some b => mkB b | none => none) = _; rw [h]; rfl
  | _ => cases hv

/-- An append to an empty slice that has just been built. -/
theorem app_empty {α : Type} [El α] {P : Program} {ts : Array TypeId} {e : Nat} (hc : appChk P ts e (El.sz α) = true) {H : Heap} {y : AVal} {zs : List α} {i : Nat} {e' : Nat} {o : Bool} {f : Nat} {s : Bool} (hi : H.get i = some (.cells e' [] o f s)) (hf0 : f = 0) (hin : i < H.next) (hy : Is H y zs)
    (hlen : zs.length ≤ 1000) (hl : H.next < 32768) :
    ∃ w H', aAppend P H ts (.slice i 0 0 0) y = some (w, H') ∧ Is H' w zs ∧ (∀ j, idOf w = some j → i ≤ j) ∧ H.next ≤ H'.next ∧ H'.next ≤ H.next + 1 ∧ ∀ j, j < H.next → j ≠ i → H'.get j = H.get j := by
  obtain ⟨ti, z, hT, hs, hb⟩ := appChk_some hc
  have hfit : fitsApp (Nat.add 0 zs.length) ti.bytes = true := by
    refine fits_of ?_ ?_
    · have : (0 + zs.length) * ti.bytes ≤ 1000 * 10000000 := Nat.mul_le_mul (by omega) hb
      show (0 + zs.length) * ti.bytes ≤ _; omega
    · show 0 + zs.length ≤ _; omega
  have hcells : H.cells i = some [] := by rw [cells_get, hi]; rfl
  have hx : slCells H (El.sz α) (.slice i 0 0 0) = some (0, []) := slCells_slice.2 ⟨[], hcells, by simp, by simp⟩
  subst hf0
  by_cases h0 : zs.length = 0
  · refine ⟨.slice i 0 0 0, H.set i (.cells e' (splice [] 0 []) o 0 s), ?_, ?_, ?_, Nat.le_refl _, by rw [next_set]; omega, fun j hj hne => get_set_ne H _ (fun x => hne x.symm) (by omega) (by omega)⟩
    · unfold aAppend
      rw [hT]; simp only [hs, hy.rd, hfit]
      have e1 : Nat.ble (Nat.add 0 zs.length) 0 = true := ble_of_le (by show 0 + zs.length ≤ 0; omega)
      rw [e1]
      have e2 : flat zs = [] := by
        cases zs with
        | nil => rfl
        | cons a l => simp at h0
      simp only [e2]
      rw [stCells_eq, hi, Option.bind_some, rowSt_cells]
      have e3 : (0 ≤ Nat.add 0 (Nat.mul 0 (El.sz α)) ∧ Nat.add 0 (Nat.mul 0 (El.sz α)) + ([] : List AVal).length ≤ ([] : List AVal).length ∧ ([] : List AVal).all scalarB = true) := by
        refine ⟨Nat.zero_le _, ?_, rfl⟩
        show 0 + 0 * El.sz α + 0 ≤ 0
        omega
      rw [if_pos e3]
      have e4 : Nat.add 0 (Nat.mul 0 (El.sz α)) = 0 := by show 0 + 0 * El.sz α = 0; omega
      have e5 : Nat.add 0 zs.length = 0 := by show 0 + zs.length = 0; omega
      simp only [e4, e5]
    · cases zs with
      | nil =>
        refine ⟨rfl, slCells_slice.2 ⟨[], by rw [cells_get, get_set_same]; rfl, by simp, by simp [flat]⟩, fun j hj => by cases hj; exact hin⟩
      | cons a l => simp at h0
    · intro j hj; cases hj; exact Nat.le_refl _
  · refine ⟨.sliceO H.next 0 zs.length (El.sz α), H.push (.cells e (flat zs) true 0 false), ?_, ?_, ?_, by rw [next_push]; omega, by rw [next_push]; omega, fun j hj _ => get_push_ne H _ hj hl⟩
    · unfold aAppend
      rw [hT]; simp only [hs, hy.rd, hfit]
      have e1 : Nat.ble (Nat.add 0 zs.length) 0 = false := by
        cases hb : Nat.ble (Nat.add 0 zs.length) 0 with
        | false => rfl
        | true => have := Nat.le_of_ble_eq_true hb; have : 0 + zs.length ≤ 0 := this; omega
      rw [e1]
      simp only [hx]
      rw [grow_ok hl]
      have e5 : Nat.add 0 zs.length = zs.length := Nat.zero_add _
      simp only [e5, List.nil_append]
    · have : Mine (H.push (.cells e (flat zs) true 0 false)) e (El.sz α) 0 (.sliceO H.next 0 zs.length (El.sz α)) (flat zs) := .inr ⟨H.next, zs.length, rfl, by rw [flat_len], by omega, Nat.zero_le _, by rw [next_push]; omega, get_push_same _ _ rfl⟩
      exact this.is
    · intro j hj; cases hj; omega

/-- An append to a slice of one's own, where it stands. -/
theorem wp_append {α : Type} [El α] {P : Program} {ts : Array TypeId} {e B : Nat} (hc : appChk P ts e (El.sz α) = true) {H1 Hx : Heap} {v y : AVal} {xs zs : List α} {K : AVal × Heap → Prop} (hv : Mine H1 e (El.sz α) B v (flat xs)) (hF : Fr H1.next (fun _ => False) H1 Hx)
    (hy : Is Hx y zs) (hlen : xs.length + zs.length ≤ 1000) (hsz : El.sz α ≤ 1000) (hl : Hx.next < 32768) (hB : B ≤ H1.next)
    (k : ∀ v' H', Mine H' e (El.sz α) B v' (flat (xs ++ zs)) → Hx.next ≤ H'.next → H'.next ≤ Hx.next + 1 → (∀ j, j < H1.next → idOf v ≠ some j → H'.get j = H1.get j) → K (v', H')) : Wp (aAppend P Hx ts v y) K := by
  have hle := hF.le
  obtain ⟨v', H', e1, e2, e3, e4, e5⟩ := app_mine (α := α) (e := e) (B := B) (zs := zs) (v := v) (y := y) hc (hv.fr hF) hy hlen hsz hl (by omega)
  exact ⟨(v', H'), e1, k v' H' e2 e3 e4 fun j hj hn => by rw [e5 j (by omega) hn]; exact hF.same' hj⟩

include hT in
theorem clone_run {n : Nat} {H : Heap} {v : AVal} {xs : List Frn} (hv : Is H v xs) (hlen : xs.length ≤ 100) (hl : H.next + 10 ≤ 32768) (Q : AVal × Heap → Prop)
    (h : ∀ H' w, Is H' w xs → (∀ j, idOf w = some j → H.next ≤ j) → Fr H.next (fun _ => False) H H' → H'.next ≤ H.next + 2 → Q (w, H')) :
    Wp ((R T fuel (n + 1)).func 16 [v] H) Q := by
  refine call_eq hT (by decide) (fn16 fuel) _ _ (wp_fBody (Nat.le_of_ble_eq_true rfl) ?_)
  unfold c16 r16_0 r16_1 r16_2 r16_3
  have e1 : aBin P .eql 26 true v .nils = some (.bool (nilB v)) := bin_nil su26 true hv.sl
  cases hn : nilB v with
  | true =>
    simp (disch := first | decide | omega | (simp only [next_push, next_set] <;> omega) | fail) only [↓SB, ↓SO, SM, ↓SD, ↓SL, ST, List.getElem?_cons_zero, List.getElem?_cons_succ, @if_true, @if_false, ↓reduceIte, reduceCtorEq, Bool.false_eq_true, beq_self_eq_true, repL, Nat.reduceMul, Nat.reduceLeDiff, Nat.zero_le, Nat.zero_mul, Nat.reduceAdd, Int.reduceEq, Int.reduceLT, Int.reduceLE, Nat.zero_add, Nat.add_zero, e1, hn]
    have hx : xs = [] := by
      have hvn : v = .nils := by cases v <;> first | rfl | cases hn
      subst hvn
      have := hv.rd
      simp only [slCells, Option.some.injEq, Prod.mk.injEq] at this
      cases xs with
      | nil => rfl
      | cons a l => simp at this
    subst hx
    exact h H .nils (Is.nil H) (fun j hj => by cases hj) (Fr.refl _ _ _) (by omega)
  | false =>
    simp (disch := first | decide | omega | (simp only [next_push, next_set] <;> omega) | fail) only [↓SB, ↓SO, SM, ↓SD, ↓SL, ST, List.getElem?_cons_zero, List.getElem?_cons_succ, @if_true, @if_false, ↓reduceIte, reduceCtorEq, Bool.false_eq_true, beq_self_eq_true, repL, Nat.reduceMul, Nat.reduceLeDiff, Nat.zero_le, Nat.zero_mul, Nat.reduceAdd, Int.reduceEq, Int.reduceLT, Int.reduceLE, Nat.zero_add, Nat.add_zero, e1, hn]
    have hF : Fr H.next (fun _ => False) H (H.push (.cells 86 [] false 0 false)) := (by repeat (first | exact Fr.refl _ _ _ | refine Fr.push ?_ (by first | omega | (simp only [next_push, next_set] <;> omega)) (by first | omega | (simp only [next_push, next_set] <;> omega)) _ | refine Fr.set ?_ (.inl (by first | omega | (simp only [next_push, next_set] <;> omega))) (by first | omega | (simp only [next_push, next_set] <;> omega)) (by first | omega | (simp only [next_push, next_set] <;> omega)) _))
    obtain ⟨w, H', e2, e3, e4, e5, e6, e7⟩ := app_empty (α := Frn) (e := 86) ap26_26 (H := H.push (.cells 86 [] false 0 false)) (i := H.next) (get_push_same _ _ rfl) rfl (by rw [next_push]; omega) (hF.is hv fun j hj => ⟨hv.lo j hj, fun x => x⟩) (by omega) (by rw [next_push]; omega)
    rw [next_push] at e5 e6 e7
    simp (disch := first | decide | omega | (simp only [next_push, next_set] <;> omega) | fail) only [↓SB, ↓SO, SM, ↓SD, ↓SL, ST, List.getElem?_cons_zero, List.getElem?_cons_succ, @if_true, @if_false, ↓reduceIte, reduceCtorEq, Bool.false_eq_true, beq_self_eq_true, repL, Nat.reduceMul, Nat.reduceLeDiff, Nat.zero_le, Nat.zero_mul, Nat.reduceAdd, Int.reduceEq, Int.reduceLT, Int.reduceLE, Nat.zero_add, Nat.add_zero, e2]
    refine h H' w e3 e4 ⟨by omega, fun j hj _ => ?_⟩ (by omega)
    rw [e7 j (by omega) (by omega)]; exact hF.same' hj

end
end Go.Proofs.YtbokoinmlbipmaaGreatDoor.Ev.Sy

-- Wm
namespace Go.Proofs.YtbokoinmlbipmaaGreatDoor.Ev.Sy
open Go Go.Proofs.YtbokoinmlbipmaaGreatDoor.Ev Go.Proofs
noncomputable section
set_option linter.unusedSimpArgs false
set_option linter.unusedVariables false
set_option linter.unusedSectionVars false

/-! ### What the parts of a rest are -/

def spF (m u : Int) (s : Spl) : Spl := { s with f := max s.f m, u := min s.u u }
def spL (m u : Int) (l : List Spl) : List Spl := (l.map (spF m u)).filter fun s => decide (s.f ≤ s.u)
def ovF (m u : Int) (o : Ovr) : Ovr := { o with f := max (max o.f o.n) m, u := min o.u u, n := 0 }
def ovL (m u : Int) (l : List Ovr) : List Ovr := (l.map (ovF m u)).filter fun s => decide (s.f ≤ s.u)
def knF (at_ m u n : Int) : Int := if n ≤ min m at_ then 0 else if max u at_ < n then 38399 else n
def dfF (at_ m u : Int) (d : Dfc) : Dfc := { d with f := max d.f m, u := min d.u u, n := knF at_ m u d.n }
def dfL (at_ m u : Int) (l : List Dfc) : List Dfc := (l.map (dfF at_ m u)).filter fun s => decide (s.f ≤ s.u)

theorem ce_spl (p : Spl) : (El.ce p : List AVal) = [i64 p.k, i64 p.q, i64 p.n, i64 p.f, i64 p.u] := rfl
theorem ce_ovr (p : Ovr) : (El.ce p : List AVal) = [i64 p.k, i64 p.t, i64 p.p, i64 p.l, i64 p.f, i64 p.u, i64 p.n] := rfl
theorem ce_dfc (p : Dfc) : (El.ce p : List AVal) = [i64 p.t, i64 p.c, i64 p.f, i64 p.u, i64 p.n] := rfl

theorem mf_step {α : Type} {g : α → α} {t : α → Bool} {l : List α} {i : Nat} (hi : i < l.length) : ((l.take (i + 1)).map g).filter t = ((l.take i).map g).filter t ++ [g l[i]].filter t := by
  rw [← List.take_append_getElem hi, List.map_append, List.filter_append]; rfl
theorem f_yes {α : Type} (t : α → Bool) (x : α) (h : t x = true) : [x].filter t = [x] := by simp [h]
theorem f_no {α : Type} (t : α → Bool) (x : α) (h : ¬ t x = true) : [x].filter t = [] := by simp [h]
theorem mf_len {α : Type} (g : α → α) (t : α → Bool) (l : List α) (i : Nat) : (((l.take i).map g).filter t).length ≤ l.length := by
  have h1 := List.length_filter_le t ((l.take i).map g)
  rw [List.length_map, List.length_take] at h1
  omega

variable {T : Table} (hT : ∀ f, f ≠ 6 → (T.find f).val = []) {fuel : Nat} (hf : 1000 ≤ fuel)

/-- The loop over spells. -/
def La (n0 ro : Nat) (Hs : Heap) (c : Scr) (m : Int) (a : AVal) (rc : Row) (x0 x1 x3 x4 x5 x6 : AVal) (k : Nat) (s : ASt) : Prop :=
  ∃ e H1 i v, s = ⟨e, [], H1⟩ ∧ i + k = c.sp.length ∧ xt 3 2 e = i64 m ∧ xt 3 3 e = .ptr n0 0 ∧ xt 3 4 e = .ptr (n0 + 1) 0 ∧ xt 3 6 e = .ptr (n0 + 2) 0 ∧ xt 3 8 e = .ptr ro 0 ∧ xt 3 68 e = a ∧ xt 3 69 e = i64 c.sp.length ∧ xt 3 70 e = i64 i ∧
    H1.get n0 = some rc ∧ H1.get ro = some (.cells 28 [x0, x1, v, x3, x4, x5, x6] false 0 false) ∧ Mine H1 47 5 Hs.next v (flat (((c.sp.take i).map (spF m c.u)).filter fun s => decide (s.f ≤ s.u))) ∧ Fr Hs.next (· = ro) Hs H1 ∧ H1.next ≤ Hs.next + 3 * i

include hf in
theorem la_run {n n0 ro : Nat} {Hs : Heap} {c : Scr} {m : Int} {a b d pv g x0 x1 x3 x4 x5 x6 : AVal} (ha0 : Is Hs a c.sp) (hidr : ∀ j, idOf a = some j → j ≠ ro) (hn0 : n0 < ro) (hro : ro < Hs.next) (hlen : c.sp.length ≤ 8) (hl : Hs.next + 100 ≤ 32768) {Q : AExit × ASt → Prop} {k : Nat} {s : ASt}
    (hs : La n0 ro Hs c m a (.cells 28 [i64 c.f, i64 c.u, a, b, d, pv, g] false 0 false) x0 x1 x3 x4 x5 x6 k s) (hk : k < fuel)
    (h : ∀ e H1 v, xt 3 2 e = i64 m → xt 3 3 e = .ptr n0 0 → xt 3 4 e = .ptr (n0 + 1) 0 → xt 3 6 e = .ptr (n0 + 2) 0 → xt 3 8 e = .ptr ro 0 → H1.get ro = some (.cells 28 [x0, x1, v, x3, x4, x5, x6] false 0 false) → Mine H1 47 5 Hs.next v (flat (spL m c.u c.sp)) →
      Fr Hs.next (· = ro) Hs H1 → H1.next ≤ Hs.next + 24 → Q (.exit 0, ⟨e, [], H1⟩)) :
    Wp ((cLoop fuel (cSeq r8_5 (cSeq (cIf (xt 3 71) cSkip (cExit 0)) (cSeq (cBlk 1 (cSeq r8_6 (cSeq r8_7 (cSeq r8_8 (cIf (xt 3 89) r8_9 cSkip))))) r8_10)))).val (R T fuel n) s) Q := by
  refine wp_loop _ ?_ hk hs
  rintro k s ⟨e, H1, i, v, rfl, hi, h2, h3, h4, h6, h8, h68, h69, h70, hgc, hgo, hv, hfr, hn⟩
  unfold r8_5 r8_6 r8_7 r8_8 r8_9 r8_10
  have hle := hfr.le
  have ha1 : Is H1 a c.sp := hfr.is ha0 fun j hj => ⟨ha0.lo j hj, hidr j hj⟩
  by_cases hil : i < c.sp.length
  · have hil' : (i : Int) < (c.sp.length : Int) := by omega
    obtain ⟨q, o, r, l, ha, hid, hq, hgq, hr, hb, ht⟩ := ha1.get su22 sz47 .i64 hil
    have hqn : q < Hs.next := ha0.lo q hid
    have hkk := mf_step (g := spF m c.u) (t := fun s => decide (s.f ≤ s.u)) hil
    have hll := mf_len (spF m c.u) (fun s => decide (s.f ≤ s.u)) c.sp i
    generalize hp : c.sp[i] = p at *
    rw [ce_spl] at ht
    simp only [El.sz] at hb ht
    by_cases hfu : max p.f m ≤ min p.u c.u
    · rw [f_yes (fun s : Spl => decide (s.f ≤ s.u)) (spF m c.u p) (decide_eq_true hfu)] at hkk
      simp (disch := first | decide | omega | (simp only [next_push, next_set] <;> omega) | fail) only [↓SB, ↓SO, SM, ↓SD, ↓SL, ST, List.getElem?_cons_zero, List.getElem?_cons_succ, @if_true, @if_false, ↓reduceIte, reduceCtorEq, Bool.false_eq_true, beq_self_eq_true, repL, Nat.reduceMul, Nat.reduceLeDiff, Nat.zero_le, Nat.zero_mul, Nat.reduceAdd, Int.reduceEq, Int.reduceLT, Int.reduceLE, Nat.zero_add, Nat.add_zero, h2, h3, h4, h6, h8, h68, h69, h70, hil', ha, hgc, hgo, hgq, hr, hb, ht, hfu, ↓wd_R rd8_7_1, pend_ld rd8_7_1, ↓wd_R rd8_7_5, pend_ld rd8_7_5, ↓wd_R rd8_7_7, pend_ld rd8_7_7]
      refine wp_append (α := Spl) (e := 47) (zs := [spF m c.u p]) ap22_22 hv (by repeat (first | exact Fr.refl _ _ _ | refine Fr.push ?_ (by first | omega | (simp only [next_push, next_set] <;> omega)) (by first | omega | (simp only [next_push, next_set] <;> omega)) _ | refine Fr.set ?_ (.inl (by first | omega | (simp only [next_push, next_set] <;> omega))) (by first | omega | (simp only [next_push, next_set] <;> omega)) (by first | omega | (simp only [next_push, next_set] <;> omega)) _)) (is_built (get_push_same _ _ (by simp only [next_push, next_set])) (by rw [flat_one]; rfl) rfl (by simp only [next_push, next_set]; omega)) (by rw [List.length_singleton]; omega) (by decide) (by first | omega | (simp only [next_push, next_set] <;> omega)) hle ?_
      intro v' H' e2 e3 e4 e5
      simp only [next_push, next_set] at e3 e4
      have hgc' : H'.get n0 = _ := (e5 n0 (by omega) (fun x => by have := hv.id x; omega)).trans hgc
      have hgo' : H'.get ro = _ := (e5 ro (by omega) (fun x => by have := hv.id x; omega)).trans hgo
      have hsc := e2.scalar
      simp (disch := first | decide | omega | (simp only [next_push, next_set] <;> omega) | fail) only [↓SB, ↓SO, SM, ↓SD, ↓SL, ST, List.getElem?_cons_zero, List.getElem?_cons_succ, @if_true, @if_false, ↓reduceIte, reduceCtorEq, Bool.false_eq_true, beq_self_eq_true, repL, Nat.reduceMul, Nat.reduceLeDiff, Nat.zero_le, Nat.zero_mul, Nat.reduceAdd, Int.reduceEq, Int.reduceLT, Int.reduceLE, Nat.zero_add, Nat.add_zero, h8, h70, hgo', cells_scalar hsc, hsc]
      refine ⟨k - 1, by omega, _, _, i + 1, v', rfl, by omega, by simp (disch := first | decide | omega | (simp only [next_push, next_set] <;> omega) | fail) only [↓SB, ↓SO, SM, ↓SD, ↓SL, ST, List.getElem?_cons_zero, List.getElem?_cons_succ, @if_true, @if_false, ↓reduceIte, reduceCtorEq, Bool.false_eq_true, beq_self_eq_true, repL, Nat.reduceMul, Nat.reduceLeDiff, Nat.zero_le, Nat.zero_mul, Nat.reduceAdd, Int.reduceEq, Int.reduceLT, Int.reduceLE, Nat.zero_add, Nat.add_zero, h2], by simp (disch := first | decide | omega | (simp only [next_push, next_set] <;> omega) | fail) only [↓SB, ↓SO, SM, ↓SD, ↓SL, ST, List.getElem?_cons_zero, List.getElem?_cons_succ, @if_true, @if_false, ↓reduceIte, reduceCtorEq, Bool.false_eq_true, beq_self_eq_true, repL, Nat.reduceMul, Nat.reduceLeDiff, Nat.zero_le, Nat.zero_mul, Nat.reduceAdd, Int.reduceEq, Int.reduceLT, Int.reduceLE, Nat.zero_add, Nat.add_zero, h3], by simp (disch := first | decide | omega | (simp only [next_push, next_set] <;> omega) | fail) only [↓SB, ↓SO, SM, ↓SD, ↓SL, ST, List.getElem?_cons_zero, List.getElem?_cons_succ, @if_true, @if_false, ↓reduceIte, reduceCtorEq, Bool.false_eq_true, beq_self_eq_true, repL, Nat.reduceMul, Nat.reduceLeDiff, Nat.zero_le, Nat.zero_mul, Nat.reduceAdd, Int.reduceEq, Int.reduceLT, Int.reduceLE, Nat.zero_add, Nat.add_zero, h4], by simp (disch := first | decide | omega | (simp only [next_push, next_set] <;> omega) | fail) only [↓SB, ↓SO, SM, ↓SD, ↓SL, ST, List.getElem?_cons_zero, List.getElem?_cons_succ, @if_true, @if_false, ↓reduceIte, reduceCtorEq, Bool.false_eq_true, beq_self_eq_true, repL, Nat.reduceMul, Nat.reduceLeDiff, Nat.zero_le, Nat.zero_mul, Nat.reduceAdd, Int.reduceEq, Int.reduceLT, Int.reduceLE, Nat.zero_add, Nat.add_zero, h6], by simp (disch := first | decide | omega | (simp only [next_push, next_set] <;> omega) | fail) only [↓SB, ↓SO, SM, ↓SD, ↓SL, ST, List.getElem?_cons_zero, List.getElem?_cons_succ, @if_true, @if_false, ↓reduceIte, reduceCtorEq, Bool.false_eq_true, beq_self_eq_true, repL, Nat.reduceMul, Nat.reduceLeDiff, Nat.zero_le, Nat.zero_mul, Nat.reduceAdd, Int.reduceEq, Int.reduceLT, Int.reduceLE, Nat.zero_add, Nat.add_zero, h8], by simp (disch := first | decide | omega | (simp only [next_push, next_set] <;> omega) | fail) only [↓SB, ↓SO, SM, ↓SD, ↓SL, ST, List.getElem?_cons_zero, List.getElem?_cons_succ, @if_true, @if_false, ↓reduceIte, reduceCtorEq, Bool.false_eq_true, beq_self_eq_true, repL, Nat.reduceMul, Nat.reduceLeDiff, Nat.zero_le, Nat.zero_mul, Nat.reduceAdd, Int.reduceEq, Int.reduceLT, Int.reduceLE, Nat.zero_add, Nat.add_zero, h68], by simp (disch := first | decide | omega | (simp only [next_push, next_set] <;> omega) | fail) only [↓SB, ↓SO, SM, ↓SD, ↓SL, ST, List.getElem?_cons_zero, List.getElem?_cons_succ, @if_true, @if_false, ↓reduceIte, reduceCtorEq, Bool.false_eq_true, beq_self_eq_true, repL, Nat.reduceMul, Nat.reduceLeDiff, Nat.zero_le, Nat.zero_mul, Nat.reduceAdd, Int.reduceEq, Int.reduceLT, Int.reduceLE, Nat.zero_add, Nat.add_zero, h69], by simp (disch := first | decide | omega | (simp only [next_push, next_set] <;> omega) | fail) only [↓SB, ↓SO, SM, ↓SD, ↓SL, ST, List.getElem?_cons_zero, List.getElem?_cons_succ, @if_true, @if_false, ↓reduceIte, reduceCtorEq, Bool.false_eq_true, beq_self_eq_true, repL, Nat.reduceMul, Nat.reduceLeDiff, Nat.zero_le, Nat.zero_mul, Nat.reduceAdd, Int.reduceEq, Int.reduceLT, Int.reduceLE, Nat.zero_add, Nat.add_zero, ]; rfl, ?_, get_set_same _ _ _, ?_, ?_, ?_⟩
      · simp (disch := first | decide | omega | (simp only [next_push, next_set] <;> omega) | fail) only [↓SB, ↓SO, SM, ↓SD, ↓SL, ST, List.getElem?_cons_zero, List.getElem?_cons_succ, @if_true, @if_false, ↓reduceIte, reduceCtorEq, Bool.false_eq_true, beq_self_eq_true, repL, Nat.reduceMul, Nat.reduceLeDiff, Nat.zero_le, Nat.zero_mul, Nat.reduceAdd, Int.reduceEq, Int.reduceLT, Int.reduceLE, Nat.zero_add, Nat.add_zero, hgc']
      · rw [hkk]; exact e2.frame (Nat.le_refl _) fun j hj hid => get_set_ne _ _ (by omega) (by omega) (by have := (e2.id hid).2; omega)
      · exact (hfr.trans ⟨by omega, fun j hj hx => e5 j (by omega) (fun x => by have := hv.id x; omega)⟩).set (.inr rfl) (by omega) (by omega) _
      · rw [next_set]; omega
    · rw [f_no (fun s : Spl => decide (s.f ≤ s.u)) (spF m c.u p) (fun x => hfu (of_decide_eq_true x)), List.append_nil] at hkk
      simp (disch := first | decide | omega | (simp only [next_push, next_set] <;> omega) | fail) only [↓SB, ↓SO, SM, ↓SD, ↓SL, ST, List.getElem?_cons_zero, List.getElem?_cons_succ, @if_true, @if_false, ↓reduceIte, reduceCtorEq, Bool.false_eq_true, beq_self_eq_true, repL, Nat.reduceMul, Nat.reduceLeDiff, Nat.zero_le, Nat.zero_mul, Nat.reduceAdd, Int.reduceEq, Int.reduceLT, Int.reduceLE, Nat.zero_add, Nat.add_zero, h2, h3, h4, h6, h8, h68, h69, h70, hil', ha, hgc, hgo, hgq, hr, hb, ht, hfu, ↓wd_R rd8_7_1, pend_ld rd8_7_1, ↓wd_R rd8_7_5, pend_ld rd8_7_5, ↓wd_R rd8_7_7, pend_ld rd8_7_7]
      refine ⟨k - 1, by omega, _, _, i + 1, v, rfl, by omega, by simp (disch := first | decide | omega | (simp only [next_push, next_set] <;> omega) | fail) only [↓SB, ↓SO, SM, ↓SD, ↓SL, ST, List.getElem?_cons_zero, List.getElem?_cons_succ, @if_true, @if_false, ↓reduceIte, reduceCtorEq, Bool.false_eq_true, beq_self_eq_true, repL, Nat.reduceMul, Nat.reduceLeDiff, Nat.zero_le, Nat.zero_mul, Nat.reduceAdd, Int.reduceEq, Int.reduceLT, Int.reduceLE, Nat.zero_add, Nat.add_zero, h2], by simp (disch := first | decide | omega | (simp only [next_push, next_set] <;> omega) | fail) only [↓SB, ↓SO, SM, ↓SD, ↓SL, ST, List.getElem?_cons_zero, List.getElem?_cons_succ, @if_true, @if_false, ↓reduceIte, reduceCtorEq, Bool.false_eq_true, beq_self_eq_true, repL, Nat.reduceMul, Nat.reduceLeDiff, Nat.zero_le, Nat.zero_mul, Nat.reduceAdd, Int.reduceEq, Int.reduceLT, Int.reduceLE, Nat.zero_add, Nat.add_zero, h3], by simp (disch := first | decide | omega | (simp only [next_push, next_set] <;> omega) | fail) only [↓SB, ↓SO, SM, ↓SD, ↓SL, ST, List.getElem?_cons_zero, List.getElem?_cons_succ, @if_true, @if_false, ↓reduceIte, reduceCtorEq, Bool.false_eq_true, beq_self_eq_true, repL, Nat.reduceMul, Nat.reduceLeDiff, Nat.zero_le, Nat.zero_mul, Nat.reduceAdd, Int.reduceEq, Int.reduceLT, Int.reduceLE, Nat.zero_add, Nat.add_zero, h4], by simp (disch := first | decide | omega | (simp only [next_push, next_set] <;> omega) | fail) only [↓SB, ↓SO, SM, ↓SD, ↓SL, ST, List.getElem?_cons_zero, List.getElem?_cons_succ, @if_true, @if_false, ↓reduceIte, reduceCtorEq, Bool.false_eq_true, beq_self_eq_true, repL, Nat.reduceMul, Nat.reduceLeDiff, Nat.zero_le, Nat.zero_mul, Nat.reduceAdd, Int.reduceEq, Int.reduceLT, Int.reduceLE, Nat.zero_add, Nat.add_zero, h6], by simp (disch := first | decide | omega | (simp only [next_push, next_set] <;> omega) | fail) only [↓SB, ↓SO, SM, ↓SD, ↓SL, ST, List.getElem?_cons_zero, List.getElem?_cons_succ, @if_true, @if_false, ↓reduceIte, reduceCtorEq, Bool.false_eq_true, beq_self_eq_true, repL, Nat.reduceMul, Nat.reduceLeDiff, Nat.zero_le, Nat.zero_mul, Nat.reduceAdd, Int.reduceEq, Int.reduceLT, Int.reduceLE, Nat.zero_add, Nat.add_zero, h8], by simp (disch := first | decide | omega | (simp only [next_push, next_set] <;> omega) | fail) only [↓SB, ↓SO, SM, ↓SD, ↓SL, ST, List.getElem?_cons_zero, List.getElem?_cons_succ, @if_true, @if_false, ↓reduceIte, reduceCtorEq, Bool.false_eq_true, beq_self_eq_true, repL, Nat.reduceMul, Nat.reduceLeDiff, Nat.zero_le, Nat.zero_mul, Nat.reduceAdd, Int.reduceEq, Int.reduceLT, Int.reduceLE, Nat.zero_add, Nat.add_zero, h68], by simp (disch := first | decide | omega | (simp only [next_push, next_set] <;> omega) | fail) only [↓SB, ↓SO, SM, ↓SD, ↓SL, ST, List.getElem?_cons_zero, List.getElem?_cons_succ, @if_true, @if_false, ↓reduceIte, reduceCtorEq, Bool.false_eq_true, beq_self_eq_true, repL, Nat.reduceMul, Nat.reduceLeDiff, Nat.zero_le, Nat.zero_mul, Nat.reduceAdd, Int.reduceEq, Int.reduceLT, Int.reduceLE, Nat.zero_add, Nat.add_zero, h69], by simp (disch := first | decide | omega | (simp only [next_push, next_set] <;> omega) | fail) only [↓SB, ↓SO, SM, ↓SD, ↓SL, ST, List.getElem?_cons_zero, List.getElem?_cons_succ, @if_true, @if_false, ↓reduceIte, reduceCtorEq, Bool.false_eq_true, beq_self_eq_true, repL, Nat.reduceMul, Nat.reduceLeDiff, Nat.zero_le, Nat.zero_mul, Nat.reduceAdd, Int.reduceEq, Int.reduceLT, Int.reduceLE, Nat.zero_add, Nat.add_zero, ]; rfl, ?_, ?_, ?_, ?_, ?_⟩
      · simp (disch := first | decide | omega | (simp only [next_push, next_set] <;> omega) | fail) only [↓SB, ↓SO, SM, ↓SD, ↓SL, ST, List.getElem?_cons_zero, List.getElem?_cons_succ, @if_true, @if_false, ↓reduceIte, reduceCtorEq, Bool.false_eq_true, beq_self_eq_true, repL, Nat.reduceMul, Nat.reduceLeDiff, Nat.zero_le, Nat.zero_mul, Nat.reduceAdd, Int.reduceEq, Int.reduceLT, Int.reduceLE, Nat.zero_add, Nat.add_zero, hgc]
      · simp (disch := first | decide | omega | (simp only [next_push, next_set] <;> omega) | fail) only [↓SB, ↓SO, SM, ↓SD, ↓SL, ST, List.getElem?_cons_zero, List.getElem?_cons_succ, @if_true, @if_false, ↓reduceIte, reduceCtorEq, Bool.false_eq_true, beq_self_eq_true, repL, Nat.reduceMul, Nat.reduceLeDiff, Nat.zero_le, Nat.zero_mul, Nat.reduceAdd, Int.reduceEq, Int.reduceLT, Int.reduceLE, Nat.zero_add, Nat.add_zero, hgo]
      · rw [hkk]; exact hv.fr (by repeat (first | exact Fr.refl _ _ _ | refine Fr.push ?_ (by first | omega | (simp only [next_push, next_set] <;> omega)) (by first | omega | (simp only [next_push, next_set] <;> omega)) _ | refine Fr.set ?_ (.inl (by first | omega | (simp only [next_push, next_set] <;> omega))) (by first | omega | (simp only [next_push, next_set] <;> omega)) (by first | omega | (simp only [next_push, next_set] <;> omega)) _))
      · exact hfr.on hle (by repeat (first | exact Fr.refl _ _ _ | refine Fr.push ?_ (by first | omega | (simp only [next_push, next_set] <;> omega)) (by first | omega | (simp only [next_push, next_set] <;> omega)) _ | refine Fr.set ?_ (.inl (by first | omega | (simp only [next_push, next_set] <;> omega))) (by first | omega | (simp only [next_push, next_set] <;> omega)) (by first | omega | (simp only [next_push, next_set] <;> omega)) _))
      · simp only [next_push, next_set]; omega
  · have hil' : ¬ (i : Int) < (c.sp.length : Int) := by omega
    simp (disch := first | decide | omega | (simp only [next_push, next_set] <;> omega) | fail) only [↓SB, ↓SO, SM, ↓SD, ↓SL, ST, List.getElem?_cons_zero, List.getElem?_cons_succ, @if_true, @if_false, ↓reduceIte, reduceCtorEq, Bool.false_eq_true, beq_self_eq_true, repL, Nat.reduceMul, Nat.reduceLeDiff, Nat.zero_le, Nat.zero_mul, Nat.reduceAdd, Int.reduceEq, Int.reduceLT, Int.reduceLE, Nat.zero_add, Nat.add_zero, h69, h70, hil']
    rw [List.take_of_length_le (by omega)] at hv
    exact h _ _ _ (by simp (disch := first | decide | omega | (simp only [next_push, next_set] <;> omega) | fail) only [↓SB, ↓SO, SM, ↓SD, ↓SL, ST, List.getElem?_cons_zero, List.getElem?_cons_succ, @if_true, @if_false, ↓reduceIte, reduceCtorEq, Bool.false_eq_true, beq_self_eq_true, repL, Nat.reduceMul, Nat.reduceLeDiff, Nat.zero_le, Nat.zero_mul, Nat.reduceAdd, Int.reduceEq, Int.reduceLT, Int.reduceLE, Nat.zero_add, Nat.add_zero, h2]) (by simp (disch := first | decide | omega | (simp only [next_push, next_set] <;> omega) | fail) only [↓SB, ↓SO, SM, ↓SD, ↓SL, ST, List.getElem?_cons_zero, List.getElem?_cons_succ, @if_true, @if_false, ↓reduceIte, reduceCtorEq, Bool.false_eq_true, beq_self_eq_true, repL, Nat.reduceMul, Nat.reduceLeDiff, Nat.zero_le, Nat.zero_mul, Nat.reduceAdd, Int.reduceEq, Int.reduceLT, Int.reduceLE, Nat.zero_add, Nat.add_zero, h3]) (by simp (disch := first | decide | omega | (simp only [next_push, next_set] <;> omega) | fail) only [↓SB, ↓SO, SM, ↓SD, ↓SL, ST, List.getElem?_cons_zero, List.getElem?_cons_succ, @if_true, @if_false, ↓reduceIte, reduceCtorEq, Bool.false_eq_true, beq_self_eq_true, repL, Nat.reduceMul, Nat.reduceLeDiff, Nat.zero_le, Nat.zero_mul, Nat.reduceAdd, Int.reduceEq, Int.reduceLT, Int.reduceLE, Nat.zero_add, Nat.add_zero, h4]) (by simp (disch := first | decide | omega | (simp only [next_push, next_set] <;> omega) | fail) only [↓SB, ↓SO, SM, ↓SD, ↓SL, ST, List.getElem?_cons_zero, List.getElem?_cons_succ, @if_true, @if_false, ↓reduceIte, reduceCtorEq, Bool.false_eq_true, beq_self_eq_true, repL, Nat.reduceMul, Nat.reduceLeDiff, Nat.zero_le, Nat.zero_mul, Nat.reduceAdd, Int.reduceEq, Int.reduceLT, Int.reduceLE, Nat.zero_add, Nat.add_zero, h6]) (by simp (disch := first | decide | omega | (simp only [next_push, next_set] <;> omega) | fail) only [↓SB, ↓SO, SM, ↓SD, ↓SL, ST, List.getElem?_cons_zero, List.getElem?_cons_succ, @if_true, @if_false, ↓reduceIte, reduceCtorEq, Bool.false_eq_true, beq_self_eq_true, repL, Nat.reduceMul, Nat.reduceLeDiff, Nat.zero_le, Nat.zero_mul, Nat.reduceAdd, Int.reduceEq, Int.reduceLT, Int.reduceLE, Nat.zero_add, Nat.add_zero, h8]) hgo hv hfr (by omega)

end
end Go.Proofs.YtbokoinmlbipmaaGreatDoor.Ev.Sy

-- Wn
namespace Go.Proofs.YtbokoinmlbipmaaGreatDoor.Ev.Sy
open Go Go.Proofs.YtbokoinmlbipmaaGreatDoor.Ev Go.Proofs
noncomputable section
set_option linter.unusedSimpArgs false
set_option linter.unusedVariables false
set_option linter.unusedSectionVars false
set_option maxHeartbeats 1000000

variable {T : Table} (hT : ∀ f, f ≠ 6 → (T.find f).val = []) {fuel : Nat} (hf : 1000 ≤ fuel)

/-- The loop over overrides. -/
def Lb (n0 ro : Nat) (Hs : Heap) (c : Scr) (m : Int) (a : AVal) (rc : Row) (x0 x1 x2 x4 x5 x6 : AVal) (k : Nat) (s : ASt) : Prop :=
  ∃ e H1 i v, s = ⟨e, [], H1⟩ ∧ i + k = c.ov.length ∧ xt 3 2 e = i64 m ∧ xt 3 3 e = .ptr n0 0 ∧ xt 3 4 e = .ptr (n0 + 1) 0 ∧ xt 3 6 e = .ptr (n0 + 2) 0 ∧ xt 3 8 e = .ptr ro 0 ∧ xt 3 98 e = a ∧ xt 3 99 e = i64 c.ov.length ∧ xt 3 100 e = i64 i ∧
    H1.get n0 = some rc ∧ H1.get ro = some (.cells 28 [x0, x1, x2, v, x4, x5, x6] false 0 false) ∧ Mine H1 49 7 Hs.next v (flat (((c.ov.take i).map (ovF m c.u)).filter fun s => decide (s.f ≤ s.u))) ∧ Fr Hs.next (· = ro) Hs H1 ∧ H1.next ≤ Hs.next + 3 * i

include hf in
theorem lb_run {n n0 ro : Nat} {Hs : Heap} {c : Scr} {m : Int} {a b d pv g x0 x1 x2 x4 x5 x6 : AVal} (ha0 : Is Hs a c.ov) (hidr : ∀ j, idOf a = some j → j ≠ ro) (hn0 : n0 < ro) (hro : ro < Hs.next) (hlen : c.ov.length ≤ 8) (hl : Hs.next + 100 ≤ 32768) {Q : AExit × ASt → Prop} {k : Nat} {s : ASt}
    (hs : Lb n0 ro Hs c m a (.cells 28 [i64 c.f, i64 c.u, b, a, d, pv, g] false 0 false) x0 x1 x2 x4 x5 x6 k s) (hk : k < fuel)
    (h : ∀ e H1 v, xt 3 2 e = i64 m → xt 3 3 e = .ptr n0 0 → xt 3 4 e = .ptr (n0 + 1) 0 → xt 3 6 e = .ptr (n0 + 2) 0 → xt 3 8 e = .ptr ro 0 → H1.get ro = some (.cells 28 [x0, x1, x2, v, x4, x5, x6] false 0 false) → Mine H1 49 7 Hs.next v (flat (ovL m c.u c.ov)) →
      Fr Hs.next (· = ro) Hs H1 → H1.next ≤ Hs.next + 24 → Q (.exit 2, ⟨e, [], H1⟩)) :
    Wp ((cLoop fuel (cSeq r8_12 (cSeq (cIf (xt 3 101) cSkip (cExit 2)) (cSeq (cBlk 3 (cSeq r8_13 (cSeq r8_14 (cSeq r8_15 (cIf (xt 3 122) r8_16 cSkip))))) r8_17)))).val (R T fuel n) s) Q := by
  refine wp_loop _ ?_ hk hs
  rintro k s ⟨e, H1, i, v, rfl, hi, h2, h3, h4, h6, h8, h68, h69, h70, hgc, hgo, hv, hfr, hn⟩
  unfold r8_12 r8_13 r8_14 r8_15 r8_16 r8_17
  have hle := hfr.le
  have ha1 : Is H1 a c.ov := hfr.is ha0 fun j hj => ⟨ha0.lo j hj, hidr j hj⟩
  by_cases hil : i < c.ov.length
  · have hil' : (i : Int) < (c.ov.length : Int) := by omega
    obtain ⟨q, o, r, l, ha, hid, hq, hgq, hr, hb, ht⟩ := ha1.get su23 sz49 .i64 hil
    have hqn : q < Hs.next := ha0.lo q hid
    have hkk := mf_step (g := ovF m c.u) (t := fun s => decide (s.f ≤ s.u)) hil
    have hll := mf_len (ovF m c.u) (fun s => decide (s.f ≤ s.u)) c.ov i
    generalize hp : c.ov[i] = p at *
    rw [ce_ovr] at ht
    simp only [El.sz] at hb ht
    by_cases hfu : max (max p.f p.n) m ≤ min p.u c.u
    · rw [f_yes (fun s : Ovr => decide (s.f ≤ s.u)) (ovF m c.u p) (decide_eq_true hfu)] at hkk
      simp (disch := first | decide | omega | (simp only [next_push, next_set] <;> omega) | fail) only [↓SB, ↓SO, SM, ↓SD, ↓SL, ST, List.getElem?_cons_zero, List.getElem?_cons_succ, @if_true, @if_false, ↓reduceIte, reduceCtorEq, Bool.false_eq_true, beq_self_eq_true, repL, Nat.reduceMul, Nat.reduceLeDiff, Nat.zero_le, Nat.zero_mul, Nat.reduceAdd, Int.reduceEq, Int.reduceLT, Int.reduceLE, Nat.zero_add, Nat.add_zero, h2, h3, h4, h6, h8, h68, h69, h70, hil', ha, hgc, hgo, hgq, hr, hb, ht, hfu, ↓wd_R rd8_14_1, pend_ld rd8_14_1, ↓wd_R rd8_14_3, pend_ld rd8_14_3, ↓wd_R rd8_14_7, pend_ld rd8_14_7, ↓wd_R rd8_14_9, pend_ld rd8_14_9]
      refine wp_append (α := Ovr) (e := 49) (zs := [ovF m c.u p]) ap23_23 hv (by repeat (first | exact Fr.refl _ _ _ | refine Fr.push ?_ (by first | omega | (simp only [next_push, next_set] <;> omega)) (by first | omega | (simp only [next_push, next_set] <;> omega)) _ | refine Fr.set ?_ (.inl (by first | omega | (simp only [next_push, next_set] <;> omega))) (by first | omega | (simp only [next_push, next_set] <;> omega)) (by first | omega | (simp only [next_push, next_set] <;> omega)) _)) (is_built (get_push_same _ _ (by simp only [next_push, next_set])) (by rw [flat_one]; rfl) rfl (by simp only [next_push, next_set]; omega)) (by rw [List.length_singleton]; omega) (by decide) (by first | omega | (simp only [next_push, next_set] <;> omega)) hle ?_
      intro v' H' e2 e3 e4 e5
      simp only [next_push, next_set] at e3 e4
      have hgc' : H'.get n0 = _ := (e5 n0 (by omega) (fun x => by have := hv.id x; omega)).trans hgc
      have hgo' : H'.get ro = _ := (e5 ro (by omega) (fun x => by have := hv.id x; omega)).trans hgo
      have hsc := e2.scalar
      simp (disch := first | decide | omega | (simp only [next_push, next_set] <;> omega) | fail) only [↓SB, ↓SO, SM, ↓SD, ↓SL, ST, List.getElem?_cons_zero, List.getElem?_cons_succ, @if_true, @if_false, ↓reduceIte, reduceCtorEq, Bool.false_eq_true, beq_self_eq_true, repL, Nat.reduceMul, Nat.reduceLeDiff, Nat.zero_le, Nat.zero_mul, Nat.reduceAdd, Int.reduceEq, Int.reduceLT, Int.reduceLE, Nat.zero_add, Nat.add_zero, h8, h70, hgo', cells_scalar hsc, hsc]
      refine ⟨k - 1, by omega, _, _, i + 1, v', rfl, by omega, by simp (disch := first | decide | omega | (simp only [next_push, next_set] <;> omega) | fail) only [↓SB, ↓SO, SM, ↓SD, ↓SL, ST, List.getElem?_cons_zero, List.getElem?_cons_succ, @if_true, @if_false, ↓reduceIte, reduceCtorEq, Bool.false_eq_true, beq_self_eq_true, repL, Nat.reduceMul, Nat.reduceLeDiff, Nat.zero_le, Nat.zero_mul, Nat.reduceAdd, Int.reduceEq, Int.reduceLT, Int.reduceLE, Nat.zero_add, Nat.add_zero, h2], by simp (disch := first | decide | omega | (simp only [next_push, next_set] <;> omega) | fail) only [↓SB, ↓SO, SM, ↓SD, ↓SL, ST, List.getElem?_cons_zero, List.getElem?_cons_succ, @if_true, @if_false, ↓reduceIte, reduceCtorEq, Bool.false_eq_true, beq_self_eq_true, repL, Nat.reduceMul, Nat.reduceLeDiff, Nat.zero_le, Nat.zero_mul, Nat.reduceAdd, Int.reduceEq, Int.reduceLT, Int.reduceLE, Nat.zero_add, Nat.add_zero, h3], by simp (disch := first | decide | omega | (simp only [next_push, next_set] <;> omega) | fail) only [↓SB, ↓SO, SM, ↓SD, ↓SL, ST, List.getElem?_cons_zero, List.getElem?_cons_succ, @if_true, @if_false, ↓reduceIte, reduceCtorEq, Bool.false_eq_true, beq_self_eq_true, repL, Nat.reduceMul, Nat.reduceLeDiff, Nat.zero_le, Nat.zero_mul, Nat.reduceAdd, Int.reduceEq, Int.reduceLT, Int.reduceLE, Nat.zero_add, Nat.add_zero, h4], by simp (disch := first | decide | omega | (simp only [next_push, next_set] <;> omega) | fail) only [↓SB, ↓SO, SM, ↓SD, ↓SL, ST, List.getElem?_cons_zero, List.getElem?_cons_succ, @if_true, @if_false, ↓reduceIte, reduceCtorEq, Bool.false_eq_true, beq_self_eq_true, repL, Nat.reduceMul, Nat.reduceLeDiff, Nat.zero_le, Nat.zero_mul, Nat.reduceAdd, Int.reduceEq, Int.reduceLT, Int.reduceLE, Nat.zero_add, Nat.add_zero, h6], by simp (disch := first | decide | omega | (simp only [next_push, next_set] <;> omega) | fail) only [↓SB, ↓SO, SM, ↓SD, ↓SL, ST, List.getElem?_cons_zero, List.getElem?_cons_succ, @if_true, @if_false, ↓reduceIte, reduceCtorEq, Bool.false_eq_true, beq_self_eq_true, repL, Nat.reduceMul, Nat.reduceLeDiff, Nat.zero_le, Nat.zero_mul, Nat.reduceAdd, Int.reduceEq, Int.reduceLT, Int.reduceLE, Nat.zero_add, Nat.add_zero, h8], by simp (disch := first | decide | omega | (simp only [next_push, next_set] <;> omega) | fail) only [↓SB, ↓SO, SM, ↓SD, ↓SL, ST, List.getElem?_cons_zero, List.getElem?_cons_succ, @if_true, @if_false, ↓reduceIte, reduceCtorEq, Bool.false_eq_true, beq_self_eq_true, repL, Nat.reduceMul, Nat.reduceLeDiff, Nat.zero_le, Nat.zero_mul, Nat.reduceAdd, Int.reduceEq, Int.reduceLT, Int.reduceLE, Nat.zero_add, Nat.add_zero, h68], by simp (disch := first | decide | omega | (simp only [next_push, next_set] <;> omega) | fail) only [↓SB, ↓SO, SM, ↓SD, ↓SL, ST, List.getElem?_cons_zero, List.getElem?_cons_succ, @if_true, @if_false, ↓reduceIte, reduceCtorEq, Bool.false_eq_true, beq_self_eq_true, repL, Nat.reduceMul, Nat.reduceLeDiff, Nat.zero_le, Nat.zero_mul, Nat.reduceAdd, Int.reduceEq, Int.reduceLT, Int.reduceLE, Nat.zero_add, Nat.add_zero, h69], by simp (disch := first | decide | omega | (simp only [next_push, next_set] <;> omega) | fail) only [↓SB, ↓SO, SM, ↓SD, ↓SL, ST, List.getElem?_cons_zero, List.getElem?_cons_succ, @if_true, @if_false, ↓reduceIte, reduceCtorEq, Bool.false_eq_true, beq_self_eq_true, repL, Nat.reduceMul, Nat.reduceLeDiff, Nat.zero_le, Nat.zero_mul, Nat.reduceAdd, Int.reduceEq, Int.reduceLT, Int.reduceLE, Nat.zero_add, Nat.add_zero, ]; rfl, ?_, get_set_same _ _ _, ?_, ?_, ?_⟩
      · simp (disch := first | decide | omega | (simp only [next_push, next_set] <;> omega) | fail) only [↓SB, ↓SO, SM, ↓SD, ↓SL, ST, List.getElem?_cons_zero, List.getElem?_cons_succ, @if_true, @if_false, ↓reduceIte, reduceCtorEq, Bool.false_eq_true, beq_self_eq_true, repL, Nat.reduceMul, Nat.reduceLeDiff, Nat.zero_le, Nat.zero_mul, Nat.reduceAdd, Int.reduceEq, Int.reduceLT, Int.reduceLE, Nat.zero_add, Nat.add_zero, hgc']
      · rw [hkk]; exact e2.frame (Nat.le_refl _) fun j hj hid => get_set_ne _ _ (by omega) (by omega) (by have := (e2.id hid).2; omega)
      · exact (hfr.trans ⟨by omega, fun j hj hx => e5 j (by omega) (fun x => by have := hv.id x; omega)⟩).set (.inr rfl) (by omega) (by omega) _
      · rw [next_set]; omega
    · rw [f_no (fun s : Ovr => decide (s.f ≤ s.u)) (ovF m c.u p) (fun x => hfu (of_decide_eq_true x)), List.append_nil] at hkk
      simp (disch := first | decide | omega | (simp only [next_push, next_set] <;> omega) | fail) only [↓SB, ↓SO, SM, ↓SD, ↓SL, ST, List.getElem?_cons_zero, List.getElem?_cons_succ, @if_true, @if_false, ↓reduceIte, reduceCtorEq, Bool.false_eq_true, beq_self_eq_true, repL, Nat.reduceMul, Nat.reduceLeDiff, Nat.zero_le, Nat.zero_mul, Nat.reduceAdd, Int.reduceEq, Int.reduceLT, Int.reduceLE, Nat.zero_add, Nat.add_zero, h2, h3, h4, h6, h8, h68, h69, h70, hil', ha, hgc, hgo, hgq, hr, hb, ht, hfu, ↓wd_R rd8_14_1, pend_ld rd8_14_1, ↓wd_R rd8_14_3, pend_ld rd8_14_3, ↓wd_R rd8_14_7, pend_ld rd8_14_7, ↓wd_R rd8_14_9, pend_ld rd8_14_9]
      refine ⟨k - 1, by omega, _, _, i + 1, v, rfl, by omega, by simp (disch := first | decide | omega | (simp only [next_push, next_set] <;> omega) | fail) only [↓SB, ↓SO, SM, ↓SD, ↓SL, ST, List.getElem?_cons_zero, List.getElem?_cons_succ, @if_true, @if_false, ↓reduceIte, reduceCtorEq, Bool.false_eq_true, beq_self_eq_true, repL, Nat.reduceMul, Nat.reduceLeDiff, Nat.zero_le, Nat.zero_mul, Nat.reduceAdd, Int.reduceEq, Int.reduceLT, Int.reduceLE, Nat.zero_add, Nat.add_zero, h2], by simp (disch := first | decide | omega | (simp only [next_push, next_set] <;> omega) | fail) only [↓SB, ↓SO, SM, ↓SD, ↓SL, ST, List.getElem?_cons_zero, List.getElem?_cons_succ, @if_true, @if_false, ↓reduceIte, reduceCtorEq, Bool.false_eq_true, beq_self_eq_true, repL, Nat.reduceMul, Nat.reduceLeDiff, Nat.zero_le, Nat.zero_mul, Nat.reduceAdd, Int.reduceEq, Int.reduceLT, Int.reduceLE, Nat.zero_add, Nat.add_zero, h3], by simp (disch := first | decide | omega | (simp only [next_push, next_set] <;> omega) | fail) only [↓SB, ↓SO, SM, ↓SD, ↓SL, ST, List.getElem?_cons_zero, List.getElem?_cons_succ, @if_true, @if_false, ↓reduceIte, reduceCtorEq, Bool.false_eq_true, beq_self_eq_true, repL, Nat.reduceMul, Nat.reduceLeDiff, Nat.zero_le, Nat.zero_mul, Nat.reduceAdd, Int.reduceEq, Int.reduceLT, Int.reduceLE, Nat.zero_add, Nat.add_zero, h4], by simp (disch := first | decide | omega | (simp only [next_push, next_set] <;> omega) | fail) only [↓SB, ↓SO, SM, ↓SD, ↓SL, ST, List.getElem?_cons_zero, List.getElem?_cons_succ, @if_true, @if_false, ↓reduceIte, reduceCtorEq, Bool.false_eq_true, beq_self_eq_true, repL, Nat.reduceMul, Nat.reduceLeDiff, Nat.zero_le, Nat.zero_mul, Nat.reduceAdd, Int.reduceEq, Int.reduceLT, Int.reduceLE, Nat.zero_add, Nat.add_zero, h6], by simp (disch := first | decide | omega | (simp only [next_push, next_set] <;> omega) | fail) only [↓SB, ↓SO, SM, ↓SD, ↓SL, ST, List.getElem?_cons_zero, List.getElem?_cons_succ, @if_true, @if_false, ↓reduceIte, reduceCtorEq, Bool.false_eq_true, beq_self_eq_true, repL, Nat.reduceMul, Nat.reduceLeDiff, Nat.zero_le, Nat.zero_mul, Nat.reduceAdd, Int.reduceEq, Int.reduceLT, Int.reduceLE, Nat.zero_add, Nat.add_zero, h8], by simp (disch := first | decide | omega | (simp only [next_push, next_set] <;> omega) | fail) only [↓SB, ↓SO, SM, ↓SD, ↓SL, ST, List.getElem?_cons_zero, List.getElem?_cons_succ, @if_true, @if_false, ↓reduceIte, reduceCtorEq, Bool.false_eq_true, beq_self_eq_true, repL, Nat.reduceMul, Nat.reduceLeDiff, Nat.zero_le, Nat.zero_mul, Nat.reduceAdd, Int.reduceEq, Int.reduceLT, Int.reduceLE, Nat.zero_add, Nat.add_zero, h68], by simp (disch := first | decide | omega | (simp only [next_push, next_set] <;> omega) | fail) only [↓SB, ↓SO, SM, ↓SD, ↓SL, ST, List.getElem?_cons_zero, List.getElem?_cons_succ, @if_true, @if_false, ↓reduceIte, reduceCtorEq, Bool.false_eq_true, beq_self_eq_true, repL, Nat.reduceMul, Nat.reduceLeDiff, Nat.zero_le, Nat.zero_mul, Nat.reduceAdd, Int.reduceEq, Int.reduceLT, Int.reduceLE, Nat.zero_add, Nat.add_zero, h69], by simp (disch := first | decide | omega | (simp only [next_push, next_set] <;> omega) | fail) only [↓SB, ↓SO, SM, ↓SD, ↓SL, ST, List.getElem?_cons_zero, List.getElem?_cons_succ, @if_true, @if_false, ↓reduceIte, reduceCtorEq, Bool.false_eq_true, beq_self_eq_true, repL, Nat.reduceMul, Nat.reduceLeDiff, Nat.zero_le, Nat.zero_mul, Nat.reduceAdd, Int.reduceEq, Int.reduceLT, Int.reduceLE, Nat.zero_add, Nat.add_zero, ]; rfl, ?_, ?_, ?_, ?_, ?_⟩
      · simp (disch := first | decide | omega | (simp only [next_push, next_set] <;> omega) | fail) only [↓SB, ↓SO, SM, ↓SD, ↓SL, ST, List.getElem?_cons_zero, List.getElem?_cons_succ, @if_true, @if_false, ↓reduceIte, reduceCtorEq, Bool.false_eq_true, beq_self_eq_true, repL, Nat.reduceMul, Nat.reduceLeDiff, Nat.zero_le, Nat.zero_mul, Nat.reduceAdd, Int.reduceEq, Int.reduceLT, Int.reduceLE, Nat.zero_add, Nat.add_zero, hgc]
      · simp (disch := first | decide | omega | (simp only [next_push, next_set] <;> omega) | fail) only [↓SB, ↓SO, SM, ↓SD, ↓SL, ST, List.getElem?_cons_zero, List.getElem?_cons_succ, @if_true, @if_false, ↓reduceIte, reduceCtorEq, Bool.false_eq_true, beq_self_eq_true, repL, Nat.reduceMul, Nat.reduceLeDiff, Nat.zero_le, Nat.zero_mul, Nat.reduceAdd, Int.reduceEq, Int.reduceLT, Int.reduceLE, Nat.zero_add, Nat.add_zero, hgo]
      · rw [hkk]; exact hv.fr (by repeat (first | exact Fr.refl _ _ _ | refine Fr.push ?_ (by first | omega | (simp only [next_push, next_set] <;> omega)) (by first | omega | (simp only [next_push, next_set] <;> omega)) _ | refine Fr.set ?_ (.inl (by first | omega | (simp only [next_push, next_set] <;> omega))) (by first | omega | (simp only [next_push, next_set] <;> omega)) (by first | omega | (simp only [next_push, next_set] <;> omega)) _))
      · exact hfr.on hle (by repeat (first | exact Fr.refl _ _ _ | refine Fr.push ?_ (by first | omega | (simp only [next_push, next_set] <;> omega)) (by first | omega | (simp only [next_push, next_set] <;> omega)) _ | refine Fr.set ?_ (.inl (by first | omega | (simp only [next_push, next_set] <;> omega))) (by first | omega | (simp only [next_push, next_set] <;> omega)) (by first | omega | (simp only [next_push, next_set] <;> omega)) _))
      · simp only [next_push, next_set]; omega
  · have hil' : ¬ (i : Int) < (c.ov.length : Int) := by omega
    simp (disch := first | decide | omega | (simp only [next_push, next_set] <;> omega) | fail) only [↓SB, ↓SO, SM, ↓SD, ↓SL, ST, List.getElem?_cons_zero, List.getElem?_cons_succ, @if_true, @if_false, ↓reduceIte, reduceCtorEq, Bool.false_eq_true, beq_self_eq_true, repL, Nat.reduceMul, Nat.reduceLeDiff, Nat.zero_le, Nat.zero_mul, Nat.reduceAdd, Int.reduceEq, Int.reduceLT, Int.reduceLE, Nat.zero_add, Nat.add_zero, h69, h70, hil']
    rw [List.take_of_length_le (by omega)] at hv
    exact h _ _ _ (by simp (disch := first | decide | omega | (simp only [next_push, next_set] <;> omega) | fail) only [↓SB, ↓SO, SM, ↓SD, ↓SL, ST, List.getElem?_cons_zero, List.getElem?_cons_succ, @if_true, @if_false, ↓reduceIte, reduceCtorEq, Bool.false_eq_true, beq_self_eq_true, repL, Nat.reduceMul, Nat.reduceLeDiff, Nat.zero_le, Nat.zero_mul, Nat.reduceAdd, Int.reduceEq, Int.reduceLT, Int.reduceLE, Nat.zero_add, Nat.add_zero, h2]) (by simp (disch := first | decide | omega | (simp only [next_push, next_set] <;> omega) | fail) only [↓SB, ↓SO, SM, ↓SD, ↓SL, ST, List.getElem?_cons_zero, List.getElem?_cons_succ, @if_true, @if_false, ↓reduceIte, reduceCtorEq, Bool.false_eq_true, beq_self_eq_true, repL, Nat.reduceMul, Nat.reduceLeDiff, Nat.zero_le, Nat.zero_mul, Nat.reduceAdd, Int.reduceEq, Int.reduceLT, Int.reduceLE, Nat.zero_add, Nat.add_zero, h3]) (by simp (disch := first | decide | omega | (simp only [next_push, next_set] <;> omega) | fail) only [↓SB, ↓SO, SM, ↓SD, ↓SL, ST, List.getElem?_cons_zero, List.getElem?_cons_succ, @if_true, @if_false, ↓reduceIte, reduceCtorEq, Bool.false_eq_true, beq_self_eq_true, repL, Nat.reduceMul, Nat.reduceLeDiff, Nat.zero_le, Nat.zero_mul, Nat.reduceAdd, Int.reduceEq, Int.reduceLT, Int.reduceLE, Nat.zero_add, Nat.add_zero, h4]) (by simp (disch := first | decide | omega | (simp only [next_push, next_set] <;> omega) | fail) only [↓SB, ↓SO, SM, ↓SD, ↓SL, ST, List.getElem?_cons_zero, List.getElem?_cons_succ, @if_true, @if_false, ↓reduceIte, reduceCtorEq, Bool.false_eq_true, beq_self_eq_true, repL, Nat.reduceMul, Nat.reduceLeDiff, Nat.zero_le, Nat.zero_mul, Nat.reduceAdd, Int.reduceEq, Int.reduceLT, Int.reduceLE, Nat.zero_add, Nat.add_zero, h6]) (by simp (disch := first | decide | omega | (simp only [next_push, next_set] <;> omega) | fail) only [↓SB, ↓SO, SM, ↓SD, ↓SL, ST, List.getElem?_cons_zero, List.getElem?_cons_succ, @if_true, @if_false, ↓reduceIte, reduceCtorEq, Bool.false_eq_true, beq_self_eq_true, repL, Nat.reduceMul, Nat.reduceLeDiff, Nat.zero_le, Nat.zero_mul, Nat.reduceAdd, Int.reduceEq, Int.reduceLT, Int.reduceLE, Nat.zero_add, Nat.add_zero, h8]) hgo hv hfr (by omega)

end
end Go.Proofs.YtbokoinmlbipmaaGreatDoor.Ev.Sy

-- Wo
namespace Go.Proofs.YtbokoinmlbipmaaGreatDoor.Ev.Sy
open Go Go.Proofs.YtbokoinmlbipmaaGreatDoor.Ev Go.Proofs
noncomputable section
set_option linter.unusedSimpArgs false
set_option linter.unusedVariables false
set_option linter.unusedSectionVars false
set_option maxHeartbeats 1000000
set_option maxRecDepth 100000

variable {T : Table} (hT : ∀ f, f ≠ 6 → (T.find f).val = []) {fuel : Nat} (hf : 1000 ≤ fuel)

/-- The loop over defects. -/
def Lc (n0 ro : Nat) (Hs : Heap) (c : Scr) (at_ m : Int) (a : AVal) (rc rr : Row) (x0 x1 x2 x3 x5 x6 : AVal) (k : Nat) (s : ASt) : Prop :=
  ∃ e H1 i v, s = ⟨e, [], H1⟩ ∧ i + k = c.df.length ∧ xt 3 2 e = i64 m ∧ xt 3 3 e = .ptr n0 0 ∧ xt 3 4 e = .ptr (n0 + 1) 0 ∧ xt 3 6 e = .ptr (n0 + 2) 0 ∧ xt 3 8 e = .ptr ro 0 ∧ xt 3 131 e = a ∧ xt 3 132 e = i64 c.df.length ∧ xt 3 133 e = i64 i ∧
    H1.get n0 = some rc ∧ H1.get (n0 + 1) = some rr ∧ H1.get ro = some (.cells 28 [x0, x1, x2, x3, v, x5, x6] false 0 false) ∧ Mine H1 42 5 Hs.next v (flat (((c.df.take i).map (dfF at_ m c.u)).filter fun s => decide (s.f ≤ s.u))) ∧ Fr Hs.next (· = ro) Hs H1 ∧ H1.next ≤ Hs.next + 3 * i

include hf in
theorem lc_run {n n0 ro : Nat} {Hs : Heap} {c : Scr} {at_ m : Int} {r0 r1 r2 r3 r5 a b d pv g x0 x1 x2 x3 x5 x6 : AVal} (ha0 : Is Hs a c.df) (hidr : ∀ j, idOf a = some j → j ≠ ro) (hn0 : n0 + 1 < ro) (hro : ro < Hs.next) (hlen : c.df.length ≤ 8) (hl : Hs.next + 100 ≤ 32768) {Q : AExit × ASt → Prop} {k : Nat} {s : ASt}
    (hs : Lc n0 ro Hs c at_ m a (.cells 28 [i64 c.f, i64 c.u, b, d, a, pv, g] false 0 false) (.cells 33 [r0, r1, r2, r3, i64 at_, r5] false 0 false) x0 x1 x2 x3 x5 x6 k s) (hk : k < fuel)
    (h : ∀ e H1 v, xt 3 2 e = i64 m → xt 3 3 e = .ptr n0 0 → xt 3 4 e = .ptr (n0 + 1) 0 → xt 3 6 e = .ptr (n0 + 2) 0 → xt 3 8 e = .ptr ro 0 → H1.get ro = some (.cells 28 [x0, x1, x2, x3, v, x5, x6] false 0 false) → Mine H1 42 5 Hs.next v (flat (dfL at_ m c.u c.df)) →
      Fr Hs.next (· = ro) Hs H1 → H1.next ≤ Hs.next + 24 → Q (.exit 4, ⟨e, [], H1⟩)) :
    Wp ((cLoop fuel (cSeq r8_19 (cSeq (cIf (xt 3 134) cSkip (cExit 4)) (cSeq (cBlk 5 (cSeq r8_20 (cSeq (cBlk 6 (cSeq r8_21 (cIf (xt 3 137) r8_22 (cSeq r8_23 (cIf (xt 3 146) r8_24 cSkip))))) (cSeq r8_25 (cSeq r8_26 (cIf (xt 3 171) r8_27 cSkip)))))) r8_28)))).val (R T fuel n) s) Q := by
  refine wp_loop _ ?_ hk hs
  rintro k s ⟨e, H1, i, v, rfl, hi, h2, h3, h4, h6, h8, h68, h69, h70, hgc, hgr, hgo, hv, hfr, hn⟩
  unfold r8_19 r8_20 r8_21 r8_22 r8_23 r8_24 r8_25 r8_26 r8_27 r8_28
  have hle := hfr.le
  have ha1 : Is H1 a c.df := hfr.is ha0 fun j hj => ⟨ha0.lo j hj, hidr j hj⟩
  by_cases hil : i < c.df.length
  · have hil' : (i : Int) < (c.df.length : Int) := by omega
    obtain ⟨q, o, r, l, ha, hid, hq, hgq, hr, hb, ht⟩ := ha1.get su24 sz42 .i64 hil
    have hqn : q < Hs.next := ha0.lo q hid
    have hkk := mf_step (g := dfF at_ m c.u) (t := fun s => decide (s.f ≤ s.u)) hil
    have hll := mf_len (dfF at_ m c.u) (fun s => decide (s.f ≤ s.u)) c.df i
    generalize hp : c.df[i] = p at *
    rw [ce_dfc] at ht
    simp only [El.sz] at hb ht
    by_cases hA : p.n ≤ min m at_
    · have hkn : knF at_ m c.u p.n = 0 := by unfold knF; rw [if_pos hA]
      by_cases hfu : max p.f m ≤ min p.u c.u
      · rw [f_yes (fun s : Dfc => decide (s.f ≤ s.u)) (dfF at_ m c.u p) (decide_eq_true hfu)] at hkk
        simp (disch := first | decide | omega | (simp only [next_push, next_set] <;> omega) | fail) only [↓SB, ↓SO, SM, ↓SD, ↓SL, ST, List.getElem?_cons_zero, List.getElem?_cons_succ, @if_true, @if_false, ↓reduceIte, reduceCtorEq, Bool.false_eq_true, beq_self_eq_true, repL, Nat.reduceMul, Nat.reduceLeDiff, Nat.zero_le, Nat.zero_mul, Nat.reduceAdd, Int.reduceEq, Int.reduceLT, Int.reduceLE, Nat.zero_add, Nat.add_zero, h2, h3, h4, h6, h8, h68, h69, h70, hil', ha, hgc, hgr, hgo, hgq, hr, hb, ht, hfu, hA, ↓wd_R rd8_25_1, pend_ld rd8_25_1, ↓wd_R rd8_25_5, pend_ld rd8_25_5, ↓wd_R rd8_25_7, pend_ld rd8_25_7]
        refine wp_append (α := Dfc) (e := 42) (zs := [dfF at_ m c.u p]) ap24_24 hv (by repeat (first | exact Fr.refl _ _ _ | refine Fr.push ?_ (by first | omega | (simp only [next_push, next_set] <;> omega)) (by first | omega | (simp only [next_push, next_set] <;> omega)) _ | refine Fr.set ?_ (.inl (by first | omega | (simp only [next_push, next_set] <;> omega))) (by first | omega | (simp only [next_push, next_set] <;> omega)) (by first | omega | (simp only [next_push, next_set] <;> omega)) _)) (is_built (get_push_same _ _ (by simp only [next_push, next_set])) (by rw [flat_one, ce_dfc]; simp only [dfF, hkn]) rfl (by simp only [next_push, next_set]; omega)) (by rw [List.length_singleton]; omega) (by decide) (by first | omega | (simp only [next_push, next_set] <;> omega)) hle ?_
        intro v' H' e2 e3 e4 e5
        simp only [next_push, next_set] at e3 e4
        have hgc' : H'.get n0 = _ := (e5 n0 (by omega) (fun x => by have := hv.id x; omega)).trans hgc
        have hgr' : H'.get (n0 + 1) = _ := (e5 (n0 + 1) (by omega) (fun x => by have := hv.id x; omega)).trans hgr
        have hgo' : H'.get ro = _ := (e5 ro (by omega) (fun x => by have := hv.id x; omega)).trans hgo
        have hsc := e2.scalar
        simp (disch := first | decide | omega | (simp only [next_push, next_set] <;> omega) | fail) only [↓SB, ↓SO, SM, ↓SD, ↓SL, ST, List.getElem?_cons_zero, List.getElem?_cons_succ, @if_true, @if_false, ↓reduceIte, reduceCtorEq, Bool.false_eq_true, beq_self_eq_true, repL, Nat.reduceMul, Nat.reduceLeDiff, Nat.zero_le, Nat.zero_mul, Nat.reduceAdd, Int.reduceEq, Int.reduceLT, Int.reduceLE, Nat.zero_add, Nat.add_zero, h8, h70, hgo', cells_scalar hsc, hsc]
        refine ⟨k - 1, by omega, _, _, i + 1, v', rfl, by omega, by simp (disch := first | decide | omega | (simp only [next_push, next_set] <;> omega) | fail) only [↓SB, ↓SO, SM, ↓SD, ↓SL, ST, List.getElem?_cons_zero, List.getElem?_cons_succ, @if_true, @if_false, ↓reduceIte, reduceCtorEq, Bool.false_eq_true, beq_self_eq_true, repL, Nat.reduceMul, Nat.reduceLeDiff, Nat.zero_le, Nat.zero_mul, Nat.reduceAdd, Int.reduceEq, Int.reduceLT, Int.reduceLE, Nat.zero_add, Nat.add_zero, h2], by simp (disch := first | decide | omega | (simp only [next_push, next_set] <;> omega) | fail) only [↓SB, ↓SO, SM, ↓SD, ↓SL, ST, List.getElem?_cons_zero, List.getElem?_cons_succ, @if_true, @if_false, ↓reduceIte, reduceCtorEq, Bool.false_eq_true, beq_self_eq_true, repL, Nat.reduceMul, Nat.reduceLeDiff, Nat.zero_le, Nat.zero_mul, Nat.reduceAdd, Int.reduceEq, Int.reduceLT, Int.reduceLE, Nat.zero_add, Nat.add_zero, h3], by simp (disch := first | decide | omega | (simp only [next_push, next_set] <;> omega) | fail) only [↓SB, ↓SO, SM, ↓SD, ↓SL, ST, List.getElem?_cons_zero, List.getElem?_cons_succ, @if_true, @if_false, ↓reduceIte, reduceCtorEq, Bool.false_eq_true, beq_self_eq_true, repL, Nat.reduceMul, Nat.reduceLeDiff, Nat.zero_le, Nat.zero_mul, Nat.reduceAdd, Int.reduceEq, Int.reduceLT, Int.reduceLE, Nat.zero_add, Nat.add_zero, h4], by simp (disch := first | decide | omega | (simp only [next_push, next_set] <;> omega) | fail) only [↓SB, ↓SO, SM, ↓SD, ↓SL, ST, List.getElem?_cons_zero, List.getElem?_cons_succ, @if_true, @if_false, ↓reduceIte, reduceCtorEq, Bool.false_eq_true, beq_self_eq_true, repL, Nat.reduceMul, Nat.reduceLeDiff, Nat.zero_le, Nat.zero_mul, Nat.reduceAdd, Int.reduceEq, Int.reduceLT, Int.reduceLE, Nat.zero_add, Nat.add_zero, h6], by simp (disch := first | decide | omega | (simp only [next_push, next_set] <;> omega) | fail) only [↓SB, ↓SO, SM, ↓SD, ↓SL, ST, List.getElem?_cons_zero, List.getElem?_cons_succ, @if_true, @if_false, ↓reduceIte, reduceCtorEq, Bool.false_eq_true, beq_self_eq_true, repL, Nat.reduceMul, Nat.reduceLeDiff, Nat.zero_le, Nat.zero_mul, Nat.reduceAdd, Int.reduceEq, Int.reduceLT, Int.reduceLE, Nat.zero_add, Nat.add_zero, h8], by simp (disch := first | decide | omega | (simp only [next_push, next_set] <;> omega) | fail) only [↓SB, ↓SO, SM, ↓SD, ↓SL, ST, List.getElem?_cons_zero, List.getElem?_cons_succ, @if_true, @if_false, ↓reduceIte, reduceCtorEq, Bool.false_eq_true, beq_self_eq_true, repL, Nat.reduceMul, Nat.reduceLeDiff, Nat.zero_le, Nat.zero_mul, Nat.reduceAdd, Int.reduceEq, Int.reduceLT, Int.reduceLE, Nat.zero_add, Nat.add_zero, h68], by simp (disch := first | decide | omega | (simp only [next_push, next_set] <;> omega) | fail) only [↓SB, ↓SO, SM, ↓SD, ↓SL, ST, List.getElem?_cons_zero, List.getElem?_cons_succ, @if_true, @if_false, ↓reduceIte, reduceCtorEq, Bool.false_eq_true, beq_self_eq_true, repL, Nat.reduceMul, Nat.reduceLeDiff, Nat.zero_le, Nat.zero_mul, Nat.reduceAdd, Int.reduceEq, Int.reduceLT, Int.reduceLE, Nat.zero_add, Nat.add_zero, h69], by simp (disch := first | decide | omega | (simp only [next_push, next_set] <;> omega) | fail) only [↓SB, ↓SO, SM, ↓SD, ↓SL, ST, List.getElem?_cons_zero, List.getElem?_cons_succ, @if_true, @if_false, ↓reduceIte, reduceCtorEq, Bool.false_eq_true, beq_self_eq_true, repL, Nat.reduceMul, Nat.reduceLeDiff, Nat.zero_le, Nat.zero_mul, Nat.reduceAdd, Int.reduceEq, Int.reduceLT, Int.reduceLE, Nat.zero_add, Nat.add_zero, ]; rfl, ?_, ?_, get_set_same _ _ _, ?_, ?_, ?_⟩
        · simp (disch := first | decide | omega | (simp only [next_push, next_set] <;> omega) | fail) only [↓SB, ↓SO, SM, ↓SD, ↓SL, ST, List.getElem?_cons_zero, List.getElem?_cons_succ, @if_true, @if_false, ↓reduceIte, reduceCtorEq, Bool.false_eq_true, beq_self_eq_true, repL, Nat.reduceMul, Nat.reduceLeDiff, Nat.zero_le, Nat.zero_mul, Nat.reduceAdd, Int.reduceEq, Int.reduceLT, Int.reduceLE, Nat.zero_add, Nat.add_zero, hgc']
        · simp (disch := first | decide | omega | (simp only [next_push, next_set] <;> omega) | fail) only [↓SB, ↓SO, SM, ↓SD, ↓SL, ST, List.getElem?_cons_zero, List.getElem?_cons_succ, @if_true, @if_false, ↓reduceIte, reduceCtorEq, Bool.false_eq_true, beq_self_eq_true, repL, Nat.reduceMul, Nat.reduceLeDiff, Nat.zero_le, Nat.zero_mul, Nat.reduceAdd, Int.reduceEq, Int.reduceLT, Int.reduceLE, Nat.zero_add, Nat.add_zero, hgr']
        · rw [hkk]; exact e2.frame (Nat.le_refl _) fun j hj hid => get_set_ne _ _ (by omega) (by omega) (by have := (e2.id hid).2; omega)
        · exact (hfr.trans ⟨by omega, fun j hj hx => e5 j (by omega) (fun x => by have := hv.id x; omega)⟩).set (.inr rfl) (by omega) (by omega) _
        · rw [next_set]; omega
      · rw [f_no (fun s : Dfc => decide (s.f ≤ s.u)) (dfF at_ m c.u p) (fun x => hfu (of_decide_eq_true x)), List.append_nil] at hkk
        simp (disch := first | decide | omega | (simp only [next_push, next_set] <;> omega) | fail) only [↓SB, ↓SO, SM, ↓SD, ↓SL, ST, List.getElem?_cons_zero, List.getElem?_cons_succ, @if_true, @if_false, ↓reduceIte, reduceCtorEq, Bool.false_eq_true, beq_self_eq_true, repL, Nat.reduceMul, Nat.reduceLeDiff, Nat.zero_le, Nat.zero_mul, Nat.reduceAdd, Int.reduceEq, Int.reduceLT, Int.reduceLE, Nat.zero_add, Nat.add_zero, h2, h3, h4, h6, h8, h68, h69, h70, hil', ha, hgc, hgr, hgo, hgq, hr, hb, ht, hfu, hA, ↓wd_R rd8_25_1, pend_ld rd8_25_1, ↓wd_R rd8_25_5, pend_ld rd8_25_5, ↓wd_R rd8_25_7, pend_ld rd8_25_7]
        refine ⟨k - 1, by omega, _, _, i + 1, v, rfl, by omega, by simp (disch := first | decide | omega | (simp only [next_push, next_set] <;> omega) | fail) only [↓SB, ↓SO, SM, ↓SD, ↓SL, ST, List.getElem?_cons_zero, List.getElem?_cons_succ, @if_true, @if_false, ↓reduceIte, reduceCtorEq, Bool.false_eq_true, beq_self_eq_true, repL, Nat.reduceMul, Nat.reduceLeDiff, Nat.zero_le, Nat.zero_mul, Nat.reduceAdd, Int.reduceEq, Int.reduceLT, Int.reduceLE, Nat.zero_add, Nat.add_zero, h2], by simp (disch := first | decide | omega | (simp only [next_push, next_set] <;> omega) | fail) only [↓SB, ↓SO, SM, ↓SD, ↓SL, ST, List.getElem?_cons_zero, List.getElem?_cons_succ, @if_true, @if_false, ↓reduceIte, reduceCtorEq, Bool.false_eq_true, beq_self_eq_true, repL, Nat.reduceMul, Nat.reduceLeDiff, Nat.zero_le, Nat.zero_mul, Nat.reduceAdd, Int.reduceEq, Int.reduceLT, Int.reduceLE, Nat.zero_add, Nat.add_zero, h3], by simp (disch := first | decide | omega | (simp only [next_push, next_set] <;> omega) | fail) only [↓SB, ↓SO, SM, ↓SD, ↓SL, ST, List.getElem?_cons_zero, List.getElem?_cons_succ, @if_true, @if_false, ↓reduceIte, reduceCtorEq, Bool.false_eq_true, beq_self_eq_true, repL, Nat.reduceMul, Nat.reduceLeDiff, Nat.zero_le, Nat.zero_mul, Nat.reduceAdd, Int.reduceEq, Int.reduceLT, Int.reduceLE, Nat.zero_add, Nat.add_zero, h4], by simp (disch := first | decide | omega | (simp only [next_push, next_set] <;> omega) | fail) only [↓SB, ↓SO, SM, ↓SD, ↓SL, ST, List.getElem?_cons_zero, List.getElem?_cons_succ, @if_true, @if_false, ↓reduceIte, reduceCtorEq, Bool.false_eq_true, beq_self_eq_true, repL, Nat.reduceMul, Nat.reduceLeDiff, Nat.zero_le, Nat.zero_mul, Nat.reduceAdd, Int.reduceEq, Int.reduceLT, Int.reduceLE, Nat.zero_add, Nat.add_zero, h6], by simp (disch := first | decide | omega | (simp only [next_push, next_set] <;> omega) | fail) only [↓SB, ↓SO, SM, ↓SD, ↓SL, ST, List.getElem?_cons_zero, List.getElem?_cons_succ, @if_true, @if_false, ↓reduceIte, reduceCtorEq, Bool.false_eq_true, beq_self_eq_true, repL, Nat.reduceMul, Nat.reduceLeDiff, Nat.zero_le, Nat.zero_mul, Nat.reduceAdd, Int.reduceEq, Int.reduceLT, Int.reduceLE, Nat.zero_add, Nat.add_zero, h8], by simp (disch := first | decide | omega | (simp only [next_push, next_set] <;> omega) | fail) only [↓SB, ↓SO, SM, ↓SD, ↓SL, ST, List.getElem?_cons_zero, List.getElem?_cons_succ, @if_true, @if_false, ↓reduceIte, reduceCtorEq, Bool.false_eq_true, beq_self_eq_true, repL, Nat.reduceMul, Nat.reduceLeDiff, Nat.zero_le, Nat.zero_mul, Nat.reduceAdd, Int.reduceEq, Int.reduceLT, Int.reduceLE, Nat.zero_add, Nat.add_zero, h68], by simp (disch := first | decide | omega | (simp only [next_push, next_set] <;> omega) | fail) only [↓SB, ↓SO, SM, ↓SD, ↓SL, ST, List.getElem?_cons_zero, List.getElem?_cons_succ, @if_true, @if_false, ↓reduceIte, reduceCtorEq, Bool.false_eq_true, beq_self_eq_true, repL, Nat.reduceMul, Nat.reduceLeDiff, Nat.zero_le, Nat.zero_mul, Nat.reduceAdd, Int.reduceEq, Int.reduceLT, Int.reduceLE, Nat.zero_add, Nat.add_zero, h69], by simp (disch := first | decide | omega | (simp only [next_push, next_set] <;> omega) | fail) only [↓SB, ↓SO, SM, ↓SD, ↓SL, ST, List.getElem?_cons_zero, List.getElem?_cons_succ, @if_true, @if_false, ↓reduceIte, reduceCtorEq, Bool.false_eq_true, beq_self_eq_true, repL, Nat.reduceMul, Nat.reduceLeDiff, Nat.zero_le, Nat.zero_mul, Nat.reduceAdd, Int.reduceEq, Int.reduceLT, Int.reduceLE, Nat.zero_add, Nat.add_zero, ]; rfl, ?_, ?_, ?_, ?_, ?_, ?_⟩
        · simp (disch := first | decide | omega | (simp only [next_push, next_set] <;> omega) | fail) only [↓SB, ↓SO, SM, ↓SD, ↓SL, ST, List.getElem?_cons_zero, List.getElem?_cons_succ, @if_true, @if_false, ↓reduceIte, reduceCtorEq, Bool.false_eq_true, beq_self_eq_true, repL, Nat.reduceMul, Nat.reduceLeDiff, Nat.zero_le, Nat.zero_mul, Nat.reduceAdd, Int.reduceEq, Int.reduceLT, Int.reduceLE, Nat.zero_add, Nat.add_zero, hgc]
        · simp (disch := first | decide | omega | (simp only [next_push, next_set] <;> omega) | fail) only [↓SB, ↓SO, SM, ↓SD, ↓SL, ST, List.getElem?_cons_zero, List.getElem?_cons_succ, @if_true, @if_false, ↓reduceIte, reduceCtorEq, Bool.false_eq_true, beq_self_eq_true, repL, Nat.reduceMul, Nat.reduceLeDiff, Nat.zero_le, Nat.zero_mul, Nat.reduceAdd, Int.reduceEq, Int.reduceLT, Int.reduceLE, Nat.zero_add, Nat.add_zero, hgr]
        · simp (disch := first | decide | omega | (simp only [next_push, next_set] <;> omega) | fail) only [↓SB, ↓SO, SM, ↓SD, ↓SL, ST, List.getElem?_cons_zero, List.getElem?_cons_succ, @if_true, @if_false, ↓reduceIte, reduceCtorEq, Bool.false_eq_true, beq_self_eq_true, repL, Nat.reduceMul, Nat.reduceLeDiff, Nat.zero_le, Nat.zero_mul, Nat.reduceAdd, Int.reduceEq, Int.reduceLT, Int.reduceLE, Nat.zero_add, Nat.add_zero, hgo]
        · rw [hkk]; exact hv.fr (by repeat (first | exact Fr.refl _ _ _ | refine Fr.push ?_ (by first | omega | (simp only [next_push, next_set] <;> omega)) (by first | omega | (simp only [next_push, next_set] <;> omega)) _ | refine Fr.set ?_ (.inl (by first | omega | (simp only [next_push, next_set] <;> omega))) (by first | omega | (simp only [next_push, next_set] <;> omega)) (by first | omega | (simp only [next_push, next_set] <;> omega)) _))
        · exact hfr.on hle (by repeat (first | exact Fr.refl _ _ _ | refine Fr.push ?_ (by first | omega | (simp only [next_push, next_set] <;> omega)) (by first | omega | (simp only [next_push, next_set] <;> omega)) _ | refine Fr.set ?_ (.inl (by first | omega | (simp only [next_push, next_set] <;> omega))) (by first | omega | (simp only [next_push, next_set] <;> omega)) (by first | omega | (simp only [next_push, next_set] <;> omega)) _))
        · simp only [next_push, next_set]; omega
    · by_cases hB : max c.u at_ < p.n
      · have hkn : knF at_ m c.u p.n = 38399 := by unfold knF; rw [if_neg hA, if_pos hB]
        by_cases hfu : max p.f m ≤ min p.u c.u
        · rw [f_yes (fun s : Dfc => decide (s.f ≤ s.u)) (dfF at_ m c.u p) (decide_eq_true hfu)] at hkk
          simp (disch := first | decide | omega | (simp only [next_push, next_set] <;> omega) | fail) only [↓SB, ↓SO, SM, ↓SD, ↓SL, ST, List.getElem?_cons_zero, List.getElem?_cons_succ, @if_true, @if_false, ↓reduceIte, reduceCtorEq, Bool.false_eq_true, beq_self_eq_true, repL, Nat.reduceMul, Nat.reduceLeDiff, Nat.zero_le, Nat.zero_mul, Nat.reduceAdd, Int.reduceEq, Int.reduceLT, Int.reduceLE, Nat.zero_add, Nat.add_zero, h2, h3, h4, h6, h8, h68, h69, h70, hil', ha, hgc, hgr, hgo, hgq, hr, hb, ht, hfu, hA, hB, ↓wd_R rd8_25_1, pend_ld rd8_25_1, ↓wd_R rd8_25_5, pend_ld rd8_25_5, ↓wd_R rd8_25_7, pend_ld rd8_25_7]
          refine wp_append (α := Dfc) (e := 42) (zs := [dfF at_ m c.u p]) ap24_24 hv (by repeat (first | exact Fr.refl _ _ _ | refine Fr.push ?_ (by first | omega | (simp only [next_push, next_set] <;> omega)) (by first | omega | (simp only [next_push, next_set] <;> omega)) _ | refine Fr.set ?_ (.inl (by first | omega | (simp only [next_push, next_set] <;> omega))) (by first | omega | (simp only [next_push, next_set] <;> omega)) (by first | omega | (simp only [next_push, next_set] <;> omega)) _)) (is_built (get_push_same _ _ (by simp only [next_push, next_set])) (by rw [flat_one, ce_dfc]; simp only [dfF, hkn]) rfl (by simp only [next_push, next_set]; omega)) (by rw [List.length_singleton]; omega) (by decide) (by first | omega | (simp only [next_push, next_set] <;> omega)) hle ?_
          intro v' H' e2 e3 e4 e5
          simp only [next_push, next_set] at e3 e4
          have hgc' : H'.get n0 = _ := (e5 n0 (by omega) (fun x => by have := hv.id x; omega)).trans hgc
          have hgr' : H'.get (n0 + 1) = _ := (e5 (n0 + 1) (by omega) (fun x => by have := hv.id x; omega)).trans hgr
          have hgo' : H'.get ro = _ := (e5 ro (by omega) (fun x => by have := hv.id x; omega)).trans hgo
          have hsc := e2.scalar
          simp (disch := first | decide | omega | (simp only [next_push, next_set] <;> omega) | fail) only [↓SB, ↓SO, SM, ↓SD, ↓SL, ST, List.getElem?_cons_zero, List.getElem?_cons_succ, @if_true, @if_false, ↓reduceIte, reduceCtorEq, Bool.false_eq_true, beq_self_eq_true, repL, Nat.reduceMul, Nat.reduceLeDiff, Nat.zero_le, Nat.zero_mul, Nat.reduceAdd, Int.reduceEq, Int.reduceLT, Int.reduceLE, Nat.zero_add, Nat.add_zero, h8, h70, hgo', cells_scalar hsc, hsc]
          refine ⟨k - 1, by omega, _, _, i + 1, v', rfl, by omega, by simp (disch := first | decide | omega | (simp only [next_push, next_set] <;> omega) | fail) only [↓SB, ↓SO, SM, ↓SD, ↓SL, ST, List.getElem?_cons_zero, List.getElem?_cons_succ, @if_true, @if_false, ↓reduceIte, reduceCtorEq, Bool.false_eq_true, beq_self_eq_true, repL, Nat.reduceMul, Nat.reduceLeDiff, Nat.zero_le, Nat.zero_mul, Nat.reduceAdd, Int.reduceEq, Int.reduceLT, Int.reduceLE, Nat.zero_add, Nat.add_zero, h2], by simp (disch := first | decide | omega | (simp only [next_push, next_set] <;> omega) | fail) only [↓SB, ↓SO, SM, ↓SD, ↓SL, ST, List.getElem?_cons_zero, List.getElem?_cons_succ, @if_true, @if_false, ↓reduceIte, reduceCtorEq, Bool.false_eq_true, beq_self_eq_true, repL, Nat.reduceMul, Nat.reduceLeDiff, Nat.zero_le, Nat.zero_mul, Nat.reduceAdd, Int.reduceEq, Int.reduceLT, Int.reduceLE, Nat.zero_add, Nat.add_zero, h3], by simp (disch := first | decide | omega | (simp only [next_push, next_set] <;> omega) | fail) only [↓SB, ↓SO, SM, ↓SD, ↓SL, ST, List.getElem?_cons_zero, List.getElem?_cons_succ, @if_true, @if_false, ↓reduceIte, reduceCtorEq, Bool.false_eq_true, beq_self_eq_true, repL, Nat.reduceMul, Nat.reduceLeDiff, Nat.zero_le, Nat.zero_mul, Nat.reduceAdd, Int.reduceEq, Int.reduceLT, Int.reduceLE, Nat.zero_add, Nat.add_zero, h4], by simp (disch := first | decide | omega | (simp only [next_push, next_set] <;> omega) | fail) only [↓SB, ↓SO, SM, ↓SD, ↓SL, ST, List.getElem?_cons_zero, List.getElem?_cons_succ, @if_true, @if_false, ↓reduceIte, reduceCtorEq, Bool.false_eq_true, beq_self_eq_true, repL, Nat.reduceMul, Nat.reduceLeDiff, Nat.zero_le, Nat.zero_mul, Nat.reduceAdd, Int.reduceEq, Int.reduceLT, Int.reduceLE, Nat.zero_add, Nat.add_zero, h6], by simp (disch := first | decide | omega | (simp only [next_push, next_set] <;> omega) | fail) only [↓SB, ↓SO, SM, ↓SD, ↓SL, ST, List.getElem?_cons_zero, List.getElem?_cons_succ, @if_true, @if_false, ↓reduceIte, reduceCtorEq, Bool.false_eq_true, beq_self_eq_true, repL, Nat.reduceMul, Nat.reduceLeDiff, Nat.zero_le, Nat.zero_mul, Nat.reduceAdd, Int.reduceEq, Int.reduceLT, Int.reduceLE, Nat.zero_add, Nat.add_zero, h8], by simp (disch := first | decide | omega | (simp only [next_push, next_set] <;> omega) | fail) only [↓SB, ↓SO, SM, ↓SD, ↓SL, ST, List.getElem?_cons_zero, List.getElem?_cons_succ, @if_true, @if_false, ↓reduceIte, reduceCtorEq, Bool.false_eq_true, beq_self_eq_true, repL, Nat.reduceMul, Nat.reduceLeDiff, Nat.zero_le, Nat.zero_mul, Nat.reduceAdd, Int.reduceEq, Int.reduceLT, Int.reduceLE, Nat.zero_add, Nat.add_zero, h68], by simp (disch := first | decide | omega | (simp only [next_push, next_set] <;> omega) | fail) only [↓SB, ↓SO, SM, ↓SD, ↓SL, ST, List.getElem?_cons_zero, List.getElem?_cons_succ, @if_true, @if_false, ↓reduceIte, reduceCtorEq, Bool.false_eq_true, beq_self_eq_true, repL, Nat.reduceMul, Nat.reduceLeDiff, Nat.zero_le, Nat.zero_mul, Nat.reduceAdd, Int.reduceEq, Int.reduceLT, Int.reduceLE, Nat.zero_add, Nat.add_zero, h69], by simp (disch := first | decide | omega | (simp only [next_push, next_set] <;> omega) | fail) only [↓SB, ↓SO, SM, ↓SD, ↓SL, ST, List.getElem?_cons_zero, List.getElem?_cons_succ, @if_true, @if_false, ↓reduceIte, reduceCtorEq, Bool.false_eq_true, beq_self_eq_true, repL, Nat.reduceMul, Nat.reduceLeDiff, Nat.zero_le, Nat.zero_mul, Nat.reduceAdd, Int.reduceEq, Int.reduceLT, Int.reduceLE, Nat.zero_add, Nat.add_zero, ]; rfl, ?_, ?_, get_set_same _ _ _, ?_, ?_, ?_⟩
          · simp (disch := first | decide | omega | (simp only [next_push, next_set] <;> omega) | fail) only [↓SB, ↓SO, SM, ↓SD, ↓SL, ST, List.getElem?_cons_zero, List.getElem?_cons_succ, @if_true, @if_false, ↓reduceIte, reduceCtorEq, Bool.false_eq_true, beq_self_eq_true, repL, Nat.reduceMul, Nat.reduceLeDiff, Nat.zero_le, Nat.zero_mul, Nat.reduceAdd, Int.reduceEq, Int.reduceLT, Int.reduceLE, Nat.zero_add, Nat.add_zero, hgc']
          · simp (disch := first | decide | omega | (simp only [next_push, next_set] <;> omega) | fail) only [↓SB, ↓SO, SM, ↓SD, ↓SL, ST, List.getElem?_cons_zero, List.getElem?_cons_succ, @if_true, @if_false, ↓reduceIte, reduceCtorEq, Bool.false_eq_true, beq_self_eq_true, repL, Nat.reduceMul, Nat.reduceLeDiff, Nat.zero_le, Nat.zero_mul, Nat.reduceAdd, Int.reduceEq, Int.reduceLT, Int.reduceLE, Nat.zero_add, Nat.add_zero, hgr']
          · rw [hkk]; exact e2.frame (Nat.le_refl _) fun j hj hid => get_set_ne _ _ (by omega) (by omega) (by have := (e2.id hid).2; omega)
          · exact (hfr.trans ⟨by omega, fun j hj hx => e5 j (by omega) (fun x => by have := hv.id x; omega)⟩).set (.inr rfl) (by omega) (by omega) _
          · rw [next_set]; omega
        · rw [f_no (fun s : Dfc => decide (s.f ≤ s.u)) (dfF at_ m c.u p) (fun x => hfu (of_decide_eq_true x)), List.append_nil] at hkk
          simp (disch := first | decide | omega | (simp only [next_push, next_set] <;> omega) | fail) only [↓SB, ↓SO, SM, ↓SD, ↓SL, ST, List.getElem?_cons_zero, List.getElem?_cons_succ, @if_true, @if_false, ↓reduceIte, reduceCtorEq, Bool.false_eq_true, beq_self_eq_true, repL, Nat.reduceMul, Nat.reduceLeDiff, Nat.zero_le, Nat.zero_mul, Nat.reduceAdd, Int.reduceEq, Int.reduceLT, Int.reduceLE, Nat.zero_add, Nat.add_zero, h2, h3, h4, h6, h8, h68, h69, h70, hil', ha, hgc, hgr, hgo, hgq, hr, hb, ht, hfu, hA, hB, ↓wd_R rd8_25_1, pend_ld rd8_25_1, ↓wd_R rd8_25_5, pend_ld rd8_25_5, ↓wd_R rd8_25_7, pend_ld rd8_25_7]
          refine ⟨k - 1, by omega, _, _, i + 1, v, rfl, by omega, by simp (disch := first | decide | omega | (simp only [next_push, next_set] <;> omega) | fail) only [↓SB, ↓SO, SM, ↓SD, ↓SL, ST, List.getElem?_cons_zero, List.getElem?_cons_succ, @if_true, @if_false, ↓reduceIte, reduceCtorEq, Bool.false_eq_true, beq_self_eq_true, repL, Nat.reduceMul, Nat.reduceLeDiff, Nat.zero_le, Nat.zero_mul, Nat.reduceAdd, Int.reduceEq, Int.reduceLT, Int.reduceLE, Nat.zero_add, Nat.add_zero, h2], by simp (disch := first | decide | omega | (simp only [next_push, next_set] <;> omega) | fail) only [↓SB, ↓SO, SM, ↓SD, ↓SL, ST, List.getElem?_cons_zero, List.getElem?_cons_succ, @if_true, @if_false, ↓reduceIte, reduceCtorEq, Bool.false_eq_true, beq_self_eq_true, repL, Nat.reduceMul, Nat.reduceLeDiff, Nat.zero_le, Nat.zero_mul, Nat.reduceAdd, Int.reduceEq, Int.reduceLT, Int.reduceLE, Nat.zero_add, Nat.add_zero, h3], by simp (disch := first | decide | omega | (simp only [next_push, next_set] <;> omega) | fail) only [↓SB, ↓SO, SM, ↓SD, ↓SL, ST, List.getElem?_cons_zero, List.getElem?_cons_succ, @if_true, @if_false, ↓reduceIte, reduceCtorEq, Bool.false_eq_true, beq_self_eq_true, repL, Nat.reduceMul, Nat.reduceLeDiff, Nat.zero_le, Nat.zero_mul, Nat.reduceAdd, Int.reduceEq, Int.reduceLT, Int.reduceLE, Nat.zero_add, Nat.add_zero, h4], by simp (disch := first | decide | omega | (simp only [next_push, next_set] <;> omega) | fail) only [↓SB, ↓SO, SM, ↓SD, ↓SL, ST, List.getElem?_cons_zero, List.getElem?_cons_succ, @if_true, @if_false, ↓reduceIte, reduceCtorEq, Bool.false_eq_true, beq_self_eq_true, repL, Nat.reduceMul, Nat.reduceLeDiff, Nat.zero_le, Nat.zero_mul, Nat.reduceAdd, Int.reduceEq, Int.reduceLT, Int.reduceLE, Nat.zero_add, Nat.add_zero, h6], by simp (disch := first | decide | omega | (simp only [next_push, next_set] <;> omega) | fail) only [↓SB, ↓SO, SM, ↓SD, ↓SL, ST, List.getElem?_cons_zero, List.getElem?_cons_succ, @if_true, @if_false, ↓reduceIte, reduceCtorEq, Bool.false_eq_true, beq_self_eq_true, repL, Nat.reduceMul, Nat.reduceLeDiff, Nat.zero_le, Nat.zero_mul, Nat.reduceAdd, Int.reduceEq, Int.reduceLT, Int.reduceLE, Nat.zero_add, Nat.add_zero, h8], by simp (disch := first | decide | omega | (simp only [next_push, next_set] <;> omega) | fail) only [↓SB, ↓SO, SM, ↓SD, ↓SL, ST, List.getElem?_cons_zero, List.getElem?_cons_succ, @if_true, @if_false, ↓reduceIte, reduceCtorEq, Bool.false_eq_true, beq_self_eq_true, repL, Nat.reduceMul, Nat.reduceLeDiff, Nat.zero_le, Nat.zero_mul, Nat.reduceAdd, Int.reduceEq, Int.reduceLT, Int.reduceLE, Nat.zero_add, Nat.add_zero, h68], by simp (disch := first | decide | omega | (simp only [next_push, next_set] <;> omega) | fail) only [↓SB, ↓SO, SM, ↓SD, ↓SL, ST, List.getElem?_cons_zero, List.getElem?_cons_succ, @if_true, @if_false, ↓reduceIte, reduceCtorEq, Bool.false_eq_true, beq_self_eq_true, repL, Nat.reduceMul, Nat.reduceLeDiff, Nat.zero_le, Nat.zero_mul, Nat.reduceAdd, Int.reduceEq, Int.reduceLT, Int.reduceLE, Nat.zero_add, Nat.add_zero, h69], by simp (disch := first | decide | omega | (simp only [next_push, next_set] <;> omega) | fail) only [↓SB, ↓SO, SM, ↓SD, ↓SL, ST, List.getElem?_cons_zero, List.getElem?_cons_succ, @if_true, @if_false, ↓reduceIte, reduceCtorEq, Bool.false_eq_true, beq_self_eq_true, repL, Nat.reduceMul, Nat.reduceLeDiff, Nat.zero_le, Nat.zero_mul, Nat.reduceAdd, Int.reduceEq, Int.reduceLT, Int.reduceLE, Nat.zero_add, Nat.add_zero, ]; rfl, ?_, ?_, ?_, ?_, ?_, ?_⟩
          · simp (disch := first | decide | omega | (simp only [next_push, next_set] <;> omega) | fail) only [↓SB, ↓SO, SM, ↓SD, ↓SL, ST, List.getElem?_cons_zero, List.getElem?_cons_succ, @if_true, @if_false, ↓reduceIte, reduceCtorEq, Bool.false_eq_true, beq_self_eq_true, repL, Nat.reduceMul, Nat.reduceLeDiff, Nat.zero_le, Nat.zero_mul, Nat.reduceAdd, Int.reduceEq, Int.reduceLT, Int.reduceLE, Nat.zero_add, Nat.add_zero, hgc]
          · simp (disch := first | decide | omega | (simp only [next_push, next_set] <;> omega) | fail) only [↓SB, ↓SO, SM, ↓SD, ↓SL, ST, List.getElem?_cons_zero, List.getElem?_cons_succ, @if_true, @if_false, ↓reduceIte, reduceCtorEq, Bool.false_eq_true, beq_self_eq_true, repL, Nat.reduceMul, Nat.reduceLeDiff, Nat.zero_le, Nat.zero_mul, Nat.reduceAdd, Int.reduceEq, Int.reduceLT, Int.reduceLE, Nat.zero_add, Nat.add_zero, hgr]
          · simp (disch := first | decide | omega | (simp only [next_push, next_set] <;> omega) | fail) only [↓SB, ↓SO, SM, ↓SD, ↓SL, ST, List.getElem?_cons_zero, List.getElem?_cons_succ, @if_true, @if_false, ↓reduceIte, reduceCtorEq, Bool.false_eq_true, beq_self_eq_true, repL, Nat.reduceMul, Nat.reduceLeDiff, Nat.zero_le, Nat.zero_mul, Nat.reduceAdd, Int.reduceEq, Int.reduceLT, Int.reduceLE, Nat.zero_add, Nat.add_zero, hgo]
          · rw [hkk]; exact hv.fr (by repeat (first | exact Fr.refl _ _ _ | refine Fr.push ?_ (by first | omega | (simp only [next_push, next_set] <;> omega)) (by first | omega | (simp only [next_push, next_set] <;> omega)) _ | refine Fr.set ?_ (.inl (by first | omega | (simp only [next_push, next_set] <;> omega))) (by first | omega | (simp only [next_push, next_set] <;> omega)) (by first | omega | (simp only [next_push, next_set] <;> omega)) _))
          · exact hfr.on hle (by repeat (first | exact Fr.refl _ _ _ | refine Fr.push ?_ (by first | omega | (simp only [next_push, next_set] <;> omega)) (by first | omega | (simp only [next_push, next_set] <;> omega)) _ | refine Fr.set ?_ (.inl (by first | omega | (simp only [next_push, next_set] <;> omega))) (by first | omega | (simp only [next_push, next_set] <;> omega)) (by first | omega | (simp only [next_push, next_set] <;> omega)) _))
          · simp only [next_push, next_set]; omega
      · have hkn : knF at_ m c.u p.n = p.n := by unfold knF; rw [if_neg hA, if_neg hB]
        by_cases hfu : max p.f m ≤ min p.u c.u
        · rw [f_yes (fun s : Dfc => decide (s.f ≤ s.u)) (dfF at_ m c.u p) (decide_eq_true hfu)] at hkk
          simp (disch := first | decide | omega | (simp only [next_push, next_set] <;> omega) | fail) only [↓SB, ↓SO, SM, ↓SD, ↓SL, ST, List.getElem?_cons_zero, List.getElem?_cons_succ, @if_true, @if_false, ↓reduceIte, reduceCtorEq, Bool.false_eq_true, beq_self_eq_true, repL, Nat.reduceMul, Nat.reduceLeDiff, Nat.zero_le, Nat.zero_mul, Nat.reduceAdd, Int.reduceEq, Int.reduceLT, Int.reduceLE, Nat.zero_add, Nat.add_zero, h2, h3, h4, h6, h8, h68, h69, h70, hil', ha, hgc, hgr, hgo, hgq, hr, hb, ht, hfu, hA, hB, ↓wd_R rd8_25_1, pend_ld rd8_25_1, ↓wd_R rd8_25_5, pend_ld rd8_25_5, ↓wd_R rd8_25_7, pend_ld rd8_25_7]
          refine wp_append (α := Dfc) (e := 42) (zs := [dfF at_ m c.u p]) ap24_24 hv (by repeat (first | exact Fr.refl _ _ _ | refine Fr.push ?_ (by first | omega | (simp only [next_push, next_set] <;> omega)) (by first | omega | (simp only [next_push, next_set] <;> omega)) _ | refine Fr.set ?_ (.inl (by first | omega | (simp only [next_push, next_set] <;> omega))) (by first | omega | (simp only [next_push, next_set] <;> omega)) (by first | omega | (simp only [next_push, next_set] <;> omega)) _)) (is_built (get_push_same _ _ (by simp only [next_push, next_set])) (by rw [flat_one, ce_dfc]; simp only [dfF, hkn]) rfl (by simp only [next_push, next_set]; omega)) (by rw [List.length_singleton]; omega) (by decide) (by first | omega | (simp only [next_push, next_set] <;> omega)) hle ?_
          intro v' H' e2 e3 e4 e5
          simp only [next_push, next_set] at e3 e4
          have hgc' : H'.get n0 = _ := (e5 n0 (by omega) (fun x => by have := hv.id x; omega)).trans hgc
          have hgr' : H'.get (n0 + 1) = _ := (e5 (n0 + 1) (by omega) (fun x => by have := hv.id x; omega)).trans hgr
          have hgo' : H'.get ro = _ := (e5 ro (by omega) (fun x => by have := hv.id x; omega)).trans hgo
          have hsc := e2.scalar
          simp (disch := first | decide | omega | (simp only [next_push, next_set] <;> omega) | fail) only [↓SB, ↓SO, SM, ↓SD, ↓SL, ST, List.getElem?_cons_zero, List.getElem?_cons_succ, @if_true, @if_false, ↓reduceIte, reduceCtorEq, Bool.false_eq_true, beq_self_eq_true, repL, Nat.reduceMul, Nat.reduceLeDiff, Nat.zero_le, Nat.zero_mul, Nat.reduceAdd, Int.reduceEq, Int.reduceLT, Int.reduceLE, Nat.zero_add, Nat.add_zero, h8, h70, hgo', cells_scalar hsc, hsc]
          refine ⟨k - 1, by omega, _, _, i + 1, v', rfl, by omega, by simp (disch := first | decide | omega | (simp only [next_push, next_set] <;> omega) | fail) only [↓SB, ↓SO, SM, ↓SD, ↓SL, ST, List.getElem?_cons_zero, List.getElem?_cons_succ, @if_true, @if_false, ↓reduceIte, reduceCtorEq, Bool.false_eq_true, beq_self_eq_true, repL, Nat.reduceMul, Nat.reduceLeDiff, Nat.zero_le, Nat.zero_mul, Nat.reduceAdd, Int.reduceEq, Int.reduceLT, Int.reduceLE, Nat.zero_add, Nat.add_zero, h2], by simp (disch := first | decide | omega | (simp only [next_push, next_set] <;> omega) | fail) only [↓SB, ↓SO, SM, ↓SD, ↓SL, ST, List.getElem?_cons_zero, List.getElem?_cons_succ, @if_true, @if_false, ↓reduceIte, reduceCtorEq, Bool.false_eq_true, beq_self_eq_true, repL, Nat.reduceMul, Nat.reduceLeDiff, Nat.zero_le, Nat.zero_mul, Nat.reduceAdd, Int.reduceEq, Int.reduceLT, Int.reduceLE, Nat.zero_add, Nat.add_zero, h3], by simp (disch := first | decide | omega | (simp only [next_push, next_set] <;> omega) | fail) only [↓SB, ↓SO, SM, ↓SD, ↓SL, ST, List.getElem?_cons_zero, List.getElem?_cons_succ, @if_true, @if_false, ↓reduceIte, reduceCtorEq, Bool.false_eq_true, beq_self_eq_true, repL, Nat.reduceMul, Nat.reduceLeDiff, Nat.zero_le, Nat.zero_mul, Nat.reduceAdd, Int.reduceEq, Int.reduceLT, Int.reduceLE, Nat.zero_add, Nat.add_zero, h4], by simp (disch := first | decide | omega | (simp only [next_push, next_set] <;> omega) | fail) only [↓SB, ↓SO, SM, ↓SD, ↓SL, ST, List.getElem?_cons_zero, List.getElem?_cons_succ, @if_true, @if_false, ↓reduceIte, reduceCtorEq, Bool.false_eq_true, beq_self_eq_true, repL, Nat.reduceMul, Nat.reduceLeDiff, Nat.zero_le, Nat.zero_mul, Nat.reduceAdd, Int.reduceEq, Int.reduceLT, Int.reduceLE, Nat.zero_add, Nat.add_zero, h6], by simp (disch := first | decide | omega | (simp only [next_push, next_set] <;> omega) | fail) only [↓SB, ↓SO, SM, ↓SD, ↓SL, ST, List.getElem?_cons_zero, List.getElem?_cons_succ, @if_true, @if_false, ↓reduceIte, reduceCtorEq, Bool.false_eq_true, beq_self_eq_true, repL, Nat.reduceMul, Nat.reduceLeDiff, Nat.zero_le, Nat.zero_mul, Nat.reduceAdd, Int.reduceEq, Int.reduceLT, Int.reduceLE, Nat.zero_add, Nat.add_zero, h8], by simp (disch := first | decide | omega | (simp only [next_push, next_set] <;> omega) | fail) only [↓SB, ↓SO, SM, ↓SD, ↓SL, ST, List.getElem?_cons_zero, List.getElem?_cons_succ, @if_true, @if_false, ↓reduceIte, reduceCtorEq, Bool.false_eq_true, beq_self_eq_true, repL, Nat.reduceMul, Nat.reduceLeDiff, Nat.zero_le, Nat.zero_mul, Nat.reduceAdd, Int.reduceEq, Int.reduceLT, Int.reduceLE, Nat.zero_add, Nat.add_zero, h68], by simp (disch := first | decide | omega | (simp only [next_push, next_set] <;> omega) | fail) only [↓SB, ↓SO, SM, ↓SD, ↓SL, ST, List.getElem?_cons_zero, List.getElem?_cons_succ, @if_true, @if_false, ↓reduceIte, reduceCtorEq, Bool.false_eq_true, beq_self_eq_true, repL, Nat.reduceMul, Nat.reduceLeDiff, Nat.zero_le, Nat.zero_mul, Nat.reduceAdd, Int.reduceEq, Int.reduceLT, Int.reduceLE, Nat.zero_add, Nat.add_zero, h69], by simp (disch := first | decide | omega | (simp only [next_push, next_set] <;> omega) | fail) only [↓SB, ↓SO, SM, ↓SD, ↓SL, ST, List.getElem?_cons_zero, List.getElem?_cons_succ, @if_true, @if_false, ↓reduceIte, reduceCtorEq, Bool.false_eq_true, beq_self_eq_true, repL, Nat.reduceMul, Nat.reduceLeDiff, Nat.zero_le, Nat.zero_mul, Nat.reduceAdd, Int.reduceEq, Int.reduceLT, Int.reduceLE, Nat.zero_add, Nat.add_zero, ]; rfl, ?_, ?_, get_set_same _ _ _, ?_, ?_, ?_⟩
          · simp (disch := first | decide | omega | (simp only [next_push, next_set] <;> omega) | fail) only [↓SB, ↓SO, SM, ↓SD, ↓SL, ST, List.getElem?_cons_zero, List.getElem?_cons_succ, @if_true, @if_false, ↓reduceIte, reduceCtorEq, Bool.false_eq_true, beq_self_eq_true, repL, Nat.reduceMul, Nat.reduceLeDiff, Nat.zero_le, Nat.zero_mul, Nat.reduceAdd, Int.reduceEq, Int.reduceLT, Int.reduceLE, Nat.zero_add, Nat.add_zero, hgc']
          · simp (disch := first | decide | omega | (simp only [next_push, next_set] <;> omega) | fail) only [↓SB, ↓SO, SM, ↓SD, ↓SL, ST, List.getElem?_cons_zero, List.getElem?_cons_succ, @if_true, @if_false, ↓reduceIte, reduceCtorEq, Bool.false_eq_true, beq_self_eq_true, repL, Nat.reduceMul, Nat.reduceLeDiff, Nat.zero_le, Nat.zero_mul, Nat.reduceAdd, Int.reduceEq, Int.reduceLT, Int.reduceLE, Nat.zero_add, Nat.add_zero, hgr']
          · rw [hkk]; exact e2.frame (Nat.le_refl _) fun j hj hid => get_set_ne _ _ (by omega) (by omega) (by have := (e2.id hid).2; omega)
          · exact (hfr.trans ⟨by omega, fun j hj hx => e5 j (by omega) (fun x => by have := hv.id x; omega)⟩).set (.inr rfl) (by omega) (by omega) _
          · rw [next_set]; omega
        · rw [f_no (fun s : Dfc => decide (s.f ≤ s.u)) (dfF at_ m c.u p) (fun x => hfu (of_decide_eq_true x)), List.append_nil] at hkk
          simp (disch := first | decide | omega | (simp only [next_push, next_set] <;> omega) | fail) only [↓SB, ↓SO, SM, ↓SD, ↓SL, ST, List.getElem?_cons_zero, List.getElem?_cons_succ, @if_true, @if_false, ↓reduceIte, reduceCtorEq, Bool.false_eq_true, beq_self_eq_true, repL, Nat.reduceMul, Nat.reduceLeDiff, Nat.zero_le, Nat.zero_mul, Nat.reduceAdd, Int.reduceEq, Int.reduceLT, Int.reduceLE, Nat.zero_add, Nat.add_zero, h2, h3, h4, h6, h8, h68, h69, h70, hil', ha, hgc, hgr, hgo, hgq, hr, hb, ht, hfu, hA, hB, ↓wd_R rd8_25_1, pend_ld rd8_25_1, ↓wd_R rd8_25_5, pend_ld rd8_25_5, ↓wd_R rd8_25_7, pend_ld rd8_25_7]
          refine ⟨k - 1, by omega, _, _, i + 1, v, rfl, by omega, by simp (disch := first | decide | omega | (simp only [next_push, next_set] <;> omega) | fail) only [↓SB, ↓SO, SM, ↓SD, ↓SL, ST, List.getElem?_cons_zero, List.getElem?_cons_succ, @if_true, @if_false, ↓reduceIte, reduceCtorEq, Bool.false_eq_true, beq_self_eq_true, repL, Nat.reduceMul, Nat.reduceLeDiff, Nat.zero_le, Nat.zero_mul, Nat.reduceAdd, Int.reduceEq, Int.reduceLT, Int.reduceLE, Nat.zero_add, Nat.add_zero, h2], by simp (disch := first | decide | omega | (simp only [next_push, next_set] <;> omega) | fail) only [↓SB, ↓SO, SM, ↓SD, ↓SL, ST, List.getElem?_cons_zero, List.getElem?_cons_succ, @if_true, @if_false, ↓reduceIte, reduceCtorEq, Bool.false_eq_true, beq_self_eq_true, repL, Nat.reduceMul, Nat.reduceLeDiff, Nat.zero_le, Nat.zero_mul, Nat.reduceAdd, Int.reduceEq, Int.reduceLT, Int.reduceLE, Nat.zero_add, Nat.add_zero, h3], by simp (disch := first | decide | omega | (simp only [next_push, next_set] <;> omega) | fail) only [↓SB, ↓SO, SM, ↓SD, ↓SL, ST, List.getElem?_cons_zero, List.getElem?_cons_succ, @if_true, @if_false, ↓reduceIte, reduceCtorEq, Bool.false_eq_true, beq_self_eq_true, repL, Nat.reduceMul, Nat.reduceLeDiff, Nat.zero_le, Nat.zero_mul, Nat.reduceAdd, Int.reduceEq, Int.reduceLT, Int.reduceLE, Nat.zero_add, Nat.add_zero, h4], by simp (disch := first | decide | omega | (simp only [next_push, next_set] <;> omega) | fail) only [↓SB, ↓SO, SM, ↓SD, ↓SL, ST, List.getElem?_cons_zero, List.getElem?_cons_succ, @if_true, @if_false, ↓reduceIte, reduceCtorEq, Bool.false_eq_true, beq_self_eq_true, repL, Nat.reduceMul, Nat.reduceLeDiff, Nat.zero_le, Nat.zero_mul, Nat.reduceAdd, Int.reduceEq, Int.reduceLT, Int.reduceLE, Nat.zero_add, Nat.add_zero, h6], by simp (disch := first | decide | omega | (simp only [next_push, next_set] <;> omega) | fail) only [↓SB, ↓SO, SM, ↓SD, ↓SL, ST, List.getElem?_cons_zero, List.getElem?_cons_succ, @if_true, @if_false, ↓reduceIte, reduceCtorEq, Bool.false_eq_true, beq_self_eq_true, repL, Nat.reduceMul, Nat.reduceLeDiff, Nat.zero_le, Nat.zero_mul, Nat.reduceAdd, Int.reduceEq, Int.reduceLT, Int.reduceLE, Nat.zero_add, Nat.add_zero, h8], by simp (disch := first | decide | omega | (simp only [next_push, next_set] <;> omega) | fail) only [↓SB, ↓SO, SM, ↓SD, ↓SL, ST, List.getElem?_cons_zero, List.getElem?_cons_succ, @if_true, @if_false, ↓reduceIte, reduceCtorEq, Bool.false_eq_true, beq_self_eq_true, repL, Nat.reduceMul, Nat.reduceLeDiff, Nat.zero_le, Nat.zero_mul, Nat.reduceAdd, Int.reduceEq, Int.reduceLT, Int.reduceLE, Nat.zero_add, Nat.add_zero, h68], by simp (disch := first | decide | omega | (simp only [next_push, next_set] <;> omega) | fail) only [↓SB, ↓SO, SM, ↓SD, ↓SL, ST, List.getElem?_cons_zero, List.getElem?_cons_succ, @if_true, @if_false, ↓reduceIte, reduceCtorEq, Bool.false_eq_true, beq_self_eq_true, repL, Nat.reduceMul, Nat.reduceLeDiff, Nat.zero_le, Nat.zero_mul, Nat.reduceAdd, Int.reduceEq, Int.reduceLT, Int.reduceLE, Nat.zero_add, Nat.add_zero, h69], by simp (disch := first | decide | omega | (simp only [next_push, next_set] <;> omega) | fail) only [↓SB, ↓SO, SM, ↓SD, ↓SL, ST, List.getElem?_cons_zero, List.getElem?_cons_succ, @if_true, @if_false, ↓reduceIte, reduceCtorEq, Bool.false_eq_true, beq_self_eq_true, repL, Nat.reduceMul, Nat.reduceLeDiff, Nat.zero_le, Nat.zero_mul, Nat.reduceAdd, Int.reduceEq, Int.reduceLT, Int.reduceLE, Nat.zero_add, Nat.add_zero, ]; rfl, ?_, ?_, ?_, ?_, ?_, ?_⟩
          · simp (disch := first | decide | omega | (simp only [next_push, next_set] <;> omega) | fail) only [↓SB, ↓SO, SM, ↓SD, ↓SL, ST, List.getElem?_cons_zero, List.getElem?_cons_succ, @if_true, @if_false, ↓reduceIte, reduceCtorEq, Bool.false_eq_true, beq_self_eq_true, repL, Nat.reduceMul, Nat.reduceLeDiff, Nat.zero_le, Nat.zero_mul, Nat.reduceAdd, Int.reduceEq, Int.reduceLT, Int.reduceLE, Nat.zero_add, Nat.add_zero, hgc]
          · simp (disch := first | decide | omega | (simp only [next_push, next_set] <;> omega) | fail) only [↓SB, ↓SO, SM, ↓SD, ↓SL, ST, List.getElem?_cons_zero, List.getElem?_cons_succ, @if_true, @if_false, ↓reduceIte, reduceCtorEq, Bool.false_eq_true, beq_self_eq_true, repL, Nat.reduceMul, Nat.reduceLeDiff, Nat.zero_le, Nat.zero_mul, Nat.reduceAdd, Int.reduceEq, Int.reduceLT, Int.reduceLE, Nat.zero_add, Nat.add_zero, hgr]
          · simp (disch := first | decide | omega | (simp only [next_push, next_set] <;> omega) | fail) only [↓SB, ↓SO, SM, ↓SD, ↓SL, ST, List.getElem?_cons_zero, List.getElem?_cons_succ, @if_true, @if_false, ↓reduceIte, reduceCtorEq, Bool.false_eq_true, beq_self_eq_true, repL, Nat.reduceMul, Nat.reduceLeDiff, Nat.zero_le, Nat.zero_mul, Nat.reduceAdd, Int.reduceEq, Int.reduceLT, Int.reduceLE, Nat.zero_add, Nat.add_zero, hgo]
          · rw [hkk]; exact hv.fr (by repeat (first | exact Fr.refl _ _ _ | refine Fr.push ?_ (by first | omega | (simp only [next_push, next_set] <;> omega)) (by first | omega | (simp only [next_push, next_set] <;> omega)) _ | refine Fr.set ?_ (.inl (by first | omega | (simp only [next_push, next_set] <;> omega))) (by first | omega | (simp only [next_push, next_set] <;> omega)) (by first | omega | (simp only [next_push, next_set] <;> omega)) _))
          · exact hfr.on hle (by repeat (first | exact Fr.refl _ _ _ | refine Fr.push ?_ (by first | omega | (simp only [next_push, next_set] <;> omega)) (by first | omega | (simp only [next_push, next_set] <;> omega)) _ | refine Fr.set ?_ (.inl (by first | omega | (simp only [next_push, next_set] <;> omega))) (by first | omega | (simp only [next_push, next_set] <;> omega)) (by first | omega | (simp only [next_push, next_set] <;> omega)) _))
          · simp only [next_push, next_set]; omega
  · have hil' : ¬ (i : Int) < (c.df.length : Int) := by omega
    simp (disch := first | decide | omega | (simp only [next_push, next_set] <;> omega) | fail) only [↓SB, ↓SO, SM, ↓SD, ↓SL, ST, List.getElem?_cons_zero, List.getElem?_cons_succ, @if_true, @if_false, ↓reduceIte, reduceCtorEq, Bool.false_eq_true, beq_self_eq_true, repL, Nat.reduceMul, Nat.reduceLeDiff, Nat.zero_le, Nat.zero_mul, Nat.reduceAdd, Int.reduceEq, Int.reduceLT, Int.reduceLE, Nat.zero_add, Nat.add_zero, h69, h70, hil']
    rw [List.take_of_length_le (by omega)] at hv
    exact h _ _ _ (by simp (disch := first | decide | omega | (simp only [next_push, next_set] <;> omega) | fail) only [↓SB, ↓SO, SM, ↓SD, ↓SL, ST, List.getElem?_cons_zero, List.getElem?_cons_succ, @if_true, @if_false, ↓reduceIte, reduceCtorEq, Bool.false_eq_true, beq_self_eq_true, repL, Nat.reduceMul, Nat.reduceLeDiff, Nat.zero_le, Nat.zero_mul, Nat.reduceAdd, Int.reduceEq, Int.reduceLT, Int.reduceLE, Nat.zero_add, Nat.add_zero, h2]) (by simp (disch := first | decide | omega | (simp only [next_push, next_set] <;> omega) | fail) only [↓SB, ↓SO, SM, ↓SD, ↓SL, ST, List.getElem?_cons_zero, List.getElem?_cons_succ, @if_true, @if_false, ↓reduceIte, reduceCtorEq, Bool.false_eq_true, beq_self_eq_true, repL, Nat.reduceMul, Nat.reduceLeDiff, Nat.zero_le, Nat.zero_mul, Nat.reduceAdd, Int.reduceEq, Int.reduceLT, Int.reduceLE, Nat.zero_add, Nat.add_zero, h3]) (by simp (disch := first | decide | omega | (simp only [next_push, next_set] <;> omega) | fail) only [↓SB, ↓SO, SM, ↓SD, ↓SL, ST, List.getElem?_cons_zero, List.getElem?_cons_succ, @if_true, @if_false, ↓reduceIte, reduceCtorEq, Bool.false_eq_true, beq_self_eq_true, repL, Nat.reduceMul, Nat.reduceLeDiff, Nat.zero_le, Nat.zero_mul, Nat.reduceAdd, Int.reduceEq, Int.reduceLT, Int.reduceLE, Nat.zero_add, Nat.add_zero, h4]) (by simp (disch := first | decide | omega | (simp only [next_push, next_set] <;> omega) | fail) only [↓SB, ↓SO, SM, ↓SD, ↓SL, ST, List.getElem?_cons_zero, List.getElem?_cons_succ, @if_true, @if_false, ↓reduceIte, reduceCtorEq, Bool.false_eq_true, beq_self_eq_true, repL, Nat.reduceMul, Nat.reduceLeDiff, Nat.zero_le, Nat.zero_mul, Nat.reduceAdd, Int.reduceEq, Int.reduceLT, Int.reduceLE, Nat.zero_add, Nat.add_zero, h6]) (by simp (disch := first | decide | omega | (simp only [next_push, next_set] <;> omega) | fail) only [↓SB, ↓SO, SM, ↓SD, ↓SL, ST, List.getElem?_cons_zero, List.getElem?_cons_succ, @if_true, @if_false, ↓reduceIte, reduceCtorEq, Bool.false_eq_true, beq_self_eq_true, repL, Nat.reduceMul, Nat.reduceLeDiff, Nat.zero_le, Nat.zero_mul, Nat.reduceAdd, Int.reduceEq, Int.reduceLT, Int.reduceLE, Nat.zero_add, Nat.add_zero, h8]) hgo hv hfr (by omega)

end
end Go.Proofs.YtbokoinmlbipmaaGreatDoor.Ev.Sy
