import Derived.Test.YtbokoinmlbipmaaGreatDoorSy2

-- Ws
namespace Go.Proofs.YtbokoinmlbipmaaGreatDoor.Ev.Sy
open Go Go.Proofs.YtbokoinmlbipmaaGreatDoor.Ev Go.Proofs
noncomputable section
set_option linter.unusedSimpArgs false
set_option linter.unusedVariables false
set_option linter.unusedSectionVars false
set_option maxHeartbeats 1000000
set_option maxRecDepth 100000

variable {T : Table} (hT : ∀ f, f ≠ 6 → (T.find f).val = []) {fuel : Nat} (hf : 1000 ≤ fuel)

/-- At most so many elements of each kind. -/
structure FewP (c : Scr) : Prop where
  sp : c.sp.length ≤ 8
  ov : c.ov.length ≤ 8
  df : c.df.length ≤ 8
  py : c.py.length ≤ 12
  fr : c.fr.length ≤ 8

def okS (c : Scr) (at_ m : Int) : Prop := momentB c.f = true ∧ momentB c.u = true ∧ c.f ≤ c.u ∧ c.f ≤ m ∧ m ≤ c.u + 1 ∧ momentB at_ = true

/-- What a rest is. -/
structure SufOf (c : Scr) (at_ m : Int) (c' : Scr) : Prop where
  f : c'.f = min m c.u
  u : c'.u = c.u
  sp : c'.sp = spL m c.u c.sp
  ov : c'.ov = ovL m c.u c.ov
  df : c'.df = dfL at_ m c.u c.df
  py : payRes c at_ m c'.py
  fr : c'.fr = c.fr

theorem is_mono {α : Type} [El α] {B : Nat} {x : Nat → Prop} {H H' : Heap} {v : AVal} {xs : List α} (h : Is H v xs) (k : Fr B x H H') (hb : ∀ j, idOf v = some j → j < B ∧ ¬ x j) : Is H' v xs := k.is h hb

theorem below_is {α : Type} [El α] {H : Heap} {v : AVal} {xs : List α} (h : Is H v xs) : ∀ N, H.next ≤ N → (Ev.belowF N v = true ↔ True) := fun N hN => ⟨fun _ => trivial, fun _ => belowF_mono hN h.sl h.belowF⟩

include hT hf in
theorem tail_run {n n0 : Nat} {H1 : Heap} {e : Env} {c : Scr} {at_ m : Int} {a b d pv g r0 r1 r2 r3 r5 : AVal} (hc : ScIs H1 a b d pv g c) (hid : ∀ v, v = a ∨ v = b ∨ v = d ∨ v = pv ∨ v = g → ∀ j, idOf v = some j → j < n0) (hfw : FewP c)
    (hm : -100000 ≤ m ∧ m ≤ 100000) (hu : -100000 ≤ c.u ∧ c.u ≤ 100000) (hnx : H1.next = n0 + 3) (hl : H1.next + 1500 ≤ 32768) (h2 : xt 3 2 e = i64 m) (h3 : xt 3 3 e = .ptr n0 0) (h4 : xt 3 4 e = .ptr (n0 + 1) 0) (h6 : xt 3 6 e = .ptr (n0 + 2) 0)
    (hgc : H1.get n0 = some (.cells 28 [i64 c.f, i64 c.u, a, b, d, pv, g] false 0 false)) (hgr : H1.get (n0 + 1) = some (.cells 33 [r0, r1, r2, r3, i64 at_, r5] false 0 false))
    (hgz : H1.get (n0 + 2) = some (.cells 28 [i64 0, i64 0, .nils, .nils, .nils, .nils, .nils] false 0 false)) (Q : AVal × Heap → Prop)
    (hq : ∀ H' c' a' b' d' pv' g', SufOf c at_ m c' → ScIs H' a' b' d' pv' g' c' → FewP c' → Fr n0 (fun _ => False) H1 H' → H'.next ≤ H1.next + 1000 → Q (.tup [scV c' a' b' d' pv' g', i64 0], H')) :
    Wp ((cSeq r8_3 (cSeq (cSeq r8_4 (cBlk 0 (cLoop fuel (cSeq r8_5 (cSeq (cIf (xt 3 71) cSkip (cExit 0)) (cSeq (cBlk 1 (cSeq r8_6 (cSeq r8_7 (cSeq r8_8 (cIf (xt 3 89) r8_9 cSkip))))) r8_10))))))
      (cSeq (cSeq r8_11 (cBlk 2 (cLoop fuel (cSeq r8_12 (cSeq (cIf (xt 3 101) cSkip (cExit 2)) (cSeq (cBlk 3 (cSeq r8_13 (cSeq r8_14 (cSeq r8_15 (cIf (xt 3 122) r8_16 cSkip))))) r8_17))))))
      (cSeq (cSeq r8_18 (cBlk 4 (cLoop fuel (cSeq r8_19 (cSeq (cIf (xt 3 134) cSkip (cExit 4)) (cSeq (cBlk 5 (cSeq r8_20 (cSeq (cBlk 6 (cSeq r8_21 (cIf (xt 3 137) r8_22 (cSeq r8_23 (cIf (xt 3 146) r8_24 cSkip))))) (cSeq r8_25 (cSeq r8_26 (cIf (xt 3 171) r8_27 cSkip)))))) r8_28))))))
      (cSeq r8_29 cRet))))).val (R T fuel (n + 7)) ⟨e, [], H1⟩) (Fin [rc P 28 (xt 3 6), rt (xt 3 7)] Q) := by
  have ba := below_is hc.sp
  have bb := below_is hc.ov
  have bd := below_is hc.df
  have bpv := below_is hc.py
  have bg := below_is hc.fr
  unfold r8_3 r8_4 r8_11 r8_18 r8_29
  simp (disch := first | decide | omega | (simp only [next_push, next_set] <;> omega) | fail) only [↓SB, ↓SO, SM, ↓SD, ↓SL, ST, List.getElem?_cons_zero, List.getElem?_cons_succ, @if_true, @if_false, ↓reduceIte, reduceCtorEq, Bool.false_eq_true, beq_self_eq_true, repL, Nat.reduceMul, Nat.reduceLeDiff, Nat.zero_le, Nat.zero_mul, Nat.reduceAdd, Int.reduceEq, Int.reduceLT, Int.reduceLE, Nat.zero_add, Nat.add_zero, h2, h3, h4, h6, hgc, hgr, ba, bb, bd, bpv, bg, ↓wd_R rd8_3_6, pend_ld rd8_3_6, ↓wd_R rd8_3_8, pend_ld rd8_3_8, ↓wd_R rd8_3_12, pend_ld rd8_3_12, ↓wd_R rd8_3_2, pend_ld rd8_3_2, ↓wd_R rd8_3_5, pend_ld rd8_3_5]
  refine payments_run hT hf hc.py hm hu hfw.py (by omega) _ ?_
  intro H2 w out hres hol hw hfr2 hn2
  have hle2 := hfr2.le
  have hgc2 := (hfr2.same' (j := n0) (by omega)).trans hgc
  have hgr2 := (hfr2.same' (j := n0 + 1) (by omega)).trans hgr
  have hgz2 := (hfr2.same' (j := n0 + 2) (by omega)).trans hgz
  have hg2 : Is H2 g c.fr := hfr2.is hc.fr fun j hj => ⟨hc.fr.lo j hj, fun x => x⟩
  have hw2 : Is H2 w out := Mine.is (α := Pay) hw
  have bw := below_is hw2
  have hsw := hw2.scalar
  simp (disch := first | decide | omega | (simp only [next_push, next_set] <;> omega) | fail) only [↓SB, ↓SO, SM, ↓SD, ↓SL, ST, List.getElem?_cons_zero, List.getElem?_cons_succ, @if_true, @if_false, ↓reduceIte, reduceCtorEq, Bool.false_eq_true, beq_self_eq_true, repL, Nat.reduceMul, Nat.reduceLeDiff, Nat.zero_le, Nat.zero_mul, Nat.reduceAdd, Int.reduceEq, Int.reduceLT, Int.reduceLE, Nat.zero_add, Nat.add_zero, h2, h3, h4, h6, hgc2, hgr2, hgc, ba, bb, bd, bpv, bg, ↓wd_R rd8_3_6, pend_ld rd8_3_6, ↓wd_R rd8_3_8, pend_ld rd8_3_8, ↓wd_R rd8_3_12, pend_ld rd8_3_12, ↓wd_R rd8_3_2, pend_ld rd8_3_2, ↓wd_R rd8_3_5, pend_ld rd8_3_5]
  refine clone_run hT hg2 (by have := hfw.fr; omega) (by omega) _ ?_
  intro H3 w2 hwc hidc hfr3 hn3
  have hle3 := hfr3.le
  have hgc3 := (hfr3.same' (j := n0) (by omega)).trans hgc2
  have hgr3 := (hfr3.same' (j := n0 + 1) (by omega)).trans hgr2
  have hgz3 := (hfr3.same' (j := n0 + 2) (by omega)).trans hgz2
  have bw2 := below_is hwc
  have hsw2 := hwc.scalar
  have l1 := hc.sp.length su22
  have l2 := hc.ov.length su23
  have l3 := hc.df.length su24
  simp (disch := first | decide | omega | (simp only [next_push, next_set] <;> omega) | fail) only [↓SB, ↓SO, SM, ↓SD, ↓SL, ST, List.getElem?_cons_zero, List.getElem?_cons_succ, @if_true, @if_false, ↓reduceIte, reduceCtorEq, Bool.false_eq_true, beq_self_eq_true, repL, Nat.reduceMul, Nat.reduceLeDiff, Nat.zero_le, Nat.zero_mul, Nat.reduceAdd, Int.reduceEq, Int.reduceLT, Int.reduceLE, Nat.zero_add, Nat.add_zero, h2, h3, h4, h6, hgc3, hgr3, hgc2, hgc, bw, bw2, hsw, hsw2, cells_scalar hsw, cells_scalar hsw2, l1, ↓wd_R rd8_3_6, pend_ld rd8_3_6, ↓wd_R rd8_3_8, pend_ld rd8_3_8, ↓wd_R rd8_3_12, pend_ld rd8_3_12, ↓wd_R rd8_3_2, pend_ld rd8_3_2, ↓wd_R rd8_3_5, pend_ld rd8_3_5]
  -- the heap behind region 3
  have hF4 : Fr H3.next (fun _ => False) H3 ((H3.push (.cells 28 [.int .i64 0, .int .i64 0, .nils, .nils, .nils, .nils, .nils] false 0 false)).set H3.next (.cells 28 [.int .i64 (min m c.u), .int .i64 c.u, .nils, .nils, .nils, w, w2] false 0 false)) := (by repeat (first | exact Fr.refl _ _ _ | refine Fr.push ?_ (by first | omega | (simp only [next_push, next_set] <;> omega)) (by first | omega | (simp only [next_push, next_set] <;> omega)) _ | refine Fr.set ?_ (.inl (by first | omega | (simp only [next_push, next_set] <;> omega))) (by first | omega | (simp only [next_push, next_set] <;> omega)) (by first | omega | (simp only [next_push, next_set] <;> omega)) _))
  have hro4 : ((H3.push (.cells 28 [.int .i64 0, .int .i64 0, .nils, .nils, .nils, .nils, .nils] false 0 false)).set H3.next (.cells 28 [.int .i64 (min m c.u), .int .i64 c.u, .nils, .nils, .nils, w, w2] false 0 false)).get H3.next = some (.cells 28 [.int .i64 (min m c.u), .int .i64 c.u, .nils, .nils, .nils, w, w2] false 0 false) := get_set_same _ _ _
  have hnx4 : ((H3.push (.cells 28 [.int .i64 0, .int .i64 0, .nils, .nils, .nils, .nils, .nils] false 0 false)).set H3.next (.cells 28 [.int .i64 (min m c.u), .int .i64 c.u, .nils, .nils, .nils, w, w2] false 0 false)).next = H3.next + 1 := by simp only [next_push, next_set]
  generalize ((H3.push (.cells 28 [.int .i64 0, .int .i64 0, .nils, .nils, .nils, .nils, .nils] false 0 false)).set H3.next (.cells 28 [.int .i64 (min m c.u), .int .i64 c.u, .nils, .nils, .nils, w, w2] false 0 false)) = H4 at hF4 hro4 hnx4 ⊢
  have hgc4 := (hF4.same' (j := n0) (by omega)).trans hgc3
  have hgr4 := (hF4.same' (j := n0 + 1) (by omega)).trans hgr3
  have hgz4 := (hF4.same' (j := n0 + 2) (by omega)).trans hgz3
  have hfr14 : Fr H1.next (fun _ => False) H1 H4 := (hfr2.on hle2 hfr3).on (by omega) hF4
  have hida := hid a (.inl rfl)
  have hidb := hid b (.inr (.inl rfl))
  have hidd := hid d (.inr (.inr (.inl rfl)))
  have hsp4 : Is H4 a c.sp := hfr14.is hc.sp fun j hj => ⟨hc.sp.lo j hj, fun x => x⟩
  have hov4 : Is H4 b c.ov := hfr14.is hc.ov fun j hj => ⟨hc.ov.lo j hj, fun x => x⟩
  have hdf4 : Is H4 d c.df := hfr14.is hc.df fun j hj => ⟨hc.df.lo j hj, fun x => x⟩
  refine la_run hf (n0 := n0) (ro := H3.next) (Hs := H4) (c := c) (m := m) (a := a) (b := b) (d := d) (pv := pv) (g := g) (k := c.sp.length) hsp4 (fun j hj => by have := hida j hj; omega) (by omega) (by omega) hfw.sp (by omega)
    ⟨_, _, 0, .nils, rfl, by omega, by simp (disch := first | decide | omega | (simp only [next_push, next_set] <;> omega) | fail) only [↓SB, ↓SO, SM, ↓SD, ↓SL, ST, List.getElem?_cons_zero, List.getElem?_cons_succ, @if_true, @if_false, ↓reduceIte, reduceCtorEq, Bool.false_eq_true, beq_self_eq_true, repL, Nat.reduceMul, Nat.reduceLeDiff, Nat.zero_le, Nat.zero_mul, Nat.reduceAdd, Int.reduceEq, Int.reduceLT, Int.reduceLE, Nat.zero_add, Nat.add_zero, h2], by simp (disch := first | decide | omega | (simp only [next_push, next_set] <;> omega) | fail) only [↓SB, ↓SO, SM, ↓SD, ↓SL, ST, List.getElem?_cons_zero, List.getElem?_cons_succ, @if_true, @if_false, ↓reduceIte, reduceCtorEq, Bool.false_eq_true, beq_self_eq_true, repL, Nat.reduceMul, Nat.reduceLeDiff, Nat.zero_le, Nat.zero_mul, Nat.reduceAdd, Int.reduceEq, Int.reduceLT, Int.reduceLE, Nat.zero_add, Nat.add_zero, h3], by simp (disch := first | decide | omega | (simp only [next_push, next_set] <;> omega) | fail) only [↓SB, ↓SO, SM, ↓SD, ↓SL, ST, List.getElem?_cons_zero, List.getElem?_cons_succ, @if_true, @if_false, ↓reduceIte, reduceCtorEq, Bool.false_eq_true, beq_self_eq_true, repL, Nat.reduceMul, Nat.reduceLeDiff, Nat.zero_le, Nat.zero_mul, Nat.reduceAdd, Int.reduceEq, Int.reduceLT, Int.reduceLE, Nat.zero_add, Nat.add_zero, h4], by simp (disch := first | decide | omega | (simp only [next_push, next_set] <;> omega) | fail) only [↓SB, ↓SO, SM, ↓SD, ↓SL, ST, List.getElem?_cons_zero, List.getElem?_cons_succ, @if_true, @if_false, ↓reduceIte, reduceCtorEq, Bool.false_eq_true, beq_self_eq_true, repL, Nat.reduceMul, Nat.reduceLeDiff, Nat.zero_le, Nat.zero_mul, Nat.reduceAdd, Int.reduceEq, Int.reduceLT, Int.reduceLE, Nat.zero_add, Nat.add_zero, h6], by simp (disch := first | decide | omega | (simp only [next_push, next_set] <;> omega) | fail) only [↓SB, ↓SO, SM, ↓SD, ↓SL, ST, List.getElem?_cons_zero, List.getElem?_cons_succ, @if_true, @if_false, ↓reduceIte, reduceCtorEq, Bool.false_eq_true, beq_self_eq_true, repL, Nat.reduceMul, Nat.reduceLeDiff, Nat.zero_le, Nat.zero_mul, Nat.reduceAdd, Int.reduceEq, Int.reduceLT, Int.reduceLE, Nat.zero_add, Nat.add_zero, ], by simp (disch := first | decide | omega | (simp only [next_push, next_set] <;> omega) | fail) only [↓SB, ↓SO, SM, ↓SD, ↓SL, ST, List.getElem?_cons_zero, List.getElem?_cons_succ, @if_true, @if_false, ↓reduceIte, reduceCtorEq, Bool.false_eq_true, beq_self_eq_true, repL, Nat.reduceMul, Nat.reduceLeDiff, Nat.zero_le, Nat.zero_mul, Nat.reduceAdd, Int.reduceEq, Int.reduceLT, Int.reduceLE, Nat.zero_add, Nat.add_zero, ], by simp (disch := first | decide | omega | (simp only [next_push, next_set] <;> omega) | fail) only [↓SB, ↓SO, SM, ↓SD, ↓SL, ST, List.getElem?_cons_zero, List.getElem?_cons_succ, @if_true, @if_false, ↓reduceIte, reduceCtorEq, Bool.false_eq_true, beq_self_eq_true, repL, Nat.reduceMul, Nat.reduceLeDiff, Nat.zero_le, Nat.zero_mul, Nat.reduceAdd, Int.reduceEq, Int.reduceLT, Int.reduceLE, Nat.zero_add, Nat.add_zero, ], by simp (disch := first | decide | omega | (simp only [next_push, next_set] <;> omega) | fail) only [↓SB, ↓SO, SM, ↓SD, ↓SL, ST, List.getElem?_cons_zero, List.getElem?_cons_succ, @if_true, @if_false, ↓reduceIte, reduceCtorEq, Bool.false_eq_true, beq_self_eq_true, repL, Nat.reduceMul, Nat.reduceLeDiff, Nat.zero_le, Nat.zero_mul, Nat.reduceAdd, Int.reduceEq, Int.reduceLT, Int.reduceLE, Nat.zero_add, Nat.add_zero, ]; rfl, hgc4, hro4, .inl ⟨rfl, by simp [flat]⟩, Fr.refl _ _ _, by omega⟩ (by have := hfw.sp; omega) ?_
  intro e5 H5 v5 k2 k3 k4 k6 k8 hro5 hv5 hfr5 hn5
  have hle5 := hfr5.le
  have hgc5 := (hfr5.same n0 (by omega) (by omega)).trans hgc4
  have hgr5 := (hfr5.same (n0 + 1) (by omega) (by omega)).trans hgr4
  have hgz5 := (hfr5.same (n0 + 2) (by omega) (by omega)).trans hgz4
  have hov5 : Is H5 b c.ov := hfr5.is hov4 fun j hj => ⟨hov4.lo j hj, by have := hidb j hj; omega⟩
  have hdf5 : Is H5 d c.df := hfr5.is hdf4 fun j hj => ⟨hdf4.lo j hj, by have := hidd j hj; omega⟩
  simp (disch := first | decide | omega | (simp only [next_push, next_set] <;> omega) | fail) only [↓SB, ↓SO, SM, ↓SD, ↓SL, ST, List.getElem?_cons_zero, List.getElem?_cons_succ, @if_true, @if_false, ↓reduceIte, reduceCtorEq, Bool.false_eq_true, beq_self_eq_true, repL, Nat.reduceMul, Nat.reduceLeDiff, Nat.zero_le, Nat.zero_mul, Nat.reduceAdd, Int.reduceEq, Int.reduceLT, Int.reduceLE, Nat.zero_add, Nat.add_zero, k2, k3, k4, k6, k8, hgc5, l2]
  refine lb_run hf (n0 := n0) (ro := H3.next) (Hs := H5) (c := c) (m := m) (a := b) (b := a) (d := d) (pv := pv) (g := g) (k := c.ov.length) hov5 (fun j hj => by have := hidb j hj; omega) (by omega) (by omega) hfw.ov (by omega)
    ⟨_, _, 0, .nils, rfl, by omega, by simp (disch := first | decide | omega | (simp only [next_push, next_set] <;> omega) | fail) only [↓SB, ↓SO, SM, ↓SD, ↓SL, ST, List.getElem?_cons_zero, List.getElem?_cons_succ, @if_true, @if_false, ↓reduceIte, reduceCtorEq, Bool.false_eq_true, beq_self_eq_true, repL, Nat.reduceMul, Nat.reduceLeDiff, Nat.zero_le, Nat.zero_mul, Nat.reduceAdd, Int.reduceEq, Int.reduceLT, Int.reduceLE, Nat.zero_add, Nat.add_zero, k2], by simp (disch := first | decide | omega | (simp only [next_push, next_set] <;> omega) | fail) only [↓SB, ↓SO, SM, ↓SD, ↓SL, ST, List.getElem?_cons_zero, List.getElem?_cons_succ, @if_true, @if_false, ↓reduceIte, reduceCtorEq, Bool.false_eq_true, beq_self_eq_true, repL, Nat.reduceMul, Nat.reduceLeDiff, Nat.zero_le, Nat.zero_mul, Nat.reduceAdd, Int.reduceEq, Int.reduceLT, Int.reduceLE, Nat.zero_add, Nat.add_zero, k3], by simp (disch := first | decide | omega | (simp only [next_push, next_set] <;> omega) | fail) only [↓SB, ↓SO, SM, ↓SD, ↓SL, ST, List.getElem?_cons_zero, List.getElem?_cons_succ, @if_true, @if_false, ↓reduceIte, reduceCtorEq, Bool.false_eq_true, beq_self_eq_true, repL, Nat.reduceMul, Nat.reduceLeDiff, Nat.zero_le, Nat.zero_mul, Nat.reduceAdd, Int.reduceEq, Int.reduceLT, Int.reduceLE, Nat.zero_add, Nat.add_zero, k4], by simp (disch := first | decide | omega | (simp only [next_push, next_set] <;> omega) | fail) only [↓SB, ↓SO, SM, ↓SD, ↓SL, ST, List.getElem?_cons_zero, List.getElem?_cons_succ, @if_true, @if_false, ↓reduceIte, reduceCtorEq, Bool.false_eq_true, beq_self_eq_true, repL, Nat.reduceMul, Nat.reduceLeDiff, Nat.zero_le, Nat.zero_mul, Nat.reduceAdd, Int.reduceEq, Int.reduceLT, Int.reduceLE, Nat.zero_add, Nat.add_zero, k6], by simp (disch := first | decide | omega | (simp only [next_push, next_set] <;> omega) | fail) only [↓SB, ↓SO, SM, ↓SD, ↓SL, ST, List.getElem?_cons_zero, List.getElem?_cons_succ, @if_true, @if_false, ↓reduceIte, reduceCtorEq, Bool.false_eq_true, beq_self_eq_true, repL, Nat.reduceMul, Nat.reduceLeDiff, Nat.zero_le, Nat.zero_mul, Nat.reduceAdd, Int.reduceEq, Int.reduceLT, Int.reduceLE, Nat.zero_add, Nat.add_zero, k8], by simp (disch := first | decide | omega | (simp only [next_push, next_set] <;> omega) | fail) only [↓SB, ↓SO, SM, ↓SD, ↓SL, ST, List.getElem?_cons_zero, List.getElem?_cons_succ, @if_true, @if_false, ↓reduceIte, reduceCtorEq, Bool.false_eq_true, beq_self_eq_true, repL, Nat.reduceMul, Nat.reduceLeDiff, Nat.zero_le, Nat.zero_mul, Nat.reduceAdd, Int.reduceEq, Int.reduceLT, Int.reduceLE, Nat.zero_add, Nat.add_zero, ], by simp (disch := first | decide | omega | (simp only [next_push, next_set] <;> omega) | fail) only [↓SB, ↓SO, SM, ↓SD, ↓SL, ST, List.getElem?_cons_zero, List.getElem?_cons_succ, @if_true, @if_false, ↓reduceIte, reduceCtorEq, Bool.false_eq_true, beq_self_eq_true, repL, Nat.reduceMul, Nat.reduceLeDiff, Nat.zero_le, Nat.zero_mul, Nat.reduceAdd, Int.reduceEq, Int.reduceLT, Int.reduceLE, Nat.zero_add, Nat.add_zero, ], by simp (disch := first | decide | omega | (simp only [next_push, next_set] <;> omega) | fail) only [↓SB, ↓SO, SM, ↓SD, ↓SL, ST, List.getElem?_cons_zero, List.getElem?_cons_succ, @if_true, @if_false, ↓reduceIte, reduceCtorEq, Bool.false_eq_true, beq_self_eq_true, repL, Nat.reduceMul, Nat.reduceLeDiff, Nat.zero_le, Nat.zero_mul, Nat.reduceAdd, Int.reduceEq, Int.reduceLT, Int.reduceLE, Nat.zero_add, Nat.add_zero, ]; rfl, hgc5, hro5, .inl ⟨rfl, by simp [flat]⟩, Fr.refl _ _ _, by omega⟩ (by have := hfw.ov; omega) ?_
  intro e6 H6 v6 m2 m3 m4 m6 m8 hro6 hv6 hfr6 hn6
  have hle6 := hfr6.le
  have hgc6 := (hfr6.same n0 (by omega) (by omega)).trans hgc5
  have hgr6 := (hfr6.same (n0 + 1) (by omega) (by omega)).trans hgr5
  have hgz6 := (hfr6.same (n0 + 2) (by omega) (by omega)).trans hgz5
  have hdf6 : Is H6 d c.df := hfr6.is hdf5 fun j hj => ⟨hdf5.lo j hj, by have := hidd j hj; omega⟩
  simp (disch := first | decide | omega | (simp only [next_push, next_set] <;> omega) | fail) only [↓SB, ↓SO, SM, ↓SD, ↓SL, ST, List.getElem?_cons_zero, List.getElem?_cons_succ, @if_true, @if_false, ↓reduceIte, reduceCtorEq, Bool.false_eq_true, beq_self_eq_true, repL, Nat.reduceMul, Nat.reduceLeDiff, Nat.zero_le, Nat.zero_mul, Nat.reduceAdd, Int.reduceEq, Int.reduceLT, Int.reduceLE, Nat.zero_add, Nat.add_zero, m2, m3, m4, m6, m8, hgc6, l3]
  refine lc_run hf (n0 := n0) (ro := H3.next) (Hs := H6) (c := c) (at_ := at_) (m := m) (a := d) (b := a) (d := b) (pv := pv) (g := g) (k := c.df.length) hdf6 (fun j hj => by have := hidd j hj; omega) (by omega) (by omega) hfw.df (by omega)
    ⟨_, _, 0, .nils, rfl, by omega, by simp (disch := first | decide | omega | (simp only [next_push, next_set] <;> omega) | fail) only [↓SB, ↓SO, SM, ↓SD, ↓SL, ST, List.getElem?_cons_zero, List.getElem?_cons_succ, @if_true, @if_false, ↓reduceIte, reduceCtorEq, Bool.false_eq_true, beq_self_eq_true, repL, Nat.reduceMul, Nat.reduceLeDiff, Nat.zero_le, Nat.zero_mul, Nat.reduceAdd, Int.reduceEq, Int.reduceLT, Int.reduceLE, Nat.zero_add, Nat.add_zero, m2], by simp (disch := first | decide | omega | (simp only [next_push, next_set] <;> omega) | fail) only [↓SB, ↓SO, SM, ↓SD, ↓SL, ST, List.getElem?_cons_zero, List.getElem?_cons_succ, @if_true, @if_false, ↓reduceIte, reduceCtorEq, Bool.false_eq_true, beq_self_eq_true, repL, Nat.reduceMul, Nat.reduceLeDiff, Nat.zero_le, Nat.zero_mul, Nat.reduceAdd, Int.reduceEq, Int.reduceLT, Int.reduceLE, Nat.zero_add, Nat.add_zero, m3], by simp (disch := first | decide | omega | (simp only [next_push, next_set] <;> omega) | fail) only [↓SB, ↓SO, SM, ↓SD, ↓SL, ST, List.getElem?_cons_zero, List.getElem?_cons_succ, @if_true, @if_false, ↓reduceIte, reduceCtorEq, Bool.false_eq_true, beq_self_eq_true, repL, Nat.reduceMul, Nat.reduceLeDiff, Nat.zero_le, Nat.zero_mul, Nat.reduceAdd, Int.reduceEq, Int.reduceLT, Int.reduceLE, Nat.zero_add, Nat.add_zero, m4], by simp (disch := first | decide | omega | (simp only [next_push, next_set] <;> omega) | fail) only [↓SB, ↓SO, SM, ↓SD, ↓SL, ST, List.getElem?_cons_zero, List.getElem?_cons_succ, @if_true, @if_false, ↓reduceIte, reduceCtorEq, Bool.false_eq_true, beq_self_eq_true, repL, Nat.reduceMul, Nat.reduceLeDiff, Nat.zero_le, Nat.zero_mul, Nat.reduceAdd, Int.reduceEq, Int.reduceLT, Int.reduceLE, Nat.zero_add, Nat.add_zero, m6], by simp (disch := first | decide | omega | (simp only [next_push, next_set] <;> omega) | fail) only [↓SB, ↓SO, SM, ↓SD, ↓SL, ST, List.getElem?_cons_zero, List.getElem?_cons_succ, @if_true, @if_false, ↓reduceIte, reduceCtorEq, Bool.false_eq_true, beq_self_eq_true, repL, Nat.reduceMul, Nat.reduceLeDiff, Nat.zero_le, Nat.zero_mul, Nat.reduceAdd, Int.reduceEq, Int.reduceLT, Int.reduceLE, Nat.zero_add, Nat.add_zero, m8], by simp (disch := first | decide | omega | (simp only [next_push, next_set] <;> omega) | fail) only [↓SB, ↓SO, SM, ↓SD, ↓SL, ST, List.getElem?_cons_zero, List.getElem?_cons_succ, @if_true, @if_false, ↓reduceIte, reduceCtorEq, Bool.false_eq_true, beq_self_eq_true, repL, Nat.reduceMul, Nat.reduceLeDiff, Nat.zero_le, Nat.zero_mul, Nat.reduceAdd, Int.reduceEq, Int.reduceLT, Int.reduceLE, Nat.zero_add, Nat.add_zero, ], by simp (disch := first | decide | omega | (simp only [next_push, next_set] <;> omega) | fail) only [↓SB, ↓SO, SM, ↓SD, ↓SL, ST, List.getElem?_cons_zero, List.getElem?_cons_succ, @if_true, @if_false, ↓reduceIte, reduceCtorEq, Bool.false_eq_true, beq_self_eq_true, repL, Nat.reduceMul, Nat.reduceLeDiff, Nat.zero_le, Nat.zero_mul, Nat.reduceAdd, Int.reduceEq, Int.reduceLT, Int.reduceLE, Nat.zero_add, Nat.add_zero, ], by simp (disch := first | decide | omega | (simp only [next_push, next_set] <;> omega) | fail) only [↓SB, ↓SO, SM, ↓SD, ↓SL, ST, List.getElem?_cons_zero, List.getElem?_cons_succ, @if_true, @if_false, ↓reduceIte, reduceCtorEq, Bool.false_eq_true, beq_self_eq_true, repL, Nat.reduceMul, Nat.reduceLeDiff, Nat.zero_le, Nat.zero_mul, Nat.reduceAdd, Int.reduceEq, Int.reduceLT, Int.reduceLE, Nat.zero_add, Nat.add_zero, ]; rfl, hgc6, hgr6, hro6, .inl ⟨rfl, by simp [flat]⟩, Fr.refl _ _ _, by omega⟩ (by have := hfw.df; omega) ?_
  intro e7 H7 v7 p2 p3 p4 p6 p8 hro7 hv7 hfr7 hn7
  have hle7 := hfr7.le
  have hgz7 := (hfr7.same (n0 + 2) (by omega) (by omega)).trans hgz6
  have s5 := (Mine.is (α := Spl) hv5).scalar
  have s6 := (Mine.is (α := Ovr) hv6).scalar
  have s7 := (Mine.is (α := Dfc) hv7).scalar
  simp (disch := first | decide | omega | (simp only [next_push, next_set] <;> omega) | fail) only [↓SB, ↓SO, SM, ↓SD, ↓SL, ST, List.getElem?_cons_zero, List.getElem?_cons_succ, @if_true, @if_false, ↓reduceIte, reduceCtorEq, Bool.false_eq_true, beq_self_eq_true, repL, Nat.reduceMul, Nat.reduceLeDiff, Nat.zero_le, Nat.zero_mul, Nat.reduceAdd, Int.reduceEq, Int.reduceLT, Int.reduceLE, Nat.zero_add, Nat.add_zero, p2, p3, p4, p6, p8, hro7, hgz7, hsw, hsw2, s5, s6, s7]
  have hset : ∀ row, Fr H7.next (fun j => j = n0 + 2) H7 (H7.set (n0 + 2) row) := fun row => (Fr.refl H7.next (fun j => j = n0 + 2) H7).set (.inr rfl) (by omega) (by omega) row
  have i5 : ∀ {j}, idOf v5 = some j → H4.next ≤ j ∧ j < H5.next := fun hj => hv5.id hj
  have i6 : ∀ {j}, idOf v6 = some j → H5.next ≤ j ∧ j < H6.next := fun hj => hv6.id hj
  have i7 : ∀ {j}, idOf v7 = some j → H6.next ≤ j ∧ j < H7.next := fun hj => hv7.id hj
  have iw : ∀ {j}, idOf w = some j → H1.next ≤ j ∧ j < H2.next := fun hj => hw.id hj
  have is5 := hfr7.is (hfr6.is (Mine.is (α := Spl) hv5) fun j hj => ⟨(i5 hj).2, by have := i5 hj; omega⟩) fun j hj => ⟨by have := i5 hj; omega, by have := i5 hj; omega⟩
  have is6 := hfr7.is (Mine.is (α := Ovr) hv6) fun j hj => ⟨(i6 hj).2, by have := i6 hj; omega⟩
  have is7 := Mine.is (α := Dfc) hv7
  have isw := hfr7.is (hfr6.is (hfr5.is (hF4.is (hfr3.is hw2 fun j hj => ⟨(iw hj).2, fun x => x⟩) fun j hj => ⟨by have := iw hj; omega, fun x => x⟩) fun j hj => ⟨by have := iw hj; omega, by have := iw hj; omega⟩) fun j hj => ⟨by have := iw hj; omega, by have := iw hj; omega⟩)
    fun j hj => ⟨by have := iw hj; omega, by have := iw hj; omega⟩
  have isc := hfr7.is (hfr6.is (hfr5.is (hF4.is hwc fun j hj => ⟨hwc.lo j hj, fun x => x⟩) fun j hj => ⟨by have := hwc.lo j hj; omega, by have := hwc.lo j hj; omega⟩) fun j hj => ⟨by have := hwc.lo j hj; omega, by have := hwc.lo j hj; omega⟩)
    fun j hj => ⟨by have := hwc.lo j hj; omega, by have := hwc.lo j hj; omega⟩
  have hfrn : Fr n0 (fun _ => False) H1 H7 := (((hfr14.weak (by omega) fun _ _ x => x).trans (hfr5.weak (by omega) fun j hj hx => by omega)).trans (hfr6.weak (by omega) fun j hj hx => by omega)).trans (hfr7.weak (by omega) fun j hj hx => by omega)
  refine hq _ ⟨min m c.u, c.u, spL m c.u c.sp, ovL m c.u c.ov, dfL at_ m c.u c.df, out, c.fr⟩ v5 v6 v7 w w2 ⟨rfl, rfl, rfl, rfl, rfl, hres, rfl⟩ ⟨?_, ?_, ?_, ?_, ?_⟩ ⟨?_, ?_, ?_, hol, hfw.fr⟩ (hfrn.set (.inl (by omega)) (by omega) (by omega) _) (by rw [next_set]; omega)
  · exact (hset _).is is5 fun j hj => ⟨by have := i5 hj; omega, by have := i5 hj; omega⟩
  · exact (hset _).is is6 fun j hj => ⟨by have := i6 hj; omega, by have := i6 hj; omega⟩
  · exact (hset _).is is7 fun j hj => ⟨by have := i7 hj; omega, by have := i7 hj; omega⟩
  · exact (hset _).is isw fun j hj => ⟨by have := iw hj; omega, by have := iw hj; omega⟩
  · exact (hset _).is isc fun j hj => ⟨by have := hwc.lo j hj; omega, by have := hidc j hj; omega⟩
  · have h1 := List.length_filter_le (fun s : Spl => decide (s.f ≤ s.u)) (c.sp.map (spF m c.u))
    rw [List.length_map] at h1
    exact Nat.le_trans h1 hfw.sp
  · have h1 := List.length_filter_le (fun s : Ovr => decide (s.f ≤ s.u)) (c.ov.map (ovF m c.u))
    rw [List.length_map] at h1
    exact Nat.le_trans h1 hfw.ov
  · have h1 := List.length_filter_le (fun s : Dfc => decide (s.f ≤ s.u)) (c.df.map (dfF at_ m c.u))
    rw [List.length_map] at h1
    exact Nat.le_trans h1 hfw.df

include hT hf in
theorem suffix_run {n : Nat} {H : Heap} {c : Scr} {at_ m : Int} {a b d pv g r0 r1 r2 r3 r5 : AVal} (hc : ScIs H a b d pv g c) (hfw : FewP c) (hl : H.next + 2000 ≤ 32768) (Q : AVal × Heap → Prop)
    (herr : ¬ okS c at_ m → ∀ H', Fr H.next (fun _ => False) H H' → H'.next ≤ H.next + 3 → Q (.tup [scV ⟨0, 0, [], [], [], [], []⟩ .nils .nils .nils .nils .nils, i64 1], H'))
    (hq : okS c at_ m → ∀ H' c' a' b' d' pv' g', SufOf c at_ m c' → ScIs H' a' b' d' pv' g' c' → FewP c' → Fr H.next (fun _ => False) H H' → H'.next ≤ H.next + 1003 → Q (.tup [scV c' a' b' d' pv' g', i64 0], H')) :
    Wp ((R T fuel (n + 8)).func 8 [scV c a b d pv g, .agg [r0, r1, r2, r3, i64 at_, r5], i64 m] H) Q := by
  refine call_eq hT (by decide) (fn8 fuel) _ _ (wp_fBody (Nat.le_of_ble_eq_true rfl) ?_)
  have e14 : ∀ x H, (R T fuel (n + 7)).func 14 [i64 x] H = some (.bool (momentB x), H) := fun x H => by
    obtain ⟨q, h1, h2⟩ := moment_run hT (n := n + 6) x H (· = (.bool (momentB x), H)) rfl
    rw [h1, h2]
  have hmb : ∀ x, momentB x = true → 0 ≤ x ∧ x ≤ 38399 := fun x h => by simpa [momentB] using h
  unfold c8 r8_0 r8_1 r8_2
  by_cases h1 : momentB c.f = true
  · by_cases h2 : momentB c.u = true
    · have hu := hmb _ h2
      have hfb := hmb _ h1
      by_cases h3 : c.f ≤ c.u
      · have h3' : ¬ c.u < c.f := by omega
        by_cases h4 : c.f ≤ m
        · have h4' : ¬ m < c.f := by omega
          by_cases h5 : m ≤ c.u + 1
          · have h5' : ¬ c.u + 1 < m := by omega
            by_cases h6 : momentB at_ = true
            · simp (disch := first | decide | omega | (simp only [next_push, next_set] <;> omega) | fail) only [↓SB, ↓SO, SM, ↓SD, ↓SL, ST, List.getElem?_cons_zero, List.getElem?_cons_succ, @if_true, @if_false, ↓reduceIte, reduceCtorEq, Bool.false_eq_true, beq_self_eq_true, repL, Nat.reduceMul, Nat.reduceLeDiff, Nat.zero_le, Nat.zero_mul, Nat.reduceAdd, Int.reduceEq, Int.reduceLT, Int.reduceLE, Nat.zero_add, Nat.add_zero, e14, h1, h2, h3', h4', h5', h6, Bool.not_true, Bool.not_false]
              refine wp_seq.1 (tail_run hT hf (n := n) (n0 := H.next) (c := c) (at_ := at_) (m := m) (a := a) (b := b) (d := d) (pv := pv) (g := g) (r0 := r0) (r1 := r1) (r2 := r2) (r3 := r3) (r5 := r5) ⟨?_, ?_, ?_, ?_, ?_⟩ ?_ hfw (by omega) (by omega) ?_ ?_ ?_ ?_ ?_ ?_ ?_ ?_ ?_ _ ?_)
              · exact (show Fr H.next (fun _ => False) H _ from (by repeat (first | exact Fr.refl _ _ _ | refine Fr.push ?_ (by first | omega | (simp only [next_push, next_set] <;> omega)) (by first | omega | (simp only [next_push, next_set] <;> omega)) _ | refine Fr.set ?_ (.inl (by first | omega | (simp only [next_push, next_set] <;> omega))) (by first | omega | (simp only [next_push, next_set] <;> omega)) (by first | omega | (simp only [next_push, next_set] <;> omega)) _))).is hc.sp fun j hj => ⟨hc.sp.lo j hj, fun x => x⟩
              · exact (show Fr H.next (fun _ => False) H _ from (by repeat (first | exact Fr.refl _ _ _ | refine Fr.push ?_ (by first | omega | (simp only [next_push, next_set] <;> omega)) (by first | omega | (simp only [next_push, next_set] <;> omega)) _ | refine Fr.set ?_ (.inl (by first | omega | (simp only [next_push, next_set] <;> omega))) (by first | omega | (simp only [next_push, next_set] <;> omega)) (by first | omega | (simp only [next_push, next_set] <;> omega)) _))).is hc.ov fun j hj => ⟨hc.ov.lo j hj, fun x => x⟩
              · exact (show Fr H.next (fun _ => False) H _ from (by repeat (first | exact Fr.refl _ _ _ | refine Fr.push ?_ (by first | omega | (simp only [next_push, next_set] <;> omega)) (by first | omega | (simp only [next_push, next_set] <;> omega)) _ | refine Fr.set ?_ (.inl (by first | omega | (simp only [next_push, next_set] <;> omega))) (by first | omega | (simp only [next_push, next_set] <;> omega)) (by first | omega | (simp only [next_push, next_set] <;> omega)) _))).is hc.df fun j hj => ⟨hc.df.lo j hj, fun x => x⟩
              · exact (show Fr H.next (fun _ => False) H _ from (by repeat (first | exact Fr.refl _ _ _ | refine Fr.push ?_ (by first | omega | (simp only [next_push, next_set] <;> omega)) (by first | omega | (simp only [next_push, next_set] <;> omega)) _ | refine Fr.set ?_ (.inl (by first | omega | (simp only [next_push, next_set] <;> omega))) (by first | omega | (simp only [next_push, next_set] <;> omega)) (by first | omega | (simp only [next_push, next_set] <;> omega)) _))).is hc.py fun j hj => ⟨hc.py.lo j hj, fun x => x⟩
              · exact (show Fr H.next (fun _ => False) H _ from (by repeat (first | exact Fr.refl _ _ _ | refine Fr.push ?_ (by first | omega | (simp only [next_push, next_set] <;> omega)) (by first | omega | (simp only [next_push, next_set] <;> omega)) _ | refine Fr.set ?_ (.inl (by first | omega | (simp only [next_push, next_set] <;> omega))) (by first | omega | (simp only [next_push, next_set] <;> omega)) (by first | omega | (simp only [next_push, next_set] <;> omega)) _))).is hc.fr fun j hj => ⟨hc.fr.lo j hj, fun x => x⟩
              · rintro v (rfl | rfl | rfl | rfl | rfl) j hj
                · exact hc.sp.lo j hj
                · exact hc.ov.lo j hj
                · exact hc.df.lo j hj
                · exact hc.py.lo j hj
                · exact hc.fr.lo j hj
              · simp only [next_push]
              · simp only [next_push]; omega
              · simp (disch := first | decide | omega | (simp only [next_push, next_set] <;> omega) | fail) only [↓SB, ↓SO, SM, ↓SD, ↓SL, ST, List.getElem?_cons_zero, List.getElem?_cons_succ, @if_true, @if_false, ↓reduceIte, reduceCtorEq, Bool.false_eq_true, beq_self_eq_true, repL, Nat.reduceMul, Nat.reduceLeDiff, Nat.zero_le, Nat.zero_mul, Nat.reduceAdd, Int.reduceEq, Int.reduceLT, Int.reduceLE, Nat.zero_add, Nat.add_zero, ]
              · simp (disch := first | decide | omega | (simp only [next_push, next_set] <;> omega) | fail) only [↓SB, ↓SO, SM, ↓SD, ↓SL, ST, List.getElem?_cons_zero, List.getElem?_cons_succ, @if_true, @if_false, ↓reduceIte, reduceCtorEq, Bool.false_eq_true, beq_self_eq_true, repL, Nat.reduceMul, Nat.reduceLeDiff, Nat.zero_le, Nat.zero_mul, Nat.reduceAdd, Int.reduceEq, Int.reduceLT, Int.reduceLE, Nat.zero_add, Nat.add_zero, ]
              · simp (disch := first | decide | omega | (simp only [next_push, next_set] <;> omega) | fail) only [↓SB, ↓SO, SM, ↓SD, ↓SL, ST, List.getElem?_cons_zero, List.getElem?_cons_succ, @if_true, @if_false, ↓reduceIte, reduceCtorEq, Bool.false_eq_true, beq_self_eq_true, repL, Nat.reduceMul, Nat.reduceLeDiff, Nat.zero_le, Nat.zero_mul, Nat.reduceAdd, Int.reduceEq, Int.reduceLT, Int.reduceLE, Nat.zero_add, Nat.add_zero, ]
              · simp (disch := first | decide | omega | (simp only [next_push, next_set] <;> omega) | fail) only [↓SB, ↓SO, SM, ↓SD, ↓SL, ST, List.getElem?_cons_zero, List.getElem?_cons_succ, @if_true, @if_false, ↓reduceIte, reduceCtorEq, Bool.false_eq_true, beq_self_eq_true, repL, Nat.reduceMul, Nat.reduceLeDiff, Nat.zero_le, Nat.zero_mul, Nat.reduceAdd, Int.reduceEq, Int.reduceLT, Int.reduceLE, Nat.zero_add, Nat.add_zero, ]
              · simp (disch := first | decide | omega | (simp only [next_push, next_set] <;> omega) | fail) only [↓SB, ↓SO, SM, ↓SD, ↓SL, ST, List.getElem?_cons_zero, List.getElem?_cons_succ, @if_true, @if_false, ↓reduceIte, reduceCtorEq, Bool.false_eq_true, beq_self_eq_true, repL, Nat.reduceMul, Nat.reduceLeDiff, Nat.zero_le, Nat.zero_mul, Nat.reduceAdd, Int.reduceEq, Int.reduceLT, Int.reduceLE, Nat.zero_add, Nat.add_zero, ]
              · simp (disch := first | decide | omega | (simp only [next_push, next_set] <;> omega) | fail) only [↓SB, ↓SO, SM, ↓SD, ↓SL, ST, List.getElem?_cons_zero, List.getElem?_cons_succ, @if_true, @if_false, ↓reduceIte, reduceCtorEq, Bool.false_eq_true, beq_self_eq_true, repL, Nat.reduceMul, Nat.reduceLeDiff, Nat.zero_le, Nat.zero_mul, Nat.reduceAdd, Int.reduceEq, Int.reduceLT, Int.reduceLE, Nat.zero_add, Nat.add_zero, ]
              · simp (disch := first | decide | omega | (simp only [next_push, next_set] <;> omega) | fail) only [↓SB, ↓SO, SM, ↓SD, ↓SL, ST, List.getElem?_cons_zero, List.getElem?_cons_succ, @if_true, @if_false, ↓reduceIte, reduceCtorEq, Bool.false_eq_true, beq_self_eq_true, repL, Nat.reduceMul, Nat.reduceLeDiff, Nat.zero_le, Nat.zero_mul, Nat.reduceAdd, Int.reduceEq, Int.reduceLT, Int.reduceLE, Nat.zero_add, Nat.add_zero, ]
              · intro H' c' a' b' d' pv' g' k1 k2 k3 k4 k5
                simp only [next_push] at k5
                exact hq ⟨h1, h2, h3, h4, h5, h6⟩ H' c' a' b' d' pv' g' k1 k2 k3 ((show Fr H.next (fun _ => False) H _ from (by repeat (first | exact Fr.refl _ _ _ | refine Fr.push ?_ (by first | omega | (simp only [next_push, next_set] <;> omega)) (by first | omega | (simp only [next_push, next_set] <;> omega)) _ | refine Fr.set ?_ (.inl (by first | omega | (simp only [next_push, next_set] <;> omega))) (by first | omega | (simp only [next_push, next_set] <;> omega)) (by first | omega | (simp only [next_push, next_set] <;> omega)) _))).trans k4) (by omega)
            · rw [Bool.not_eq_true] at h6
              simp (disch := first | decide | omega | (simp only [next_push, next_set] <;> omega) | fail) only [↓SB, ↓SO, SM, ↓SD, ↓SL, ST, List.getElem?_cons_zero, List.getElem?_cons_succ, @if_true, @if_false, ↓reduceIte, reduceCtorEq, Bool.false_eq_true, beq_self_eq_true, repL, Nat.reduceMul, Nat.reduceLeDiff, Nat.zero_le, Nat.zero_mul, Nat.reduceAdd, Int.reduceEq, Int.reduceLT, Int.reduceLE, Nat.zero_add, Nat.add_zero, e14, h1, h2, h3', h4', h5', h6, Bool.not_true, Bool.not_false]
              exact herr (fun x => by have := x.2.2.2.2.2; rw [h6] at this; cases this) _ (by repeat (first | exact Fr.refl _ _ _ | refine Fr.push ?_ (by first | omega | (simp only [next_push, next_set] <;> omega)) (by first | omega | (simp only [next_push, next_set] <;> omega)) _ | refine Fr.set ?_ (.inl (by first | omega | (simp only [next_push, next_set] <;> omega))) (by first | omega | (simp only [next_push, next_set] <;> omega)) (by first | omega | (simp only [next_push, next_set] <;> omega)) _)) (by simp only [next_push, next_set]; omega)
          · have h5' : c.u + 1 < m := by omega
            simp (disch := first | decide | omega | (simp only [next_push, next_set] <;> omega) | fail) only [↓SB, ↓SO, SM, ↓SD, ↓SL, ST, List.getElem?_cons_zero, List.getElem?_cons_succ, @if_true, @if_false, ↓reduceIte, reduceCtorEq, Bool.false_eq_true, beq_self_eq_true, repL, Nat.reduceMul, Nat.reduceLeDiff, Nat.zero_le, Nat.zero_mul, Nat.reduceAdd, Int.reduceEq, Int.reduceLT, Int.reduceLE, Nat.zero_add, Nat.add_zero, e14, h1, h2, h3', h4', h5', Bool.not_true, Bool.not_false]
            exact herr (fun x => h5 x.2.2.2.2.1) _ (by repeat (first | exact Fr.refl _ _ _ | refine Fr.push ?_ (by first | omega | (simp only [next_push, next_set] <;> omega)) (by first | omega | (simp only [next_push, next_set] <;> omega)) _ | refine Fr.set ?_ (.inl (by first | omega | (simp only [next_push, next_set] <;> omega))) (by first | omega | (simp only [next_push, next_set] <;> omega)) (by first | omega | (simp only [next_push, next_set] <;> omega)) _)) (by simp only [next_push, next_set]; omega)
        · have h4' : m < c.f := by omega
          simp (disch := first | decide | omega | (simp only [next_push, next_set] <;> omega) | fail) only [↓SB, ↓SO, SM, ↓SD, ↓SL, ST, List.getElem?_cons_zero, List.getElem?_cons_succ, @if_true, @if_false, ↓reduceIte, reduceCtorEq, Bool.false_eq_true, beq_self_eq_true, repL, Nat.reduceMul, Nat.reduceLeDiff, Nat.zero_le, Nat.zero_mul, Nat.reduceAdd, Int.reduceEq, Int.reduceLT, Int.reduceLE, Nat.zero_add, Nat.add_zero, e14, h1, h2, h3', h4', Bool.not_true, Bool.not_false]
          exact herr (fun x => h4 x.2.2.2.1) _ (by repeat (first | exact Fr.refl _ _ _ | refine Fr.push ?_ (by first | omega | (simp only [next_push, next_set] <;> omega)) (by first | omega | (simp only [next_push, next_set] <;> omega)) _ | refine Fr.set ?_ (.inl (by first | omega | (simp only [next_push, next_set] <;> omega))) (by first | omega | (simp only [next_push, next_set] <;> omega)) (by first | omega | (simp only [next_push, next_set] <;> omega)) _)) (by simp only [next_push, next_set]; omega)
      · have h3' : c.u < c.f := by omega
        simp (disch := first | decide | omega | (simp only [next_push, next_set] <;> omega) | fail) only [↓SB, ↓SO, SM, ↓SD, ↓SL, ST, List.getElem?_cons_zero, List.getElem?_cons_succ, @if_true, @if_false, ↓reduceIte, reduceCtorEq, Bool.false_eq_true, beq_self_eq_true, repL, Nat.reduceMul, Nat.reduceLeDiff, Nat.zero_le, Nat.zero_mul, Nat.reduceAdd, Int.reduceEq, Int.reduceLT, Int.reduceLE, Nat.zero_add, Nat.add_zero, e14, h1, h2, h3', Bool.not_true, Bool.not_false]
        exact herr (fun x => h3 x.2.2.1) _ (by repeat (first | exact Fr.refl _ _ _ | refine Fr.push ?_ (by first | omega | (simp only [next_push, next_set] <;> omega)) (by first | omega | (simp only [next_push, next_set] <;> omega)) _ | refine Fr.set ?_ (.inl (by first | omega | (simp only [next_push, next_set] <;> omega))) (by first | omega | (simp only [next_push, next_set] <;> omega)) (by first | omega | (simp only [next_push, next_set] <;> omega)) _)) (by simp only [next_push, next_set]; omega)
    · rw [Bool.not_eq_true] at h2
      simp (disch := first | decide | omega | (simp only [next_push, next_set] <;> omega) | fail) only [↓SB, ↓SO, SM, ↓SD, ↓SL, ST, List.getElem?_cons_zero, List.getElem?_cons_succ, @if_true, @if_false, ↓reduceIte, reduceCtorEq, Bool.false_eq_true, beq_self_eq_true, repL, Nat.reduceMul, Nat.reduceLeDiff, Nat.zero_le, Nat.zero_mul, Nat.reduceAdd, Int.reduceEq, Int.reduceLT, Int.reduceLE, Nat.zero_add, Nat.add_zero, e14, h1, h2, Bool.not_true, Bool.not_false]
      exact herr (fun x => by have := x.2.1; rw [h2] at this; cases this) _ (by repeat (first | exact Fr.refl _ _ _ | refine Fr.push ?_ (by first | omega | (simp only [next_push, next_set] <;> omega)) (by first | omega | (simp only [next_push, next_set] <;> omega)) _ | refine Fr.set ?_ (.inl (by first | omega | (simp only [next_push, next_set] <;> omega))) (by first | omega | (simp only [next_push, next_set] <;> omega)) (by first | omega | (simp only [next_push, next_set] <;> omega)) _)) (by simp only [next_push, next_set]; omega)
  · rw [Bool.not_eq_true] at h1
    simp (disch := first | decide | omega | (simp only [next_push, next_set] <;> omega) | fail) only [↓SB, ↓SO, SM, ↓SD, ↓SL, ST, List.getElem?_cons_zero, List.getElem?_cons_succ, @if_true, @if_false, ↓reduceIte, reduceCtorEq, Bool.false_eq_true, beq_self_eq_true, repL, Nat.reduceMul, Nat.reduceLeDiff, Nat.zero_le, Nat.zero_mul, Nat.reduceAdd, Int.reduceEq, Int.reduceLT, Int.reduceLE, Nat.zero_add, Nat.add_zero, e14, h1, Bool.not_true, Bool.not_false]
    exact herr (fun x => by have := x.1; rw [h1] at this; cases this) _ (by repeat (first | exact Fr.refl _ _ _ | refine Fr.push ?_ (by first | omega | (simp only [next_push, next_set] <;> omega)) (by first | omega | (simp only [next_push, next_set] <;> omega)) _ | refine Fr.set ?_ (.inl (by first | omega | (simp only [next_push, next_set] <;> omega))) (by first | omega | (simp only [next_push, next_set] <;> omega)) (by first | omega | (simp only [next_push, next_set] <;> omega)) _)) (by simp only [next_push, next_set]; omega)

end
end Go.Proofs.YtbokoinmlbipmaaGreatDoor.Ev.Sy

-- Wt
namespace Go.Proofs.YtbokoinmlbipmaaGreatDoor.Ev.Sy
open Go Go.Proofs.YtbokoinmlbipmaaGreatDoor.Ev Go.Proofs
noncomputable section
set_option linter.unusedSimpArgs false
set_option linter.unusedVariables false
set_option linter.unusedSectionVars false
set_option maxRecDepth 100000

/-! ### Strings -/

/-- A packed string. -/
structure Sg where
  n : Nat
  v : Nat
abbrev sgV (s : Sg) : AVal := .str s.n s.v
def cat (s t : Sg) : Sg := ⟨s.n + t.n, concatV s.n s.v t.v⟩
/-- A digit's string. -/
def dg (r : Nat) : Sg := ⟨1, cutV 270211885617516653982000 r (r + 1)⟩
def digGo : Nat → Nat → Sg → Sg
  | 0, _, s => s
  | k + 1, y, s => if y = 0 then s else digGo k (y / 10) (cat (dg (y % 10)) s)
def digS (x : Nat) : Sg := digGo 20 (x / 10) (dg (x % 10))

theorem digGo_len : ∀ (k y : Nat) (s : Sg), (digGo k y s).n ≤ s.n + k
  | 0, _, _ => Nat.le_refl _
  | k + 1, y, s => by
    rw [digGo]
    by_cases h : y = 0
    · rw [if_pos h]; omega
    · rw [if_neg h]
      have := digGo_len k (y / 10) (cat (dg (y % 10)) s)
      have e : (cat (dg (y % 10)) s).n = 1 + s.n := rfl
      omega

theorem tm (x : Nat) : Int.tmod (x : Int) 10 = ((x % 10 : Nat) : Int) := rfl
theorem td (x : Nat) : Int.tdiv (x : Int) 10 = ((x / 10 : Nat) : Int) := rfl

variable {T : Table} (hT : ∀ f, f ≠ 6 → (T.find f).val = []) {fuel : Nat} (hf : 1000 ≤ fuel)

include hT hf in
theorem digits_run {n x : Nat} (hx : x < 18446744073709551616) (H : Heap) (Q : AVal × Heap → Prop) (h : Q (sgV (digS x), H)) : Wp ((R T fuel (n + 1)).func 124 [.int .u64 x] H) Q := by
  refine call_eq hT (by decide) (fn124 fuel) _ _ (wp_fBody (Nat.le_of_ble_eq_true rfl) ?_)
  have hsl : ∀ y : Nat, aSlice P 9 (.str 10 270211885617516653982000) (some (.int .u64 ((y % 10 : Nat) : Int))) (some (.int .u64 (((y % 10 : Nat) : Int) + 1))) = some (.str 1 (cutV 270211885617516653982000 (y % 10) (y % 10 + 1))) := fun y => by
    have := sl_str (P := P) str9 (n := 10) (v := 270211885617516653982000) (l := y % 10) (h := y % 10 + 1) .u64 .u64 (by omega) (by omega)
    rw [show y % 10 + 1 - y % 10 = 1 by omega] at this
    exact this
  unfold c124 r124_0 r124_1 r124_2 r124_6
  simp (disch := first | decide | omega | (simp only [next_push, next_set] <;> omega) | fail) only [↓SB, ↓SO, SM, ↓SD, ↓SL, ST, List.getElem?_cons_zero, List.getElem?_cons_succ, @if_true, @if_false, ↓reduceIte, reduceCtorEq, Bool.false_eq_true, beq_self_eq_true, repL, Nat.reduceMul, Nat.reduceLeDiff, Nat.zero_le, Nat.zero_mul, Nat.reduceAdd, Int.reduceEq, Int.reduceLT, Int.reduceLE, Nat.zero_add, Nat.add_zero, tm, td, hsl]
  refine wp_loop (fun k s => ∃ e y t, s = ⟨e, [], H⟩ ∧ xt 2 0 e = .int .u64 (y : Nat) ∧ xt 2 3 e = sgV t ∧ digGo k y t = digS x ∧ y < 10 ^ k ∧ t.n + k ≤ 21 ∧ y < 18446744073709551616) ?_ (k := 20) (by omega)
    ⟨_, x / 10, dg (x % 10), rfl, by simp (disch := first | decide | omega | (simp only [next_push, next_set] <;> omega) | fail) only [↓SB, ↓SO, SM, ↓SD, ↓SL, ST, List.getElem?_cons_zero, List.getElem?_cons_succ, @if_true, @if_false, ↓reduceIte, reduceCtorEq, Bool.false_eq_true, beq_self_eq_true, repL, Nat.reduceMul, Nat.reduceLeDiff, Nat.zero_le, Nat.zero_mul, Nat.reduceAdd, Int.reduceEq, Int.reduceLT, Int.reduceLE, Nat.zero_add, Nat.add_zero, ], by simp (disch := first | decide | omega | (simp only [next_push, next_set] <;> omega) | fail) only [↓SB, ↓SO, SM, ↓SD, ↓SL, ST, List.getElem?_cons_zero, List.getElem?_cons_succ, @if_true, @if_false, ↓reduceIte, reduceCtorEq, Bool.false_eq_true, beq_self_eq_true, repL, Nat.reduceMul, Nat.reduceLeDiff, Nat.zero_le, Nat.zero_mul, Nat.reduceAdd, Int.reduceEq, Int.reduceLT, Int.reduceLE, Nat.zero_add, Nat.add_zero, ]; rfl, rfl, by omega, by show 1 + 20 ≤ 21; decide, by omega⟩
  rintro k s ⟨e, y, t, rfl, h0, h3, hg, hy, ht, hy2⟩
  unfold r124_3 r124_4 r124_5
  by_cases hy0 : y = 0
  · subst hy0
    simp (disch := first | decide | omega | (simp only [next_push, next_set] <;> omega) | fail) only [↓SB, ↓SO, SM, ↓SD, ↓SL, ST, List.getElem?_cons_zero, List.getElem?_cons_succ, @if_true, @if_false, ↓reduceIte, reduceCtorEq, Bool.false_eq_true, beq_self_eq_true, repL, Nat.reduceMul, Nat.reduceLeDiff, Nat.zero_le, Nat.zero_mul, Nat.reduceAdd, Int.reduceEq, Int.reduceLT, Int.reduceLE, Nat.zero_add, Nat.add_zero, h0, h3, Int.natCast_zero, Int.ofNat_zero, Int.lt_irrefl]
    have : t = digS x := by
      rw [← hg]
      cases k with
      | zero => rfl
      | succ k => rw [digGo, if_pos rfl]
    rw [this]; exact h
  · have hy1 : (0 : Int) < (y : Int) := by omega
    have hc : aBin P .add 9 false (.str 1 (cutV 270211885617516653982000 (y % 10) (y % 10 + 1))) (sgV t) = some (sgV (cat (dg (y % 10)) t)) := bin_cat 9 false (by omega)
    simp (disch := first | decide | omega | (simp only [next_push, next_set] <;> omega) | fail) only [↓SB, ↓SO, SM, ↓SD, ↓SL, ST, List.getElem?_cons_zero, List.getElem?_cons_succ, @if_true, @if_false, ↓reduceIte, reduceCtorEq, Bool.false_eq_true, beq_self_eq_true, repL, Nat.reduceMul, Nat.reduceLeDiff, Nat.zero_le, Nat.zero_mul, Nat.reduceAdd, Int.reduceEq, Int.reduceLT, Int.reduceLE, Nat.zero_add, Nat.add_zero, h0, h3, hy1, tm, td, hsl, hc]
    cases k with
    | zero => simp at hy; omega
    | succ k =>
      rw [digGo, if_neg hy0] at hg
      exact ⟨k, by omega, _, y / 10, cat (dg (y % 10)) t, rfl, by simp (disch := first | decide | omega | (simp only [next_push, next_set] <;> omega) | fail) only [↓SB, ↓SO, SM, ↓SD, ↓SL, ST, List.getElem?_cons_zero, List.getElem?_cons_succ, @if_true, @if_false, ↓reduceIte, reduceCtorEq, Bool.false_eq_true, beq_self_eq_true, repL, Nat.reduceMul, Nat.reduceLeDiff, Nat.zero_le, Nat.zero_mul, Nat.reduceAdd, Int.reduceEq, Int.reduceLT, Int.reduceLE, Nat.zero_add, Nat.add_zero, ], by simp (disch := first | decide | omega | (simp only [next_push, next_set] <;> omega) | fail) only [↓SB, ↓SO, SM, ↓SD, ↓SL, ST, List.getElem?_cons_zero, List.getElem?_cons_succ, @if_true, @if_false, ↓reduceIte, reduceCtorEq, Bool.false_eq_true, beq_self_eq_true, repL, Nat.reduceMul, Nat.reduceLeDiff, Nat.zero_le, Nat.zero_mul, Nat.reduceAdd, Int.reduceEq, Int.reduceLT, Int.reduceLE, Nat.zero_add, Nat.add_zero, ], hg, by rw [Nat.pow_succ] at hy; omega, by show (1 + t.n) + k ≤ 21; omega, by omega⟩

/-- What uint64 makes of a number. -/
def u64N (z : Int) : Nat := (IntKind.u64.wrap z).toNat
theorem u64N_eq (z : Int) : IntKind.u64.wrap z = ((u64N z : Nat) : Int) ∧ u64N z < 18446744073709551616 := by
  have h : 0 ≤ IntKind.u64.wrap z ∧ IntKind.u64.wrap z < 18446744073709551616 := by
    unfold IntKind.wrap
    simp [IntKind.bits, IntKind.signed]
    omega
  unfold u64N
  omega

/-- A number's string. -/
def decS (x : Int) : Sg := if x < 0 then cat ⟨1, 45⟩ (digS (u64N ((u64N (IntKind.i64.wrap (0 - IntKind.i64.wrap (x + 1))) : Nat) + 1))) else digS (u64N x)
theorem digS_len (x : Nat) : (digS x).n ≤ 21 := digGo_len 20 _ _
theorem decS_len (x : Int) : (decS x).n ≤ 22 := by
  unfold decS
  by_cases h : x < 0
  · rw [if_pos h]
    have := digS_len (u64N ((u64N (IntKind.i64.wrap (0 - IntKind.i64.wrap (x + 1))) : Nat) + 1))
    show 1 + _ ≤ 22
    omega
  · rw [if_neg h]
    have := digS_len (u64N x)
    omega

include hT hf in
theorem dec_run {n : Nat} (x : Int) (H : Heap) (Q : AVal × Heap → Prop) (h : Q (sgV (decS x), H)) : Wp ((R T fuel (n + 2)).func 56 [i64 x] H) Q := by
  refine call_eq hT (by decide) (fn56 fuel) _ _ (wp_fBody (Nat.le_of_ble_eq_true rfl) ?_)
  have e124 : ∀ z H, (R T fuel (n + 1)).func 124 [.int .u64 ((u64N z : Nat) : Int)] H = some (sgV (digS (u64N z)), H) := fun z H => by
    obtain ⟨q, h1, h2⟩ := digits_run hT hf (n := n) (u64N_eq z).2 H (· = (sgV (digS (u64N z)), H)) rfl
    rw [h1, h2]
  have hw : ∀ z, IntKind.u64.wrap z = ((u64N z : Nat) : Int) := fun z => (u64N_eq z).1
  unfold c56 r56_0 r56_1 r56_2 r56_3
  by_cases hx : x < 0
  · have hc : ∀ z, aBin P .add 9 true (.str 1 45) (sgV (digS (u64N z))) = some (sgV (cat ⟨1, 45⟩ (digS (u64N z)))) := fun z => bin_cat 9 true (by have := digS_len (u64N z); omega)
    simp (disch := first | decide | omega | (simp only [next_push, next_set] <;> omega) | fail) only [↓SB, ↓SO, SM, ↓SD, ↓SL, ST, List.getElem?_cons_zero, List.getElem?_cons_succ, @if_true, @if_false, ↓reduceIte, reduceCtorEq, Bool.false_eq_true, beq_self_eq_true, repL, Nat.reduceMul, Nat.reduceLeDiff, Nat.zero_le, Nat.zero_mul, Nat.reduceAdd, Int.reduceEq, Int.reduceLT, Int.reduceLE, Nat.zero_add, Nat.add_zero, hx, ↓hw, e124, hc]
    rw [decS, if_pos hx] at h
    exact h
  · simp (disch := first | decide | omega | (simp only [next_push, next_set] <;> omega) | fail) only [↓SB, ↓SO, SM, ↓SD, ↓SL, ST, List.getElem?_cons_zero, List.getElem?_cons_succ, @if_true, @if_false, ↓reduceIte, reduceCtorEq, Bool.false_eq_true, beq_self_eq_true, repL, Nat.reduceMul, Nat.reduceLeDiff, Nat.zero_le, Nat.zero_mul, Nat.reduceAdd, Int.reduceEq, Int.reduceLT, Int.reduceLE, Nat.zero_add, Nat.add_zero, hx, ↓hw, e124]
    rw [decS, if_neg hx] at h
    exact h

/-- Numbers' strings, a blank behind each. -/
def numS (l : List Int) : Sg := l.foldl (fun t x => cat (cat t (decS x)) ⟨1, 32⟩) ⟨0, 0⟩
theorem numS_step {l : List Int} {i : Nat} (h : i < l.length) : numS (l.take (i + 1)) = cat (cat (numS (l.take i)) (decS l[i])) ⟨1, 32⟩ := by
  unfold numS
  rw [← List.take_append_getElem h, List.foldl_append]
  rfl

include hT hf in
theorem num_run {n : Nat} {v : AVal} {xs : List Int} {H : Heap} (hv : Is H v xs) (hx : xs.length ≤ 100) (Q : AVal × Heap → Prop) (h : (numS xs).n ≤ 23 * xs.length → Q (sgV (numS xs), H)) : Wp ((R T fuel (n + 3)).func 29 [v] H) Q := by
  refine call_eq hT (by decide) (fn29 fuel) _ _ (wp_fBody (Nat.le_of_ble_eq_true rfl) ?_)
  have l1 := hv.length su55
  have e56 : ∀ x H, (R T fuel (n + 2)).func 56 [i64 x] H = some (sgV (decS x), H) := fun x H => by
    obtain ⟨q, h1, h2⟩ := dec_run hT hf (n := n) x H (· = (sgV (decS x), H)) rfl
    rw [h1, h2]
  unfold c29 r29_0 r29_1 r29_2 r29_6
  simp (disch := first | decide | omega | (simp only [next_push, next_set] <;> omega) | fail) only [↓SB, ↓SO, SM, ↓SD, ↓SL, ST, List.getElem?_cons_zero, List.getElem?_cons_succ, @if_true, @if_false, ↓reduceIte, reduceCtorEq, Bool.false_eq_true, beq_self_eq_true, repL, Nat.reduceMul, Nat.reduceLeDiff, Nat.zero_le, Nat.zero_mul, Nat.reduceAdd, Int.reduceEq, Int.reduceLT, Int.reduceLE, Nat.zero_add, Nat.add_zero, ]
  refine wp_loop (fun k s => ∃ e i t, s = ⟨e, [], H⟩ ∧ i + k = xs.length ∧ xt 2 0 e = v ∧ xt 2 4 e = i64 i ∧ xt 2 3 e = sgV t ∧ t = numS (xs.take i) ∧ t.n ≤ 23 * i) ?_ (k := xs.length) (by omega)
    ⟨_, 0, ⟨0, 0⟩, rfl, by omega, by simp (disch := first | decide | omega | (simp only [next_push, next_set] <;> omega) | fail) only [↓SB, ↓SO, SM, ↓SD, ↓SL, ST, List.getElem?_cons_zero, List.getElem?_cons_succ, @if_true, @if_false, ↓reduceIte, reduceCtorEq, Bool.false_eq_true, beq_self_eq_true, repL, Nat.reduceMul, Nat.reduceLeDiff, Nat.zero_le, Nat.zero_mul, Nat.reduceAdd, Int.reduceEq, Int.reduceLT, Int.reduceLE, Nat.zero_add, Nat.add_zero, ], by simp (disch := first | decide | omega | (simp only [next_push, next_set] <;> omega) | fail) only [↓SB, ↓SO, SM, ↓SD, ↓SL, ST, List.getElem?_cons_zero, List.getElem?_cons_succ, @if_true, @if_false, ↓reduceIte, reduceCtorEq, Bool.false_eq_true, beq_self_eq_true, repL, Nat.reduceMul, Nat.reduceLeDiff, Nat.zero_le, Nat.zero_mul, Nat.reduceAdd, Int.reduceEq, Int.reduceLT, Int.reduceLE, Nat.zero_add, Nat.add_zero, ]; rfl, by simp (disch := first | decide | omega | (simp only [next_push, next_set] <;> omega) | fail) only [↓SB, ↓SO, SM, ↓SD, ↓SL, ST, List.getElem?_cons_zero, List.getElem?_cons_succ, @if_true, @if_false, ↓reduceIte, reduceCtorEq, Bool.false_eq_true, beq_self_eq_true, repL, Nat.reduceMul, Nat.reduceLeDiff, Nat.zero_le, Nat.zero_mul, Nat.reduceAdd, Int.reduceEq, Int.reduceLT, Int.reduceLE, Nat.zero_add, Nat.add_zero, ], rfl, by decide⟩
  rintro k s ⟨e, i, t, rfl, hk, h0, h4, h3, ht, hn⟩
  unfold r29_3 r29_4 r29_5
  by_cases hi : i < xs.length
  · have hi' : (i : Int) < (xs.length : Int) := by omega
    obtain ⟨a, o, r, l, ha, -, hal, hg, hr, hb, htk⟩ := hv.get su55 sz3 .i64 hi
    have hl := take_at htk (k := 0) rfl
    rw [Nat.add_zero] at hl
    have hst := numS_step hi
    generalize xs[i] = x at *
    have hd := decS_len x
    have c1 : aBin P .add 9 false (sgV t) (sgV (decS x)) = some (sgV (cat t (decS x))) := bin_cat 9 false (by omega)
    have e1 : (cat t (decS x)).n = t.n + (decS x).n := rfl
    have c2 : aBin P .add 9 true (sgV (cat t (decS x))) (.str 1 32) = some (sgV (cat (cat t (decS x)) ⟨1, 32⟩)) := bin_cat 9 true (by omega)
    simp (disch := first | decide | omega | (simp only [next_push, next_set] <;> omega) | fail) only [↓SB, ↓SO, SM, ↓SD, ↓SL, ST, List.getElem?_cons_zero, List.getElem?_cons_succ, @if_true, @if_false, ↓reduceIte, reduceCtorEq, Bool.false_eq_true, beq_self_eq_true, repL, Nat.reduceMul, Nat.reduceLeDiff, Nat.zero_le, Nat.zero_mul, Nat.reduceAdd, Int.reduceEq, Int.reduceLT, Int.reduceLE, Nat.zero_add, Nat.add_zero, h0, h3, h4, l1, hi', ha, hg, hr, hl, e56, c1, c2]
    exact ⟨k - 1, by omega, _, i + 1, cat (cat t (decS x)) ⟨1, 32⟩, rfl, by omega, by simp (disch := first | decide | omega | (simp only [next_push, next_set] <;> omega) | fail) only [↓SB, ↓SO, SM, ↓SD, ↓SL, ST, List.getElem?_cons_zero, List.getElem?_cons_succ, @if_true, @if_false, ↓reduceIte, reduceCtorEq, Bool.false_eq_true, beq_self_eq_true, repL, Nat.reduceMul, Nat.reduceLeDiff, Nat.zero_le, Nat.zero_mul, Nat.reduceAdd, Int.reduceEq, Int.reduceLT, Int.reduceLE, Nat.zero_add, Nat.add_zero, h0], by simp (disch := first | decide | omega | (simp only [next_push, next_set] <;> omega) | fail) only [↓SB, ↓SO, SM, ↓SD, ↓SL, ST, List.getElem?_cons_zero, List.getElem?_cons_succ, @if_true, @if_false, ↓reduceIte, reduceCtorEq, Bool.false_eq_true, beq_self_eq_true, repL, Nat.reduceMul, Nat.reduceLeDiff, Nat.zero_le, Nat.zero_mul, Nat.reduceAdd, Int.reduceEq, Int.reduceLT, Int.reduceLE, Nat.zero_add, Nat.add_zero, ]; rfl, by simp (disch := first | decide | omega | (simp only [next_push, next_set] <;> omega) | fail) only [↓SB, ↓SO, SM, ↓SD, ↓SL, ST, List.getElem?_cons_zero, List.getElem?_cons_succ, @if_true, @if_false, ↓reduceIte, reduceCtorEq, Bool.false_eq_true, beq_self_eq_true, repL, Nat.reduceMul, Nat.reduceLeDiff, Nat.zero_le, Nat.zero_mul, Nat.reduceAdd, Int.reduceEq, Int.reduceLT, Int.reduceLE, Nat.zero_add, Nat.add_zero, ], by rw [hst, ← ht], by show t.n + (decS x).n + 1 ≤ _; omega⟩
  · have hi' : ¬ (i : Int) < (xs.length : Int) := by omega
    simp (disch := first | decide | omega | (simp only [next_push, next_set] <;> omega) | fail) only [↓SB, ↓SO, SM, ↓SD, ↓SL, ST, List.getElem?_cons_zero, List.getElem?_cons_succ, @if_true, @if_false, ↓reduceIte, reduceCtorEq, Bool.false_eq_true, beq_self_eq_true, repL, Nat.reduceMul, Nat.reduceLeDiff, Nat.zero_le, Nat.zero_mul, Nat.reduceAdd, Int.reduceEq, Int.reduceLT, Int.reduceLE, Nat.zero_add, Nat.add_zero, h0, h3, h4, l1, hi']
    rw [List.take_of_length_le (by omega)] at ht
    rw [ht] at hn ⊢
    exact h (by omega)

end
end Go.Proofs.YtbokoinmlbipmaaGreatDoor.Ev.Sy

-- Wu
namespace Go.Proofs.YtbokoinmlbipmaaGreatDoor.Ev.Sy
open Go Go.Proofs.YtbokoinmlbipmaaGreatDoor.Ev Go.Proofs
noncomputable section
set_option linter.unusedSimpArgs false
set_option linter.unusedVariables false
set_option linter.unusedSectionVars false
set_option maxRecDepth 100000
set_option maxHeartbeats 1000000

theorem ce_frn (p : Frn) : (El.ce p : List AVal) = [i64 p.a, i64 p.b, i64 p.c, i64 p.d, i64 p.e, i64 p.r] := rfl

/-- The strings of a list's elements behind a string. -/
def stepS {α : Type} (num : α → List Int) (s : Sg) (l : List α) : Sg := l.foldl (fun s x => cat s (numS (num x))) s
theorem stepS_at {α : Type} {num : α → List Int} {s : Sg} {l : List α} {i : Nat} (h : i < l.length) : stepS num s (l.take (i + 1)) = cat (stepS num s (l.take i)) (numS (num l[i])) := by
  unfold stepS
  rw [← List.take_append_getElem h, List.foldl_append]
  rfl

variable {T : Table} (hT : ∀ f, f ≠ 6 → (T.find f).val = []) {fuel : Nat} (hf : 1000 ≤ fuel)

def numSpl (x : Spl) : List Int := [x.k, x.q, x.n, x.f, x.u]

include hT hf in
theorem scSpl_run {n n0 N : Nat} {H : Heap} {c : Scr} {s0 : Sg} {a b d pv g : AVal} (hv0 : Is H a c.sp) (hB : H.next ≤ n0) (hlen : c.sp.length ≤ 12) (hN : N + 100 ≤ 32768) (hs0 : s0.n ≤ 1000000) {Q : AExit × ASt → Prop} {k : Nat} {e0 : Env} {H0 : Heap} (hk : c.sp.length < fuel)
    (k1 : xt 3 1 e0 = .ptr n0 0) (k3 : xt 3 3 e0 = sgV s0) (kx : xt 3 4 e0 = i64 (0 : Nat)) (kg : H0.get n0 = some (.cells 28 [i64 c.f, i64 c.u, a, b, d, pv, g] false 0 false)) (kf : Fr H.next (fun _ => False) H H0) (kn : n0 < H0.next) (kN : H0.next ≤ N)
    (h : ∀ e H1, xt 3 1 e = .ptr n0 0 → xt 3 3 e = sgV (stepS numSpl s0 c.sp) → (stepS numSpl s0 c.sp).n ≤ s0.n + 2400 → H1.get n0 = some (.cells 28 [i64 c.f, i64 c.u, a, b, d, pv, g] false 0 false) → Fr H.next (fun _ => False) H H1 → n0 < H1.next → H1.next ≤ N + 24 → Q (.exit 0, ⟨e, [], H1⟩)) :
    Wp ((cLoop fuel (cSeq (cSeq r19_3 (cIf (xt 3 27) cSkip (cExit 0))) (cSeq (cBlk 1 (cSeq r19_5 r19_6)) r19_4))).val (R T fuel (n + 3)) ⟨e0, [], H0⟩) Q := by
  refine wp_loop (fun k s => ∃ e H1 i t, s = ⟨e, [], H1⟩ ∧ i + k = c.sp.length ∧ xt 3 1 e = .ptr n0 0 ∧ xt 3 3 e = sgV t ∧ xt 3 4 e = i64 i ∧ t = stepS numSpl s0 (c.sp.take i) ∧ t.n ≤ s0.n + 200 * i ∧ H1.get n0 = some (.cells 28 [i64 c.f, i64 c.u, a, b, d, pv, g] false 0 false) ∧
    Fr H.next (fun _ => False) H H1 ∧ n0 < H1.next ∧ H1.next ≤ N + 2 * i) ?_ hk ⟨e0, H0, 0, s0, rfl, by omega, k1, k3, kx, rfl, by omega, kg, kf, kn, by omega⟩
  rintro k s ⟨e, H1, i, t, rfl, hi, h1, h3, hx, ht, htn, hg, hfr, hn0, hn⟩
  unfold r19_3 r19_5 r19_6 r19_4
  have hle := hfr.le
  have hv1 : Is H1 a c.sp := hfr.is hv0 fun j hj => ⟨hv0.lo j hj, fun x => x⟩
  have l1 := hv1.length su22
  by_cases hil : i < c.sp.length
  · have hil' : (i : Int) < (c.sp.length : Int) := by omega
    obtain ⟨q, o, r, l, ha, hid, hq, hgq, hr, hb, htk⟩ := hv1.get su22 sz47 .i64 hil
    have hst := stepS_at (num := numSpl) (s := s0) hil
    generalize c.sp[i] = p at *
    rw [ce_spl] at htk
    simp only [El.sz] at hb htk
    simp (maxSteps := 1000000) (disch := first | decide | omega | (simp only [next_push, next_set] <;> omega) | fail) only [↓SB, ↓SO, SM, ↓SD, ↓SL, ST, List.getElem?_cons_zero, List.getElem?_cons_succ, @if_true, @if_false, ↓reduceIte, reduceCtorEq, Bool.false_eq_true, beq_self_eq_true, repL, Nat.reduceMul, Nat.reduceLeDiff, Nat.zero_le, Nat.zero_mul, Nat.reduceAdd, Int.reduceEq, Int.reduceLT, Int.reduceLE, Nat.zero_add, Nat.add_zero, h1, h3, hx, hg, l1, hil', ha, hgq, hr, hb, htk]
    refine num_run hT hf (xs := numSpl p) (is_built (get_push_same _ _ (by simp only [next_push, next_set])) rfl rfl (by simp only [next_push, next_set]; omega)) (by show 5 ≤ 100; decide) _ ?_
    intro hnl
    have hnl' : (numS (numSpl p)).n ≤ 23 * 5 := hnl
    have c1 : aBin P .add 9 false (sgV t) (sgV (numS (numSpl p))) = some (sgV (cat t (numS (numSpl p)))) := bin_cat 9 false (by omega)
    simp (maxSteps := 1000000) (disch := first | decide | omega | (simp only [next_push, next_set] <;> omega) | fail) only [↓SB, ↓SO, SM, ↓SD, ↓SL, ST, List.getElem?_cons_zero, List.getElem?_cons_succ, @if_true, @if_false, ↓reduceIte, reduceCtorEq, Bool.false_eq_true, beq_self_eq_true, repL, Nat.reduceMul, Nat.reduceLeDiff, Nat.zero_le, Nat.zero_mul, Nat.reduceAdd, Int.reduceEq, Int.reduceLT, Int.reduceLE, Nat.zero_add, Nat.add_zero, c1, hx]
    refine ⟨k - 1, by omega, _, _, i + 1, cat t (numS (numSpl p)), rfl, by omega, by simp (maxSteps := 1000000) (disch := first | decide | omega | (simp only [next_push, next_set] <;> omega) | fail) only [↓SB, ↓SO, SM, ↓SD, ↓SL, ST, List.getElem?_cons_zero, List.getElem?_cons_succ, @if_true, @if_false, ↓reduceIte, reduceCtorEq, Bool.false_eq_true, beq_self_eq_true, repL, Nat.reduceMul, Nat.reduceLeDiff, Nat.zero_le, Nat.zero_mul, Nat.reduceAdd, Int.reduceEq, Int.reduceLT, Int.reduceLE, Nat.zero_add, Nat.add_zero, h1], by simp (maxSteps := 1000000) (disch := first | decide | omega | (simp only [next_push, next_set] <;> omega) | fail) only [↓SB, ↓SO, SM, ↓SD, ↓SL, ST, List.getElem?_cons_zero, List.getElem?_cons_succ, @if_true, @if_false, ↓reduceIte, reduceCtorEq, Bool.false_eq_true, beq_self_eq_true, repL, Nat.reduceMul, Nat.reduceLeDiff, Nat.zero_le, Nat.zero_mul, Nat.reduceAdd, Int.reduceEq, Int.reduceLT, Int.reduceLE, Nat.zero_add, Nat.add_zero, ], by simp (maxSteps := 1000000) (disch := first | decide | omega | (simp only [next_push, next_set] <;> omega) | fail) only [↓SB, ↓SO, SM, ↓SD, ↓SL, ST, List.getElem?_cons_zero, List.getElem?_cons_succ, @if_true, @if_false, ↓reduceIte, reduceCtorEq, Bool.false_eq_true, beq_self_eq_true, repL, Nat.reduceMul, Nat.reduceLeDiff, Nat.zero_le, Nat.zero_mul, Nat.reduceAdd, Int.reduceEq, Int.reduceLT, Int.reduceLE, Nat.zero_add, Nat.add_zero, ]; rfl, by rw [hst, ← ht], by show t.n + _ ≤ _; omega, ?_, hfr.on hle (by repeat (first | exact Fr.refl _ _ _ | refine Fr.push ?_ (by first | omega | (simp only [next_push, next_set] <;> omega)) (by first | omega | (simp only [next_push, next_set] <;> omega)) _ | refine Fr.set ?_ (.inl (by first | omega | (simp only [next_push, next_set] <;> omega))) (by first | omega | (simp only [next_push, next_set] <;> omega)) (by first | omega | (simp only [next_push, next_set] <;> omega)) _)), by simp only [next_push, next_set]; omega, by simp only [next_push, next_set]; omega⟩
    simp (maxSteps := 1000000) (disch := first | decide | omega | (simp only [next_push, next_set] <;> omega) | fail) only [↓SB, ↓SO, SM, ↓SD, ↓SL, ST, List.getElem?_cons_zero, List.getElem?_cons_succ, @if_true, @if_false, ↓reduceIte, reduceCtorEq, Bool.false_eq_true, beq_self_eq_true, repL, Nat.reduceMul, Nat.reduceLeDiff, Nat.zero_le, Nat.zero_mul, Nat.reduceAdd, Int.reduceEq, Int.reduceLT, Int.reduceLE, Nat.zero_add, Nat.add_zero, hg]
  · have hil' : ¬ (i : Int) < (c.sp.length : Int) := by omega
    simp (maxSteps := 1000000) (disch := first | decide | omega | (simp only [next_push, next_set] <;> omega) | fail) only [↓SB, ↓SO, SM, ↓SD, ↓SL, ST, List.getElem?_cons_zero, List.getElem?_cons_succ, @if_true, @if_false, ↓reduceIte, reduceCtorEq, Bool.false_eq_true, beq_self_eq_true, repL, Nat.reduceMul, Nat.reduceLeDiff, Nat.zero_le, Nat.zero_mul, Nat.reduceAdd, Int.reduceEq, Int.reduceLT, Int.reduceLE, Nat.zero_add, Nat.add_zero, h1, h3, hx, hg, l1, hil']
    rw [List.take_of_length_le (by omega)] at ht
    exact h _ _ (by simp (maxSteps := 1000000) (disch := first | decide | omega | (simp only [next_push, next_set] <;> omega) | fail) only [↓SB, ↓SO, SM, ↓SD, ↓SL, ST, List.getElem?_cons_zero, List.getElem?_cons_succ, @if_true, @if_false, ↓reduceIte, reduceCtorEq, Bool.false_eq_true, beq_self_eq_true, repL, Nat.reduceMul, Nat.reduceLeDiff, Nat.zero_le, Nat.zero_mul, Nat.reduceAdd, Int.reduceEq, Int.reduceLT, Int.reduceLE, Nat.zero_add, Nat.add_zero, h1]) (by simp (maxSteps := 1000000) (disch := first | decide | omega | (simp only [next_push, next_set] <;> omega) | fail) only [↓SB, ↓SO, SM, ↓SD, ↓SL, ST, List.getElem?_cons_zero, List.getElem?_cons_succ, @if_true, @if_false, ↓reduceIte, reduceCtorEq, Bool.false_eq_true, beq_self_eq_true, repL, Nat.reduceMul, Nat.reduceLeDiff, Nat.zero_le, Nat.zero_mul, Nat.reduceAdd, Int.reduceEq, Int.reduceLT, Int.reduceLE, Nat.zero_add, Nat.add_zero, h3, ht]) (by rw [← ht]; omega) hg hfr hn0 (by omega)

def numOvr (x : Ovr) : List Int := [x.k, x.t, x.p, x.l, x.f, x.u, x.n]

include hT hf in
theorem scOvr_run {n n0 N : Nat} {H : Heap} {c : Scr} {s0 : Sg} {a b d pv g : AVal} (hv0 : Is H b c.ov) (hB : H.next ≤ n0) (hlen : c.ov.length ≤ 12) (hN : N + 100 ≤ 32768) (hs0 : s0.n ≤ 1000000) {Q : AExit × ASt → Prop} {k : Nat} {e0 : Env} {H0 : Heap} (hk : c.ov.length < fuel)
    (k1 : xt 3 1 e0 = .ptr n0 0) (k3 : xt 3 3 e0 = sgV s0) (kx : xt 3 6 e0 = i64 (0 : Nat)) (kg : H0.get n0 = some (.cells 28 [i64 c.f, i64 c.u, a, b, d, pv, g] false 0 false)) (kf : Fr H.next (fun _ => False) H H0) (kn : n0 < H0.next) (kN : H0.next ≤ N)
    (h : ∀ e H1, xt 3 1 e = .ptr n0 0 → xt 3 3 e = sgV (stepS numOvr s0 c.ov) → (stepS numOvr s0 c.ov).n ≤ s0.n + 2400 → H1.get n0 = some (.cells 28 [i64 c.f, i64 c.u, a, b, d, pv, g] false 0 false) → Fr H.next (fun _ => False) H H1 → n0 < H1.next → H1.next ≤ N + 24 → Q (.exit 2, ⟨e, [], H1⟩)) :
    Wp ((cLoop fuel (cSeq (cSeq r19_9 (cIf (xt 3 60) cSkip (cExit 2))) (cSeq (cBlk 3 (cSeq r19_11 r19_12)) r19_10))).val (R T fuel (n + 3)) ⟨e0, [], H0⟩) Q := by
  refine wp_loop (fun k s => ∃ e H1 i t, s = ⟨e, [], H1⟩ ∧ i + k = c.ov.length ∧ xt 3 1 e = .ptr n0 0 ∧ xt 3 3 e = sgV t ∧ xt 3 6 e = i64 i ∧ t = stepS numOvr s0 (c.ov.take i) ∧ t.n ≤ s0.n + 200 * i ∧ H1.get n0 = some (.cells 28 [i64 c.f, i64 c.u, a, b, d, pv, g] false 0 false) ∧
    Fr H.next (fun _ => False) H H1 ∧ n0 < H1.next ∧ H1.next ≤ N + 2 * i) ?_ hk ⟨e0, H0, 0, s0, rfl, by omega, k1, k3, kx, rfl, by omega, kg, kf, kn, by omega⟩
  rintro k s ⟨e, H1, i, t, rfl, hi, h1, h3, hx, ht, htn, hg, hfr, hn0, hn⟩
  unfold r19_9 r19_11 r19_12 r19_10
  have hle := hfr.le
  have hv1 : Is H1 b c.ov := hfr.is hv0 fun j hj => ⟨hv0.lo j hj, fun x => x⟩
  have l1 := hv1.length su23
  by_cases hil : i < c.ov.length
  · have hil' : (i : Int) < (c.ov.length : Int) := by omega
    obtain ⟨q, o, r, l, ha, hid, hq, hgq, hr, hb, htk⟩ := hv1.get su23 sz49 .i64 hil
    have hst := stepS_at (num := numOvr) (s := s0) hil
    generalize c.ov[i] = p at *
    rw [ce_ovr] at htk
    simp only [El.sz] at hb htk
    simp (maxSteps := 1000000) (disch := first | decide | omega | (simp only [next_push, next_set] <;> omega) | fail) only [↓SB, ↓SO, SM, ↓SD, ↓SL, ST, List.getElem?_cons_zero, List.getElem?_cons_succ, @if_true, @if_false, ↓reduceIte, reduceCtorEq, Bool.false_eq_true, beq_self_eq_true, repL, Nat.reduceMul, Nat.reduceLeDiff, Nat.zero_le, Nat.zero_mul, Nat.reduceAdd, Int.reduceEq, Int.reduceLT, Int.reduceLE, Nat.zero_add, Nat.add_zero, h1, h3, hx, hg, l1, hil', ha, hgq, hr, hb, htk]
    refine num_run hT hf (xs := numOvr p) (is_built (get_push_same _ _ (by simp only [next_push, next_set])) rfl rfl (by simp only [next_push, next_set]; omega)) (by show 7 ≤ 100; decide) _ ?_
    intro hnl
    have hnl' : (numS (numOvr p)).n ≤ 23 * 7 := hnl
    have c1 : aBin P .add 9 false (sgV t) (sgV (numS (numOvr p))) = some (sgV (cat t (numS (numOvr p)))) := bin_cat 9 false (by omega)
    simp (maxSteps := 1000000) (disch := first | decide | omega | (simp only [next_push, next_set] <;> omega) | fail) only [↓SB, ↓SO, SM, ↓SD, ↓SL, ST, List.getElem?_cons_zero, List.getElem?_cons_succ, @if_true, @if_false, ↓reduceIte, reduceCtorEq, Bool.false_eq_true, beq_self_eq_true, repL, Nat.reduceMul, Nat.reduceLeDiff, Nat.zero_le, Nat.zero_mul, Nat.reduceAdd, Int.reduceEq, Int.reduceLT, Int.reduceLE, Nat.zero_add, Nat.add_zero, c1, hx]
    refine ⟨k - 1, by omega, _, _, i + 1, cat t (numS (numOvr p)), rfl, by omega, by simp (maxSteps := 1000000) (disch := first | decide | omega | (simp only [next_push, next_set] <;> omega) | fail) only [↓SB, ↓SO, SM, ↓SD, ↓SL, ST, List.getElem?_cons_zero, List.getElem?_cons_succ, @if_true, @if_false, ↓reduceIte, reduceCtorEq, Bool.false_eq_true, beq_self_eq_true, repL, Nat.reduceMul, Nat.reduceLeDiff, Nat.zero_le, Nat.zero_mul, Nat.reduceAdd, Int.reduceEq, Int.reduceLT, Int.reduceLE, Nat.zero_add, Nat.add_zero, h1], by simp (maxSteps := 1000000) (disch := first | decide | omega | (simp only [next_push, next_set] <;> omega) | fail) only [↓SB, ↓SO, SM, ↓SD, ↓SL, ST, List.getElem?_cons_zero, List.getElem?_cons_succ, @if_true, @if_false, ↓reduceIte, reduceCtorEq, Bool.false_eq_true, beq_self_eq_true, repL, Nat.reduceMul, Nat.reduceLeDiff, Nat.zero_le, Nat.zero_mul, Nat.reduceAdd, Int.reduceEq, Int.reduceLT, Int.reduceLE, Nat.zero_add, Nat.add_zero, ], by simp (maxSteps := 1000000) (disch := first | decide | omega | (simp only [next_push, next_set] <;> omega) | fail) only [↓SB, ↓SO, SM, ↓SD, ↓SL, ST, List.getElem?_cons_zero, List.getElem?_cons_succ, @if_true, @if_false, ↓reduceIte, reduceCtorEq, Bool.false_eq_true, beq_self_eq_true, repL, Nat.reduceMul, Nat.reduceLeDiff, Nat.zero_le, Nat.zero_mul, Nat.reduceAdd, Int.reduceEq, Int.reduceLT, Int.reduceLE, Nat.zero_add, Nat.add_zero, ]; rfl, by rw [hst, ← ht], by show t.n + _ ≤ _; omega, ?_, hfr.on hle (by repeat (first | exact Fr.refl _ _ _ | refine Fr.push ?_ (by first | omega | (simp only [next_push, next_set] <;> omega)) (by first | omega | (simp only [next_push, next_set] <;> omega)) _ | refine Fr.set ?_ (.inl (by first | omega | (simp only [next_push, next_set] <;> omega))) (by first | omega | (simp only [next_push, next_set] <;> omega)) (by first | omega | (simp only [next_push, next_set] <;> omega)) _)), by simp only [next_push, next_set]; omega, by simp only [next_push, next_set]; omega⟩
    simp (maxSteps := 1000000) (disch := first | decide | omega | (simp only [next_push, next_set] <;> omega) | fail) only [↓SB, ↓SO, SM, ↓SD, ↓SL, ST, List.getElem?_cons_zero, List.getElem?_cons_succ, @if_true, @if_false, ↓reduceIte, reduceCtorEq, Bool.false_eq_true, beq_self_eq_true, repL, Nat.reduceMul, Nat.reduceLeDiff, Nat.zero_le, Nat.zero_mul, Nat.reduceAdd, Int.reduceEq, Int.reduceLT, Int.reduceLE, Nat.zero_add, Nat.add_zero, hg]
  · have hil' : ¬ (i : Int) < (c.ov.length : Int) := by omega
    simp (maxSteps := 1000000) (disch := first | decide | omega | (simp only [next_push, next_set] <;> omega) | fail) only [↓SB, ↓SO, SM, ↓SD, ↓SL, ST, List.getElem?_cons_zero, List.getElem?_cons_succ, @if_true, @if_false, ↓reduceIte, reduceCtorEq, Bool.false_eq_true, beq_self_eq_true, repL, Nat.reduceMul, Nat.reduceLeDiff, Nat.zero_le, Nat.zero_mul, Nat.reduceAdd, Int.reduceEq, Int.reduceLT, Int.reduceLE, Nat.zero_add, Nat.add_zero, h1, h3, hx, hg, l1, hil']
    rw [List.take_of_length_le (by omega)] at ht
    exact h _ _ (by simp (maxSteps := 1000000) (disch := first | decide | omega | (simp only [next_push, next_set] <;> omega) | fail) only [↓SB, ↓SO, SM, ↓SD, ↓SL, ST, List.getElem?_cons_zero, List.getElem?_cons_succ, @if_true, @if_false, ↓reduceIte, reduceCtorEq, Bool.false_eq_true, beq_self_eq_true, repL, Nat.reduceMul, Nat.reduceLeDiff, Nat.zero_le, Nat.zero_mul, Nat.reduceAdd, Int.reduceEq, Int.reduceLT, Int.reduceLE, Nat.zero_add, Nat.add_zero, h1]) (by simp (maxSteps := 1000000) (disch := first | decide | omega | (simp only [next_push, next_set] <;> omega) | fail) only [↓SB, ↓SO, SM, ↓SD, ↓SL, ST, List.getElem?_cons_zero, List.getElem?_cons_succ, @if_true, @if_false, ↓reduceIte, reduceCtorEq, Bool.false_eq_true, beq_self_eq_true, repL, Nat.reduceMul, Nat.reduceLeDiff, Nat.zero_le, Nat.zero_mul, Nat.reduceAdd, Int.reduceEq, Int.reduceLT, Int.reduceLE, Nat.zero_add, Nat.add_zero, h3, ht]) (by rw [← ht]; omega) hg hfr hn0 (by omega)

def numDfc (x : Dfc) : List Int := [x.t, x.c, x.f, x.u, x.n]

include hT hf in
theorem scDfc_run {n n0 N : Nat} {H : Heap} {c : Scr} {s0 : Sg} {a b d pv g : AVal} (hv0 : Is H d c.df) (hB : H.next ≤ n0) (hlen : c.df.length ≤ 12) (hN : N + 100 ≤ 32768) (hs0 : s0.n ≤ 1000000) {Q : AExit × ASt → Prop} {k : Nat} {e0 : Env} {H0 : Heap} (hk : c.df.length < fuel)
    (k1 : xt 3 1 e0 = .ptr n0 0) (k3 : xt 3 3 e0 = sgV s0) (kx : xt 3 8 e0 = i64 (0 : Nat)) (kg : H0.get n0 = some (.cells 28 [i64 c.f, i64 c.u, a, b, d, pv, g] false 0 false)) (kf : Fr H.next (fun _ => False) H H0) (kn : n0 < H0.next) (kN : H0.next ≤ N)
    (h : ∀ e H1, xt 3 1 e = .ptr n0 0 → xt 3 3 e = sgV (stepS numDfc s0 c.df) → (stepS numDfc s0 c.df).n ≤ s0.n + 2400 → H1.get n0 = some (.cells 28 [i64 c.f, i64 c.u, a, b, d, pv, g] false 0 false) → Fr H.next (fun _ => False) H H1 → n0 < H1.next → H1.next ≤ N + 24 → Q (.exit 4, ⟨e, [], H1⟩)) :
    Wp ((cLoop fuel (cSeq (cSeq r19_15 (cIf (xt 3 97) cSkip (cExit 4))) (cSeq (cBlk 5 (cSeq r19_17 r19_18)) r19_16))).val (R T fuel (n + 3)) ⟨e0, [], H0⟩) Q := by
  refine wp_loop (fun k s => ∃ e H1 i t, s = ⟨e, [], H1⟩ ∧ i + k = c.df.length ∧ xt 3 1 e = .ptr n0 0 ∧ xt 3 3 e = sgV t ∧ xt 3 8 e = i64 i ∧ t = stepS numDfc s0 (c.df.take i) ∧ t.n ≤ s0.n + 200 * i ∧ H1.get n0 = some (.cells 28 [i64 c.f, i64 c.u, a, b, d, pv, g] false 0 false) ∧
    Fr H.next (fun _ => False) H H1 ∧ n0 < H1.next ∧ H1.next ≤ N + 2 * i) ?_ hk ⟨e0, H0, 0, s0, rfl, by omega, k1, k3, kx, rfl, by omega, kg, kf, kn, by omega⟩
  rintro k s ⟨e, H1, i, t, rfl, hi, h1, h3, hx, ht, htn, hg, hfr, hn0, hn⟩
  unfold r19_15 r19_17 r19_18 r19_16
  have hle := hfr.le
  have hv1 : Is H1 d c.df := hfr.is hv0 fun j hj => ⟨hv0.lo j hj, fun x => x⟩
  have l1 := hv1.length su24
  by_cases hil : i < c.df.length
  · have hil' : (i : Int) < (c.df.length : Int) := by omega
    obtain ⟨q, o, r, l, ha, hid, hq, hgq, hr, hb, htk⟩ := hv1.get su24 sz42 .i64 hil
    have hst := stepS_at (num := numDfc) (s := s0) hil
    generalize c.df[i] = p at *
    rw [ce_dfc] at htk
    simp only [El.sz] at hb htk
    simp (maxSteps := 1000000) (disch := first | decide | omega | (simp only [next_push, next_set] <;> omega) | fail) only [↓SB, ↓SO, SM, ↓SD, ↓SL, ST, List.getElem?_cons_zero, List.getElem?_cons_succ, @if_true, @if_false, ↓reduceIte, reduceCtorEq, Bool.false_eq_true, beq_self_eq_true, repL, Nat.reduceMul, Nat.reduceLeDiff, Nat.zero_le, Nat.zero_mul, Nat.reduceAdd, Int.reduceEq, Int.reduceLT, Int.reduceLE, Nat.zero_add, Nat.add_zero, h1, h3, hx, hg, l1, hil', ha, hgq, hr, hb, htk]
    refine num_run hT hf (xs := numDfc p) (is_built (get_push_same _ _ (by simp only [next_push, next_set])) rfl rfl (by simp only [next_push, next_set]; omega)) (by show 5 ≤ 100; decide) _ ?_
    intro hnl
    have hnl' : (numS (numDfc p)).n ≤ 23 * 5 := hnl
    have c1 : aBin P .add 9 false (sgV t) (sgV (numS (numDfc p))) = some (sgV (cat t (numS (numDfc p)))) := bin_cat 9 false (by omega)
    simp (maxSteps := 1000000) (disch := first | decide | omega | (simp only [next_push, next_set] <;> omega) | fail) only [↓SB, ↓SO, SM, ↓SD, ↓SL, ST, List.getElem?_cons_zero, List.getElem?_cons_succ, @if_true, @if_false, ↓reduceIte, reduceCtorEq, Bool.false_eq_true, beq_self_eq_true, repL, Nat.reduceMul, Nat.reduceLeDiff, Nat.zero_le, Nat.zero_mul, Nat.reduceAdd, Int.reduceEq, Int.reduceLT, Int.reduceLE, Nat.zero_add, Nat.add_zero, c1, hx]
    refine ⟨k - 1, by omega, _, _, i + 1, cat t (numS (numDfc p)), rfl, by omega, by simp (maxSteps := 1000000) (disch := first | decide | omega | (simp only [next_push, next_set] <;> omega) | fail) only [↓SB, ↓SO, SM, ↓SD, ↓SL, ST, List.getElem?_cons_zero, List.getElem?_cons_succ, @if_true, @if_false, ↓reduceIte, reduceCtorEq, Bool.false_eq_true, beq_self_eq_true, repL, Nat.reduceMul, Nat.reduceLeDiff, Nat.zero_le, Nat.zero_mul, Nat.reduceAdd, Int.reduceEq, Int.reduceLT, Int.reduceLE, Nat.zero_add, Nat.add_zero, h1], by simp (maxSteps := 1000000) (disch := first | decide | omega | (simp only [next_push, next_set] <;> omega) | fail) only [↓SB, ↓SO, SM, ↓SD, ↓SL, ST, List.getElem?_cons_zero, List.getElem?_cons_succ, @if_true, @if_false, ↓reduceIte, reduceCtorEq, Bool.false_eq_true, beq_self_eq_true, repL, Nat.reduceMul, Nat.reduceLeDiff, Nat.zero_le, Nat.zero_mul, Nat.reduceAdd, Int.reduceEq, Int.reduceLT, Int.reduceLE, Nat.zero_add, Nat.add_zero, ], by simp (maxSteps := 1000000) (disch := first | decide | omega | (simp only [next_push, next_set] <;> omega) | fail) only [↓SB, ↓SO, SM, ↓SD, ↓SL, ST, List.getElem?_cons_zero, List.getElem?_cons_succ, @if_true, @if_false, ↓reduceIte, reduceCtorEq, Bool.false_eq_true, beq_self_eq_true, repL, Nat.reduceMul, Nat.reduceLeDiff, Nat.zero_le, Nat.zero_mul, Nat.reduceAdd, Int.reduceEq, Int.reduceLT, Int.reduceLE, Nat.zero_add, Nat.add_zero, ]; rfl, by rw [hst, ← ht], by show t.n + _ ≤ _; omega, ?_, hfr.on hle (by repeat (first | exact Fr.refl _ _ _ | refine Fr.push ?_ (by first | omega | (simp only [next_push, next_set] <;> omega)) (by first | omega | (simp only [next_push, next_set] <;> omega)) _ | refine Fr.set ?_ (.inl (by first | omega | (simp only [next_push, next_set] <;> omega))) (by first | omega | (simp only [next_push, next_set] <;> omega)) (by first | omega | (simp only [next_push, next_set] <;> omega)) _)), by simp only [next_push, next_set]; omega, by simp only [next_push, next_set]; omega⟩
    simp (maxSteps := 1000000) (disch := first | decide | omega | (simp only [next_push, next_set] <;> omega) | fail) only [↓SB, ↓SO, SM, ↓SD, ↓SL, ST, List.getElem?_cons_zero, List.getElem?_cons_succ, @if_true, @if_false, ↓reduceIte, reduceCtorEq, Bool.false_eq_true, beq_self_eq_true, repL, Nat.reduceMul, Nat.reduceLeDiff, Nat.zero_le, Nat.zero_mul, Nat.reduceAdd, Int.reduceEq, Int.reduceLT, Int.reduceLE, Nat.zero_add, Nat.add_zero, hg]
  · have hil' : ¬ (i : Int) < (c.df.length : Int) := by omega
    simp (maxSteps := 1000000) (disch := first | decide | omega | (simp only [next_push, next_set] <;> omega) | fail) only [↓SB, ↓SO, SM, ↓SD, ↓SL, ST, List.getElem?_cons_zero, List.getElem?_cons_succ, @if_true, @if_false, ↓reduceIte, reduceCtorEq, Bool.false_eq_true, beq_self_eq_true, repL, Nat.reduceMul, Nat.reduceLeDiff, Nat.zero_le, Nat.zero_mul, Nat.reduceAdd, Int.reduceEq, Int.reduceLT, Int.reduceLE, Nat.zero_add, Nat.add_zero, h1, h3, hx, hg, l1, hil']
    rw [List.take_of_length_le (by omega)] at ht
    exact h _ _ (by simp (maxSteps := 1000000) (disch := first | decide | omega | (simp only [next_push, next_set] <;> omega) | fail) only [↓SB, ↓SO, SM, ↓SD, ↓SL, ST, List.getElem?_cons_zero, List.getElem?_cons_succ, @if_true, @if_false, ↓reduceIte, reduceCtorEq, Bool.false_eq_true, beq_self_eq_true, repL, Nat.reduceMul, Nat.reduceLeDiff, Nat.zero_le, Nat.zero_mul, Nat.reduceAdd, Int.reduceEq, Int.reduceLT, Int.reduceLE, Nat.zero_add, Nat.add_zero, h1]) (by simp (maxSteps := 1000000) (disch := first | decide | omega | (simp only [next_push, next_set] <;> omega) | fail) only [↓SB, ↓SO, SM, ↓SD, ↓SL, ST, List.getElem?_cons_zero, List.getElem?_cons_succ, @if_true, @if_false, ↓reduceIte, reduceCtorEq, Bool.false_eq_true, beq_self_eq_true, repL, Nat.reduceMul, Nat.reduceLeDiff, Nat.zero_le, Nat.zero_mul, Nat.reduceAdd, Int.reduceEq, Int.reduceLT, Int.reduceLE, Nat.zero_add, Nat.add_zero, h3, ht]) (by rw [← ht]; omega) hg hfr hn0 (by omega)

def numPay (x : Pay) : List Int := [x.k, x.t, x.f, x.a]

include hT hf in
theorem scPay_run {n n0 N : Nat} {H : Heap} {c : Scr} {s0 : Sg} {a b d pv g : AVal} (hv0 : Is H pv c.py) (hB : H.next ≤ n0) (hlen : c.py.length ≤ 12) (hN : N + 100 ≤ 32768) (hs0 : s0.n ≤ 1000000) {Q : AExit × ASt → Prop} {k : Nat} {e0 : Env} {H0 : Heap} (hk : c.py.length < fuel)
    (k1 : xt 3 1 e0 = .ptr n0 0) (k3 : xt 3 3 e0 = sgV s0) (kx : xt 3 10 e0 = i64 (0 : Nat)) (kg : H0.get n0 = some (.cells 28 [i64 c.f, i64 c.u, a, b, d, pv, g] false 0 false)) (kf : Fr H.next (fun _ => False) H H0) (kn : n0 < H0.next) (kN : H0.next ≤ N)
    (h : ∀ e H1, xt 3 1 e = .ptr n0 0 → xt 3 3 e = sgV (stepS numPay s0 c.py) → (stepS numPay s0 c.py).n ≤ s0.n + 2400 → H1.get n0 = some (.cells 28 [i64 c.f, i64 c.u, a, b, d, pv, g] false 0 false) → Fr H.next (fun _ => False) H H1 → n0 < H1.next → H1.next ≤ N + 24 → Q (.exit 6, ⟨e, [], H1⟩)) :
    Wp ((cLoop fuel (cSeq (cSeq r19_21 (cIf (xt 3 130) cSkip (cExit 6))) (cSeq (cBlk 7 (cSeq r19_23 r19_24)) r19_22))).val (R T fuel (n + 3)) ⟨e0, [], H0⟩) Q := by
  refine wp_loop (fun k s => ∃ e H1 i t, s = ⟨e, [], H1⟩ ∧ i + k = c.py.length ∧ xt 3 1 e = .ptr n0 0 ∧ xt 3 3 e = sgV t ∧ xt 3 10 e = i64 i ∧ t = stepS numPay s0 (c.py.take i) ∧ t.n ≤ s0.n + 200 * i ∧ H1.get n0 = some (.cells 28 [i64 c.f, i64 c.u, a, b, d, pv, g] false 0 false) ∧
    Fr H.next (fun _ => False) H H1 ∧ n0 < H1.next ∧ H1.next ≤ N + 2 * i) ?_ hk ⟨e0, H0, 0, s0, rfl, by omega, k1, k3, kx, rfl, by omega, kg, kf, kn, by omega⟩
  rintro k s ⟨e, H1, i, t, rfl, hi, h1, h3, hx, ht, htn, hg, hfr, hn0, hn⟩
  unfold r19_21 r19_23 r19_24 r19_22
  have hle := hfr.le
  have hv1 : Is H1 pv c.py := hfr.is hv0 fun j hj => ⟨hv0.lo j hj, fun x => x⟩
  have l1 := hv1.length su25
  by_cases hil : i < c.py.length
  · have hil' : (i : Int) < (c.py.length : Int) := by omega
    obtain ⟨q, o, r, l, ha, hid, hq, hgq, hr, hb, htk⟩ := hv1.get su25 sz45 .i64 hil
    have hst := stepS_at (num := numPay) (s := s0) hil
    generalize c.py[i] = p at *
    rw [ce_pay] at htk
    simp only [El.sz] at hb htk
    simp (maxSteps := 1000000) (disch := first | decide | omega | (simp only [next_push, next_set] <;> omega) | fail) only [↓SB, ↓SO, SM, ↓SD, ↓SL, ST, List.getElem?_cons_zero, List.getElem?_cons_succ, @if_true, @if_false, ↓reduceIte, reduceCtorEq, Bool.false_eq_true, beq_self_eq_true, repL, Nat.reduceMul, Nat.reduceLeDiff, Nat.zero_le, Nat.zero_mul, Nat.reduceAdd, Int.reduceEq, Int.reduceLT, Int.reduceLE, Nat.zero_add, Nat.add_zero, h1, h3, hx, hg, l1, hil', ha, hgq, hr, hb, htk]
    refine num_run hT hf (xs := numPay p) (is_built (get_push_same _ _ (by simp only [next_push, next_set])) rfl rfl (by simp only [next_push, next_set]; omega)) (by show 4 ≤ 100; decide) _ ?_
    intro hnl
    have hnl' : (numS (numPay p)).n ≤ 23 * 4 := hnl
    have c1 : aBin P .add 9 false (sgV t) (sgV (numS (numPay p))) = some (sgV (cat t (numS (numPay p)))) := bin_cat 9 false (by omega)
    simp (maxSteps := 1000000) (disch := first | decide | omega | (simp only [next_push, next_set] <;> omega) | fail) only [↓SB, ↓SO, SM, ↓SD, ↓SL, ST, List.getElem?_cons_zero, List.getElem?_cons_succ, @if_true, @if_false, ↓reduceIte, reduceCtorEq, Bool.false_eq_true, beq_self_eq_true, repL, Nat.reduceMul, Nat.reduceLeDiff, Nat.zero_le, Nat.zero_mul, Nat.reduceAdd, Int.reduceEq, Int.reduceLT, Int.reduceLE, Nat.zero_add, Nat.add_zero, c1, hx]
    refine ⟨k - 1, by omega, _, _, i + 1, cat t (numS (numPay p)), rfl, by omega, by simp (maxSteps := 1000000) (disch := first | decide | omega | (simp only [next_push, next_set] <;> omega) | fail) only [↓SB, ↓SO, SM, ↓SD, ↓SL, ST, List.getElem?_cons_zero, List.getElem?_cons_succ, @if_true, @if_false, ↓reduceIte, reduceCtorEq, Bool.false_eq_true, beq_self_eq_true, repL, Nat.reduceMul, Nat.reduceLeDiff, Nat.zero_le, Nat.zero_mul, Nat.reduceAdd, Int.reduceEq, Int.reduceLT, Int.reduceLE, Nat.zero_add, Nat.add_zero, h1], by simp (maxSteps := 1000000) (disch := first | decide | omega | (simp only [next_push, next_set] <;> omega) | fail) only [↓SB, ↓SO, SM, ↓SD, ↓SL, ST, List.getElem?_cons_zero, List.getElem?_cons_succ, @if_true, @if_false, ↓reduceIte, reduceCtorEq, Bool.false_eq_true, beq_self_eq_true, repL, Nat.reduceMul, Nat.reduceLeDiff, Nat.zero_le, Nat.zero_mul, Nat.reduceAdd, Int.reduceEq, Int.reduceLT, Int.reduceLE, Nat.zero_add, Nat.add_zero, ], by simp (maxSteps := 1000000) (disch := first | decide | omega | (simp only [next_push, next_set] <;> omega) | fail) only [↓SB, ↓SO, SM, ↓SD, ↓SL, ST, List.getElem?_cons_zero, List.getElem?_cons_succ, @if_true, @if_false, ↓reduceIte, reduceCtorEq, Bool.false_eq_true, beq_self_eq_true, repL, Nat.reduceMul, Nat.reduceLeDiff, Nat.zero_le, Nat.zero_mul, Nat.reduceAdd, Int.reduceEq, Int.reduceLT, Int.reduceLE, Nat.zero_add, Nat.add_zero, ]; rfl, by rw [hst, ← ht], by show t.n + _ ≤ _; omega, ?_, hfr.on hle (by repeat (first | exact Fr.refl _ _ _ | refine Fr.push ?_ (by first | omega | (simp only [next_push, next_set] <;> omega)) (by first | omega | (simp only [next_push, next_set] <;> omega)) _ | refine Fr.set ?_ (.inl (by first | omega | (simp only [next_push, next_set] <;> omega))) (by first | omega | (simp only [next_push, next_set] <;> omega)) (by first | omega | (simp only [next_push, next_set] <;> omega)) _)), by simp only [next_push, next_set]; omega, by simp only [next_push, next_set]; omega⟩
    simp (maxSteps := 1000000) (disch := first | decide | omega | (simp only [next_push, next_set] <;> omega) | fail) only [↓SB, ↓SO, SM, ↓SD, ↓SL, ST, List.getElem?_cons_zero, List.getElem?_cons_succ, @if_true, @if_false, ↓reduceIte, reduceCtorEq, Bool.false_eq_true, beq_self_eq_true, repL, Nat.reduceMul, Nat.reduceLeDiff, Nat.zero_le, Nat.zero_mul, Nat.reduceAdd, Int.reduceEq, Int.reduceLT, Int.reduceLE, Nat.zero_add, Nat.add_zero, hg]
  · have hil' : ¬ (i : Int) < (c.py.length : Int) := by omega
    simp (maxSteps := 1000000) (disch := first | decide | omega | (simp only [next_push, next_set] <;> omega) | fail) only [↓SB, ↓SO, SM, ↓SD, ↓SL, ST, List.getElem?_cons_zero, List.getElem?_cons_succ, @if_true, @if_false, ↓reduceIte, reduceCtorEq, Bool.false_eq_true, beq_self_eq_true, repL, Nat.reduceMul, Nat.reduceLeDiff, Nat.zero_le, Nat.zero_mul, Nat.reduceAdd, Int.reduceEq, Int.reduceLT, Int.reduceLE, Nat.zero_add, Nat.add_zero, h1, h3, hx, hg, l1, hil']
    rw [List.take_of_length_le (by omega)] at ht
    exact h _ _ (by simp (maxSteps := 1000000) (disch := first | decide | omega | (simp only [next_push, next_set] <;> omega) | fail) only [↓SB, ↓SO, SM, ↓SD, ↓SL, ST, List.getElem?_cons_zero, List.getElem?_cons_succ, @if_true, @if_false, ↓reduceIte, reduceCtorEq, Bool.false_eq_true, beq_self_eq_true, repL, Nat.reduceMul, Nat.reduceLeDiff, Nat.zero_le, Nat.zero_mul, Nat.reduceAdd, Int.reduceEq, Int.reduceLT, Int.reduceLE, Nat.zero_add, Nat.add_zero, h1]) (by simp (maxSteps := 1000000) (disch := first | decide | omega | (simp only [next_push, next_set] <;> omega) | fail) only [↓SB, ↓SO, SM, ↓SD, ↓SL, ST, List.getElem?_cons_zero, List.getElem?_cons_succ, @if_true, @if_false, ↓reduceIte, reduceCtorEq, Bool.false_eq_true, beq_self_eq_true, repL, Nat.reduceMul, Nat.reduceLeDiff, Nat.zero_le, Nat.zero_mul, Nat.reduceAdd, Int.reduceEq, Int.reduceLT, Int.reduceLE, Nat.zero_add, Nat.add_zero, h3, ht]) (by rw [← ht]; omega) hg hfr hn0 (by omega)

def numFrn (x : Frn) : List Int := [x.a, x.b, x.c, x.d, x.e, x.r]

include hT hf in
theorem scFrn_run {n n0 N : Nat} {H : Heap} {c : Scr} {s0 : Sg} {a b d pv g : AVal} (hv0 : Is H g c.fr) (hB : H.next ≤ n0) (hlen : c.fr.length ≤ 12) (hN : N + 100 ≤ 32768) (hs0 : s0.n ≤ 1000000) {Q : AExit × ASt → Prop} {k : Nat} {e0 : Env} {H0 : Heap} (hk : c.fr.length < fuel)
    (k1 : xt 3 1 e0 = .ptr n0 0) (k3 : xt 3 3 e0 = sgV s0) (kx : xt 3 12 e0 = i64 (0 : Nat)) (kg : H0.get n0 = some (.cells 28 [i64 c.f, i64 c.u, a, b, d, pv, g] false 0 false)) (kf : Fr H.next (fun _ => False) H H0) (kn : n0 < H0.next) (kN : H0.next ≤ N)
    (h : ∀ e H1, xt 3 1 e = .ptr n0 0 → xt 3 3 e = sgV (stepS numFrn s0 c.fr) → (stepS numFrn s0 c.fr).n ≤ s0.n + 2400 → H1.get n0 = some (.cells 28 [i64 c.f, i64 c.u, a, b, d, pv, g] false 0 false) → Fr H.next (fun _ => False) H H1 → n0 < H1.next → H1.next ≤ N + 24 → Q (.exit 8, ⟨e, [], H1⟩)) :
    Wp ((cLoop fuel (cSeq (cSeq r19_27 (cIf (xt 3 161) cSkip (cExit 8))) (cSeq (cBlk 9 (cSeq r19_29 r19_30)) r19_28))).val (R T fuel (n + 3)) ⟨e0, [], H0⟩) Q := by
  refine wp_loop (fun k s => ∃ e H1 i t, s = ⟨e, [], H1⟩ ∧ i + k = c.fr.length ∧ xt 3 1 e = .ptr n0 0 ∧ xt 3 3 e = sgV t ∧ xt 3 12 e = i64 i ∧ t = stepS numFrn s0 (c.fr.take i) ∧ t.n ≤ s0.n + 200 * i ∧ H1.get n0 = some (.cells 28 [i64 c.f, i64 c.u, a, b, d, pv, g] false 0 false) ∧
    Fr H.next (fun _ => False) H H1 ∧ n0 < H1.next ∧ H1.next ≤ N + 2 * i) ?_ hk ⟨e0, H0, 0, s0, rfl, by omega, k1, k3, kx, rfl, by omega, kg, kf, kn, by omega⟩
  rintro k s ⟨e, H1, i, t, rfl, hi, h1, h3, hx, ht, htn, hg, hfr, hn0, hn⟩
  unfold r19_27 r19_29 r19_30 r19_28
  have hle := hfr.le
  have hv1 : Is H1 g c.fr := hfr.is hv0 fun j hj => ⟨hv0.lo j hj, fun x => x⟩
  have l1 := hv1.length su26
  by_cases hil : i < c.fr.length
  · have hil' : (i : Int) < (c.fr.length : Int) := by omega
    obtain ⟨q, o, r, l, ha, hid, hq, hgq, hr, hb, htk⟩ := hv1.get su26 sz86 .i64 hil
    have hst := stepS_at (num := numFrn) (s := s0) hil
    generalize c.fr[i] = p at *
    rw [ce_frn] at htk
    simp only [El.sz] at hb htk
    simp (maxSteps := 1000000) (disch := first | decide | omega | (simp only [next_push, next_set] <;> omega) | fail) only [↓SB, ↓SO, SM, ↓SD, ↓SL, ST, List.getElem?_cons_zero, List.getElem?_cons_succ, @if_true, @if_false, ↓reduceIte, reduceCtorEq, Bool.false_eq_true, beq_self_eq_true, repL, Nat.reduceMul, Nat.reduceLeDiff, Nat.zero_le, Nat.zero_mul, Nat.reduceAdd, Int.reduceEq, Int.reduceLT, Int.reduceLE, Nat.zero_add, Nat.add_zero, h1, h3, hx, hg, l1, hil', ha, hgq, hr, hb, htk]
    refine num_run hT hf (xs := numFrn p) (is_built (get_push_same _ _ (by simp only [next_push, next_set])) rfl rfl (by simp only [next_push, next_set]; omega)) (by show 6 ≤ 100; decide) _ ?_
    intro hnl
    have hnl' : (numS (numFrn p)).n ≤ 23 * 6 := hnl
    have c1 : aBin P .add 9 false (sgV t) (sgV (numS (numFrn p))) = some (sgV (cat t (numS (numFrn p)))) := bin_cat 9 false (by omega)
    simp (maxSteps := 1000000) (disch := first | decide | omega | (simp only [next_push, next_set] <;> omega) | fail) only [↓SB, ↓SO, SM, ↓SD, ↓SL, ST, List.getElem?_cons_zero, List.getElem?_cons_succ, @if_true, @if_false, ↓reduceIte, reduceCtorEq, Bool.false_eq_true, beq_self_eq_true, repL, Nat.reduceMul, Nat.reduceLeDiff, Nat.zero_le, Nat.zero_mul, Nat.reduceAdd, Int.reduceEq, Int.reduceLT, Int.reduceLE, Nat.zero_add, Nat.add_zero, c1, hx]
    refine ⟨k - 1, by omega, _, _, i + 1, cat t (numS (numFrn p)), rfl, by omega, by simp (maxSteps := 1000000) (disch := first | decide | omega | (simp only [next_push, next_set] <;> omega) | fail) only [↓SB, ↓SO, SM, ↓SD, ↓SL, ST, List.getElem?_cons_zero, List.getElem?_cons_succ, @if_true, @if_false, ↓reduceIte, reduceCtorEq, Bool.false_eq_true, beq_self_eq_true, repL, Nat.reduceMul, Nat.reduceLeDiff, Nat.zero_le, Nat.zero_mul, Nat.reduceAdd, Int.reduceEq, Int.reduceLT, Int.reduceLE, Nat.zero_add, Nat.add_zero, h1], by simp (maxSteps := 1000000) (disch := first | decide | omega | (simp only [next_push, next_set] <;> omega) | fail) only [↓SB, ↓SO, SM, ↓SD, ↓SL, ST, List.getElem?_cons_zero, List.getElem?_cons_succ, @if_true, @if_false, ↓reduceIte, reduceCtorEq, Bool.false_eq_true, beq_self_eq_true, repL, Nat.reduceMul, Nat.reduceLeDiff, Nat.zero_le, Nat.zero_mul, Nat.reduceAdd, Int.reduceEq, Int.reduceLT, Int.reduceLE, Nat.zero_add, Nat.add_zero, ], by simp (maxSteps := 1000000) (disch := first | decide | omega | (simp only [next_push, next_set] <;> omega) | fail) only [↓SB, ↓SO, SM, ↓SD, ↓SL, ST, List.getElem?_cons_zero, List.getElem?_cons_succ, @if_true, @if_false, ↓reduceIte, reduceCtorEq, Bool.false_eq_true, beq_self_eq_true, repL, Nat.reduceMul, Nat.reduceLeDiff, Nat.zero_le, Nat.zero_mul, Nat.reduceAdd, Int.reduceEq, Int.reduceLT, Int.reduceLE, Nat.zero_add, Nat.add_zero, ]; rfl, by rw [hst, ← ht], by show t.n + _ ≤ _; omega, ?_, hfr.on hle (by repeat (first | exact Fr.refl _ _ _ | refine Fr.push ?_ (by first | omega | (simp only [next_push, next_set] <;> omega)) (by first | omega | (simp only [next_push, next_set] <;> omega)) _ | refine Fr.set ?_ (.inl (by first | omega | (simp only [next_push, next_set] <;> omega))) (by first | omega | (simp only [next_push, next_set] <;> omega)) (by first | omega | (simp only [next_push, next_set] <;> omega)) _)), by simp only [next_push, next_set]; omega, by simp only [next_push, next_set]; omega⟩
    simp (maxSteps := 1000000) (disch := first | decide | omega | (simp only [next_push, next_set] <;> omega) | fail) only [↓SB, ↓SO, SM, ↓SD, ↓SL, ST, List.getElem?_cons_zero, List.getElem?_cons_succ, @if_true, @if_false, ↓reduceIte, reduceCtorEq, Bool.false_eq_true, beq_self_eq_true, repL, Nat.reduceMul, Nat.reduceLeDiff, Nat.zero_le, Nat.zero_mul, Nat.reduceAdd, Int.reduceEq, Int.reduceLT, Int.reduceLE, Nat.zero_add, Nat.add_zero, hg]
  · have hil' : ¬ (i : Int) < (c.fr.length : Int) := by omega
    simp (maxSteps := 1000000) (disch := first | decide | omega | (simp only [next_push, next_set] <;> omega) | fail) only [↓SB, ↓SO, SM, ↓SD, ↓SL, ST, List.getElem?_cons_zero, List.getElem?_cons_succ, @if_true, @if_false, ↓reduceIte, reduceCtorEq, Bool.false_eq_true, beq_self_eq_true, repL, Nat.reduceMul, Nat.reduceLeDiff, Nat.zero_le, Nat.zero_mul, Nat.reduceAdd, Int.reduceEq, Int.reduceLT, Int.reduceLE, Nat.zero_add, Nat.add_zero, h1, h3, hx, hg, l1, hil']
    rw [List.take_of_length_le (by omega)] at ht
    exact h _ _ (by simp (maxSteps := 1000000) (disch := first | decide | omega | (simp only [next_push, next_set] <;> omega) | fail) only [↓SB, ↓SO, SM, ↓SD, ↓SL, ST, List.getElem?_cons_zero, List.getElem?_cons_succ, @if_true, @if_false, ↓reduceIte, reduceCtorEq, Bool.false_eq_true, beq_self_eq_true, repL, Nat.reduceMul, Nat.reduceLeDiff, Nat.zero_le, Nat.zero_mul, Nat.reduceAdd, Int.reduceEq, Int.reduceLT, Int.reduceLE, Nat.zero_add, Nat.add_zero, h1]) (by simp (maxSteps := 1000000) (disch := first | decide | omega | (simp only [next_push, next_set] <;> omega) | fail) only [↓SB, ↓SO, SM, ↓SD, ↓SL, ST, List.getElem?_cons_zero, List.getElem?_cons_succ, @if_true, @if_false, ↓reduceIte, reduceCtorEq, Bool.false_eq_true, beq_self_eq_true, repL, Nat.reduceMul, Nat.reduceLeDiff, Nat.zero_le, Nat.zero_mul, Nat.reduceAdd, Int.reduceEq, Int.reduceLT, Int.reduceLE, Nat.zero_add, Nat.add_zero, h3, ht]) (by rw [← ht]; omega) hg hfr hn0 (by omega)

/-- A script's string. -/
def scrS (c : Scr) : Sg :=
  stepS numFrn (cat (stepS numPay (cat (stepS numDfc (cat (stepS numOvr (cat (stepS numSpl (numS [c.f, c.u, c.sp.length]) c.sp) (numS [(c.ov.length : Int)])) c.ov) (numS [(c.df.length : Int)])) c.df) (numS [(c.py.length : Int)])) c.py) (numS [(c.fr.length : Int)])) c.fr

end
end Go.Proofs.YtbokoinmlbipmaaGreatDoor.Ev.Sy

-- Wv
namespace Go.Proofs.YtbokoinmlbipmaaGreatDoor.Ev.Sy
open Go Go.Proofs.YtbokoinmlbipmaaGreatDoor.Ev Go.Proofs
noncomputable section
set_option linter.unusedSimpArgs false
set_option linter.unusedVariables false
set_option linter.unusedSectionVars false
set_option maxRecDepth 100000
set_option maxHeartbeats 1000000

variable {T : Table} (hT : ∀ f, f ≠ 6 → (T.find f).val = []) {fuel : Nat} (hf : 1000 ≤ fuel)

include hT hf in
theorem script_run {n : Nat} {H : Heap} {c : Scr} {a b d pv g : AVal} (hc : ScIs H a b d pv g c) (hfw : FewP c) (hl : H.next + 500 ≤ 32768) (Q : AVal × Heap → Prop)
    (h : (scrS c).n ≤ 100000 → ∀ H', Fr H.next (fun _ => False) H H' → H'.next ≤ H.next + 130 → Q (sgV (scrS c), H')) : Wp ((R T fuel (n + 4)).func 19 [scV c a b d pv g] H) Q := by
  refine call_eq hT (by decide) (fn19 fuel) _ _ (wp_fBody (Nat.le_of_ble_eq_true rfl) ?_)
  have l1 := hc.sp.length su22
  have l2 := hc.ov.length su23
  have l3 := hc.df.length su24
  have l4 := hc.py.length su25
  have l5 := hc.fr.length su26
  have w1 := hfw.sp
  have w2 := hfw.ov
  have w3 := hfw.df
  have w4 := hfw.py
  have w5 := hfw.fr
  unfold c19 r19_0 r19_1 r19_2 r19_7 r19_8 r19_13 r19_14 r19_19 r19_20 r19_25 r19_26 r19_31
  simp (maxSteps := 1000000) (disch := first | decide | omega | (simp only [next_push, next_set] <;> omega) | fail) only [↓SB, ↓SO, SM, ↓SD, ↓SL, ST, List.getElem?_cons_zero, List.getElem?_cons_succ, @if_true, @if_false, ↓reduceIte, reduceCtorEq, Bool.false_eq_true, beq_self_eq_true, repL, Nat.reduceMul, Nat.reduceLeDiff, Nat.zero_le, Nat.zero_mul, Nat.reduceAdd, Int.reduceEq, Int.reduceLT, Int.reduceLE, Nat.zero_add, Nat.add_zero, l1]
  refine num_run hT hf (xs := [c.f, c.u, (c.sp.length : Int)]) (is_built (get_push_same _ _ (by simp only [next_push, next_set])) rfl rfl (by simp only [next_push, next_set]; omega)) (by show 3 ≤ 100; decide) _ ?_
  intro hz0
  have hz0 : (numS [c.f, c.u, (c.sp.length : Int)]).n ≤ 69 := hz0
  simp (maxSteps := 1000000) (disch := first | decide | omega | (simp only [next_push, next_set] <;> omega) | fail) only [↓SB, ↓SO, SM, ↓SD, ↓SL, ST, List.getElem?_cons_zero, List.getElem?_cons_succ, @if_true, @if_false, ↓reduceIte, reduceCtorEq, Bool.false_eq_true, beq_self_eq_true, repL, Nat.reduceMul, Nat.reduceLeDiff, Nat.zero_le, Nat.zero_mul, Nat.reduceAdd, Int.reduceEq, Int.reduceLT, Int.reduceLE, Nat.zero_add, Nat.add_zero, ]
  refine scSpl_run hT hf (n := n) (n0 := H.next) (N := H.next + 2) (H := H) (s0 := numS [c.f, c.u, (c.sp.length : Int)]) (k := 0) (c := c) (a := a) (b := b) (d := d) (pv := pv) (g := g) hc.sp (Nat.le_refl _) (by omega) (by omega) (by omega) (by omega) (by simp (maxSteps := 1000000) (disch := first | decide | omega | (simp only [next_push, next_set] <;> omega) | fail) only [↓SB, ↓SO, SM, ↓SD, ↓SL, ST, List.getElem?_cons_zero, List.getElem?_cons_succ, @if_true, @if_false, ↓reduceIte, reduceCtorEq, Bool.false_eq_true, beq_self_eq_true, repL, Nat.reduceMul, Nat.reduceLeDiff, Nat.zero_le, Nat.zero_mul, Nat.reduceAdd, Int.reduceEq, Int.reduceLT, Int.reduceLE, Nat.zero_add, Nat.add_zero, ]) (by simp (maxSteps := 1000000) (disch := first | decide | omega | (simp only [next_push, next_set] <;> omega) | fail) only [↓SB, ↓SO, SM, ↓SD, ↓SL, ST, List.getElem?_cons_zero, List.getElem?_cons_succ, @if_true, @if_false, ↓reduceIte, reduceCtorEq, Bool.false_eq_true, beq_self_eq_true, repL, Nat.reduceMul, Nat.reduceLeDiff, Nat.zero_le, Nat.zero_mul, Nat.reduceAdd, Int.reduceEq, Int.reduceLT, Int.reduceLE, Nat.zero_add, Nat.add_zero, ]) (by simp (maxSteps := 1000000) (disch := first | decide | omega | (simp only [next_push, next_set] <;> omega) | fail) only [↓SB, ↓SO, SM, ↓SD, ↓SL, ST, List.getElem?_cons_zero, List.getElem?_cons_succ, @if_true, @if_false, ↓reduceIte, reduceCtorEq, Bool.false_eq_true, beq_self_eq_true, repL, Nat.reduceMul, Nat.reduceLeDiff, Nat.zero_le, Nat.zero_mul, Nat.reduceAdd, Int.reduceEq, Int.reduceLT, Int.reduceLE, Nat.zero_add, Nat.add_zero, ]; rfl) (by simp (maxSteps := 1000000) (disch := first | decide | omega | (simp only [next_push, next_set] <;> omega) | fail) only [↓SB, ↓SO, SM, ↓SD, ↓SL, ST, List.getElem?_cons_zero, List.getElem?_cons_succ, @if_true, @if_false, ↓reduceIte, reduceCtorEq, Bool.false_eq_true, beq_self_eq_true, repL, Nat.reduceMul, Nat.reduceLeDiff, Nat.zero_le, Nat.zero_mul, Nat.reduceAdd, Int.reduceEq, Int.reduceLT, Int.reduceLE, Nat.zero_add, Nat.add_zero, ]) (by repeat (first | exact Fr.refl _ _ _ | refine Fr.push ?_ (by first | omega | (simp only [next_push, next_set] <;> omega)) (by first | omega | (simp only [next_push, next_set] <;> omega)) _ | refine Fr.set ?_ (.inl (by first | omega | (simp only [next_push, next_set] <;> omega))) (by first | omega | (simp only [next_push, next_set] <;> omega)) (by first | omega | (simp only [next_push, next_set] <;> omega)) _)) (by simp only [next_push]; omega) (by simp only [next_push]; omega) ?_
  intro e1 H1 j1 j3 jn jg jf jl jN
  generalize hs1 : stepS numSpl (numS [c.f, c.u, (c.sp.length : Int)]) c.sp = s1 at *
  simp (maxSteps := 1000000) (disch := first | decide | omega | (simp only [next_push, next_set] <;> omega) | fail) only [↓SB, ↓SO, SM, ↓SD, ↓SL, ST, List.getElem?_cons_zero, List.getElem?_cons_succ, @if_true, @if_false, ↓reduceIte, reduceCtorEq, Bool.false_eq_true, beq_self_eq_true, repL, Nat.reduceMul, Nat.reduceLeDiff, Nat.zero_le, Nat.zero_mul, Nat.reduceAdd, Int.reduceEq, Int.reduceLT, Int.reduceLE, Nat.zero_add, Nat.add_zero, j1, j3, jg, l2]
  refine num_run hT hf (xs := [(c.ov.length : Int)]) (is_built (get_push_same _ _ (by simp only [next_push, next_set])) rfl rfl (by simp only [next_push, next_set]; omega)) (by show 1 ≤ 100; decide) _ ?_
  intro hz2
  have hz2 : (numS [(c.ov.length : Int)]).n ≤ 23 := hz2
  have c2 : aBin P .add 9 false (sgV s1) (sgV (numS [(c.ov.length : Int)])) = some (sgV (cat s1 (numS [(c.ov.length : Int)]))) := bin_cat 9 false (by omega)
  have ct2 : (cat s1 (numS [(c.ov.length : Int)])).n = s1.n + (numS [(c.ov.length : Int)]).n := rfl
  simp (maxSteps := 1000000) (disch := first | decide | omega | (simp only [next_push, next_set] <;> omega) | fail) only [↓SB, ↓SO, SM, ↓SD, ↓SL, ST, List.getElem?_cons_zero, List.getElem?_cons_succ, @if_true, @if_false, ↓reduceIte, reduceCtorEq, Bool.false_eq_true, beq_self_eq_true, repL, Nat.reduceMul, Nat.reduceLeDiff, Nat.zero_le, Nat.zero_mul, Nat.reduceAdd, Int.reduceEq, Int.reduceLT, Int.reduceLE, Nat.zero_add, Nat.add_zero, j1, j3, c2]
  refine scOvr_run hT hf (n := n) (n0 := H.next) (N := H.next + 27) (H := H) (s0 := cat s1 (numS [(c.ov.length : Int)])) (k := 0) (c := c) (a := a) (b := b) (d := d) (pv := pv) (g := g) hc.ov (Nat.le_refl _) (by omega) (by omega) (by omega) (by omega) (by simp (maxSteps := 1000000) (disch := first | decide | omega | (simp only [next_push, next_set] <;> omega) | fail) only [↓SB, ↓SO, SM, ↓SD, ↓SL, ST, List.getElem?_cons_zero, List.getElem?_cons_succ, @if_true, @if_false, ↓reduceIte, reduceCtorEq, Bool.false_eq_true, beq_self_eq_true, repL, Nat.reduceMul, Nat.reduceLeDiff, Nat.zero_le, Nat.zero_mul, Nat.reduceAdd, Int.reduceEq, Int.reduceLT, Int.reduceLE, Nat.zero_add, Nat.add_zero, j1]) (by simp (maxSteps := 1000000) (disch := first | decide | omega | (simp only [next_push, next_set] <;> omega) | fail) only [↓SB, ↓SO, SM, ↓SD, ↓SL, ST, List.getElem?_cons_zero, List.getElem?_cons_succ, @if_true, @if_false, ↓reduceIte, reduceCtorEq, Bool.false_eq_true, beq_self_eq_true, repL, Nat.reduceMul, Nat.reduceLeDiff, Nat.zero_le, Nat.zero_mul, Nat.reduceAdd, Int.reduceEq, Int.reduceLT, Int.reduceLE, Nat.zero_add, Nat.add_zero, ]) (by simp (maxSteps := 1000000) (disch := first | decide | omega | (simp only [next_push, next_set] <;> omega) | fail) only [↓SB, ↓SO, SM, ↓SD, ↓SL, ST, List.getElem?_cons_zero, List.getElem?_cons_succ, @if_true, @if_false, ↓reduceIte, reduceCtorEq, Bool.false_eq_true, beq_self_eq_true, repL, Nat.reduceMul, Nat.reduceLeDiff, Nat.zero_le, Nat.zero_mul, Nat.reduceAdd, Int.reduceEq, Int.reduceLT, Int.reduceLE, Nat.zero_add, Nat.add_zero, ]; rfl) (by simp (maxSteps := 1000000) (disch := first | decide | omega | (simp only [next_push, next_set] <;> omega) | fail) only [↓SB, ↓SO, SM, ↓SD, ↓SL, ST, List.getElem?_cons_zero, List.getElem?_cons_succ, @if_true, @if_false, ↓reduceIte, reduceCtorEq, Bool.false_eq_true, beq_self_eq_true, repL, Nat.reduceMul, Nat.reduceLeDiff, Nat.zero_le, Nat.zero_mul, Nat.reduceAdd, Int.reduceEq, Int.reduceLT, Int.reduceLE, Nat.zero_add, Nat.add_zero, jg]) (jf.on (by omega) (by repeat (first | exact Fr.refl _ _ _ | refine Fr.push ?_ (by first | omega | (simp only [next_push, next_set] <;> omega)) (by first | omega | (simp only [next_push, next_set] <;> omega)) _ | refine Fr.set ?_ (.inl (by first | omega | (simp only [next_push, next_set] <;> omega))) (by first | omega | (simp only [next_push, next_set] <;> omega)) (by first | omega | (simp only [next_push, next_set] <;> omega)) _))) (by simp only [next_push]; omega) (by simp only [next_push]; omega) ?_
  clear j1 j3 jg jf jl jN
  intro e2 H2 j1 j3 jn2 jg jf jl jN
  generalize hs2 : stepS numOvr (cat s1 (numS [(c.ov.length : Int)])) c.ov = s2 at *
  simp (maxSteps := 1000000) (disch := first | decide | omega | (simp only [next_push, next_set] <;> omega) | fail) only [↓SB, ↓SO, SM, ↓SD, ↓SL, ST, List.getElem?_cons_zero, List.getElem?_cons_succ, @if_true, @if_false, ↓reduceIte, reduceCtorEq, Bool.false_eq_true, beq_self_eq_true, repL, Nat.reduceMul, Nat.reduceLeDiff, Nat.zero_le, Nat.zero_mul, Nat.reduceAdd, Int.reduceEq, Int.reduceLT, Int.reduceLE, Nat.zero_add, Nat.add_zero, j1, j3, jg, l3]
  refine num_run hT hf (xs := [(c.df.length : Int)]) (is_built (get_push_same _ _ (by simp only [next_push, next_set])) rfl rfl (by simp only [next_push, next_set]; omega)) (by show 1 ≤ 100; decide) _ ?_
  intro hz3
  have hz3 : (numS [(c.df.length : Int)]).n ≤ 23 := hz3
  have c3 : aBin P .add 9 false (sgV s2) (sgV (numS [(c.df.length : Int)])) = some (sgV (cat s2 (numS [(c.df.length : Int)]))) := bin_cat 9 false (by omega)
  have ct3 : (cat s2 (numS [(c.df.length : Int)])).n = s2.n + (numS [(c.df.length : Int)]).n := rfl
  simp (maxSteps := 1000000) (disch := first | decide | omega | (simp only [next_push, next_set] <;> omega) | fail) only [↓SB, ↓SO, SM, ↓SD, ↓SL, ST, List.getElem?_cons_zero, List.getElem?_cons_succ, @if_true, @if_false, ↓reduceIte, reduceCtorEq, Bool.false_eq_true, beq_self_eq_true, repL, Nat.reduceMul, Nat.reduceLeDiff, Nat.zero_le, Nat.zero_mul, Nat.reduceAdd, Int.reduceEq, Int.reduceLT, Int.reduceLE, Nat.zero_add, Nat.add_zero, j1, j3, c3]
  refine scDfc_run hT hf (n := n) (n0 := H.next) (N := H.next + 52) (H := H) (s0 := cat s2 (numS [(c.df.length : Int)])) (k := 0) (c := c) (a := a) (b := b) (d := d) (pv := pv) (g := g) hc.df (Nat.le_refl _) (by omega) (by omega) (by omega) (by omega) (by simp (maxSteps := 1000000) (disch := first | decide | omega | (simp only [next_push, next_set] <;> omega) | fail) only [↓SB, ↓SO, SM, ↓SD, ↓SL, ST, List.getElem?_cons_zero, List.getElem?_cons_succ, @if_true, @if_false, ↓reduceIte, reduceCtorEq, Bool.false_eq_true, beq_self_eq_true, repL, Nat.reduceMul, Nat.reduceLeDiff, Nat.zero_le, Nat.zero_mul, Nat.reduceAdd, Int.reduceEq, Int.reduceLT, Int.reduceLE, Nat.zero_add, Nat.add_zero, j1]) (by simp (maxSteps := 1000000) (disch := first | decide | omega | (simp only [next_push, next_set] <;> omega) | fail) only [↓SB, ↓SO, SM, ↓SD, ↓SL, ST, List.getElem?_cons_zero, List.getElem?_cons_succ, @if_true, @if_false, ↓reduceIte, reduceCtorEq, Bool.false_eq_true, beq_self_eq_true, repL, Nat.reduceMul, Nat.reduceLeDiff, Nat.zero_le, Nat.zero_mul, Nat.reduceAdd, Int.reduceEq, Int.reduceLT, Int.reduceLE, Nat.zero_add, Nat.add_zero, ]) (by simp (maxSteps := 1000000) (disch := first | decide | omega | (simp only [next_push, next_set] <;> omega) | fail) only [↓SB, ↓SO, SM, ↓SD, ↓SL, ST, List.getElem?_cons_zero, List.getElem?_cons_succ, @if_true, @if_false, ↓reduceIte, reduceCtorEq, Bool.false_eq_true, beq_self_eq_true, repL, Nat.reduceMul, Nat.reduceLeDiff, Nat.zero_le, Nat.zero_mul, Nat.reduceAdd, Int.reduceEq, Int.reduceLT, Int.reduceLE, Nat.zero_add, Nat.add_zero, ]; rfl) (by simp (maxSteps := 1000000) (disch := first | decide | omega | (simp only [next_push, next_set] <;> omega) | fail) only [↓SB, ↓SO, SM, ↓SD, ↓SL, ST, List.getElem?_cons_zero, List.getElem?_cons_succ, @if_true, @if_false, ↓reduceIte, reduceCtorEq, Bool.false_eq_true, beq_self_eq_true, repL, Nat.reduceMul, Nat.reduceLeDiff, Nat.zero_le, Nat.zero_mul, Nat.reduceAdd, Int.reduceEq, Int.reduceLT, Int.reduceLE, Nat.zero_add, Nat.add_zero, jg]) (jf.on (by omega) (by repeat (first | exact Fr.refl _ _ _ | refine Fr.push ?_ (by first | omega | (simp only [next_push, next_set] <;> omega)) (by first | omega | (simp only [next_push, next_set] <;> omega)) _ | refine Fr.set ?_ (.inl (by first | omega | (simp only [next_push, next_set] <;> omega))) (by first | omega | (simp only [next_push, next_set] <;> omega)) (by first | omega | (simp only [next_push, next_set] <;> omega)) _))) (by simp only [next_push]; omega) (by simp only [next_push]; omega) ?_
  clear j1 j3 jg jf jl jN
  intro e3 H3 j1 j3 jn3 jg jf jl jN
  generalize hs3 : stepS numDfc (cat s2 (numS [(c.df.length : Int)])) c.df = s3 at *
  simp (maxSteps := 1000000) (disch := first | decide | omega | (simp only [next_push, next_set] <;> omega) | fail) only [↓SB, ↓SO, SM, ↓SD, ↓SL, ST, List.getElem?_cons_zero, List.getElem?_cons_succ, @if_true, @if_false, ↓reduceIte, reduceCtorEq, Bool.false_eq_true, beq_self_eq_true, repL, Nat.reduceMul, Nat.reduceLeDiff, Nat.zero_le, Nat.zero_mul, Nat.reduceAdd, Int.reduceEq, Int.reduceLT, Int.reduceLE, Nat.zero_add, Nat.add_zero, j1, j3, jg, l4]
  refine num_run hT hf (xs := [(c.py.length : Int)]) (is_built (get_push_same _ _ (by simp only [next_push, next_set])) rfl rfl (by simp only [next_push, next_set]; omega)) (by show 1 ≤ 100; decide) _ ?_
  intro hz4
  have hz4 : (numS [(c.py.length : Int)]).n ≤ 23 := hz4
  have c4 : aBin P .add 9 false (sgV s3) (sgV (numS [(c.py.length : Int)])) = some (sgV (cat s3 (numS [(c.py.length : Int)]))) := bin_cat 9 false (by omega)
  have ct4 : (cat s3 (numS [(c.py.length : Int)])).n = s3.n + (numS [(c.py.length : Int)]).n := rfl
  simp (maxSteps := 1000000) (disch := first | decide | omega | (simp only [next_push, next_set] <;> omega) | fail) only [↓SB, ↓SO, SM, ↓SD, ↓SL, ST, List.getElem?_cons_zero, List.getElem?_cons_succ, @if_true, @if_false, ↓reduceIte, reduceCtorEq, Bool.false_eq_true, beq_self_eq_true, repL, Nat.reduceMul, Nat.reduceLeDiff, Nat.zero_le, Nat.zero_mul, Nat.reduceAdd, Int.reduceEq, Int.reduceLT, Int.reduceLE, Nat.zero_add, Nat.add_zero, j1, j3, c4]
  refine scPay_run hT hf (n := n) (n0 := H.next) (N := H.next + 77) (H := H) (s0 := cat s3 (numS [(c.py.length : Int)])) (k := 0) (c := c) (a := a) (b := b) (d := d) (pv := pv) (g := g) hc.py (Nat.le_refl _) (by omega) (by omega) (by omega) (by omega) (by simp (maxSteps := 1000000) (disch := first | decide | omega | (simp only [next_push, next_set] <;> omega) | fail) only [↓SB, ↓SO, SM, ↓SD, ↓SL, ST, List.getElem?_cons_zero, List.getElem?_cons_succ, @if_true, @if_false, ↓reduceIte, reduceCtorEq, Bool.false_eq_true, beq_self_eq_true, repL, Nat.reduceMul, Nat.reduceLeDiff, Nat.zero_le, Nat.zero_mul, Nat.reduceAdd, Int.reduceEq, Int.reduceLT, Int.reduceLE, Nat.zero_add, Nat.add_zero, j1]) (by simp (maxSteps := 1000000) (disch := first | decide | omega | (simp only [next_push, next_set] <;> omega) | fail) only [↓SB, ↓SO, SM, ↓SD, ↓SL, ST, List.getElem?_cons_zero, List.getElem?_cons_succ, @if_true, @if_false, ↓reduceIte, reduceCtorEq, Bool.false_eq_true, beq_self_eq_true, repL, Nat.reduceMul, Nat.reduceLeDiff, Nat.zero_le, Nat.zero_mul, Nat.reduceAdd, Int.reduceEq, Int.reduceLT, Int.reduceLE, Nat.zero_add, Nat.add_zero, ]) (by simp (maxSteps := 1000000) (disch := first | decide | omega | (simp only [next_push, next_set] <;> omega) | fail) only [↓SB, ↓SO, SM, ↓SD, ↓SL, ST, List.getElem?_cons_zero, List.getElem?_cons_succ, @if_true, @if_false, ↓reduceIte, reduceCtorEq, Bool.false_eq_true, beq_self_eq_true, repL, Nat.reduceMul, Nat.reduceLeDiff, Nat.zero_le, Nat.zero_mul, Nat.reduceAdd, Int.reduceEq, Int.reduceLT, Int.reduceLE, Nat.zero_add, Nat.add_zero, ]; rfl) (by simp (maxSteps := 1000000) (disch := first | decide | omega | (simp only [next_push, next_set] <;> omega) | fail) only [↓SB, ↓SO, SM, ↓SD, ↓SL, ST, List.getElem?_cons_zero, List.getElem?_cons_succ, @if_true, @if_false, ↓reduceIte, reduceCtorEq, Bool.false_eq_true, beq_self_eq_true, repL, Nat.reduceMul, Nat.reduceLeDiff, Nat.zero_le, Nat.zero_mul, Nat.reduceAdd, Int.reduceEq, Int.reduceLT, Int.reduceLE, Nat.zero_add, Nat.add_zero, jg]) (jf.on (by omega) (by repeat (first | exact Fr.refl _ _ _ | refine Fr.push ?_ (by first | omega | (simp only [next_push, next_set] <;> omega)) (by first | omega | (simp only [next_push, next_set] <;> omega)) _ | refine Fr.set ?_ (.inl (by first | omega | (simp only [next_push, next_set] <;> omega))) (by first | omega | (simp only [next_push, next_set] <;> omega)) (by first | omega | (simp only [next_push, next_set] <;> omega)) _))) (by simp only [next_push]; omega) (by simp only [next_push]; omega) ?_
  clear j1 j3 jg jf jl jN
  intro e4 H4 j1 j3 jn4 jg jf jl jN
  generalize hs4 : stepS numPay (cat s3 (numS [(c.py.length : Int)])) c.py = s4 at *
  simp (maxSteps := 1000000) (disch := first | decide | omega | (simp only [next_push, next_set] <;> omega) | fail) only [↓SB, ↓SO, SM, ↓SD, ↓SL, ST, List.getElem?_cons_zero, List.getElem?_cons_succ, @if_true, @if_false, ↓reduceIte, reduceCtorEq, Bool.false_eq_true, beq_self_eq_true, repL, Nat.reduceMul, Nat.reduceLeDiff, Nat.zero_le, Nat.zero_mul, Nat.reduceAdd, Int.reduceEq, Int.reduceLT, Int.reduceLE, Nat.zero_add, Nat.add_zero, j1, j3, jg, l5]
  refine num_run hT hf (xs := [(c.fr.length : Int)]) (is_built (get_push_same _ _ (by simp only [next_push, next_set])) rfl rfl (by simp only [next_push, next_set]; omega)) (by show 1 ≤ 100; decide) _ ?_
  intro hz5
  have hz5 : (numS [(c.fr.length : Int)]).n ≤ 23 := hz5
  have c5 : aBin P .add 9 false (sgV s4) (sgV (numS [(c.fr.length : Int)])) = some (sgV (cat s4 (numS [(c.fr.length : Int)]))) := bin_cat 9 false (by omega)
  have ct5 : (cat s4 (numS [(c.fr.length : Int)])).n = s4.n + (numS [(c.fr.length : Int)]).n := rfl
  simp (maxSteps := 1000000) (disch := first | decide | omega | (simp only [next_push, next_set] <;> omega) | fail) only [↓SB, ↓SO, SM, ↓SD, ↓SL, ST, List.getElem?_cons_zero, List.getElem?_cons_succ, @if_true, @if_false, ↓reduceIte, reduceCtorEq, Bool.false_eq_true, beq_self_eq_true, repL, Nat.reduceMul, Nat.reduceLeDiff, Nat.zero_le, Nat.zero_mul, Nat.reduceAdd, Int.reduceEq, Int.reduceLT, Int.reduceLE, Nat.zero_add, Nat.add_zero, j1, j3, c5]
  refine scFrn_run hT hf (n := n) (n0 := H.next) (N := H.next + 102) (H := H) (s0 := cat s4 (numS [(c.fr.length : Int)])) (k := 0) (c := c) (a := a) (b := b) (d := d) (pv := pv) (g := g) hc.fr (Nat.le_refl _) (by omega) (by omega) (by omega) (by omega) (by simp (maxSteps := 1000000) (disch := first | decide | omega | (simp only [next_push, next_set] <;> omega) | fail) only [↓SB, ↓SO, SM, ↓SD, ↓SL, ST, List.getElem?_cons_zero, List.getElem?_cons_succ, @if_true, @if_false, ↓reduceIte, reduceCtorEq, Bool.false_eq_true, beq_self_eq_true, repL, Nat.reduceMul, Nat.reduceLeDiff, Nat.zero_le, Nat.zero_mul, Nat.reduceAdd, Int.reduceEq, Int.reduceLT, Int.reduceLE, Nat.zero_add, Nat.add_zero, j1]) (by simp (maxSteps := 1000000) (disch := first | decide | omega | (simp only [next_push, next_set] <;> omega) | fail) only [↓SB, ↓SO, SM, ↓SD, ↓SL, ST, List.getElem?_cons_zero, List.getElem?_cons_succ, @if_true, @if_false, ↓reduceIte, reduceCtorEq, Bool.false_eq_true, beq_self_eq_true, repL, Nat.reduceMul, Nat.reduceLeDiff, Nat.zero_le, Nat.zero_mul, Nat.reduceAdd, Int.reduceEq, Int.reduceLT, Int.reduceLE, Nat.zero_add, Nat.add_zero, ]) (by simp (maxSteps := 1000000) (disch := first | decide | omega | (simp only [next_push, next_set] <;> omega) | fail) only [↓SB, ↓SO, SM, ↓SD, ↓SL, ST, List.getElem?_cons_zero, List.getElem?_cons_succ, @if_true, @if_false, ↓reduceIte, reduceCtorEq, Bool.false_eq_true, beq_self_eq_true, repL, Nat.reduceMul, Nat.reduceLeDiff, Nat.zero_le, Nat.zero_mul, Nat.reduceAdd, Int.reduceEq, Int.reduceLT, Int.reduceLE, Nat.zero_add, Nat.add_zero, ]; rfl) (by simp (maxSteps := 1000000) (disch := first | decide | omega | (simp only [next_push, next_set] <;> omega) | fail) only [↓SB, ↓SO, SM, ↓SD, ↓SL, ST, List.getElem?_cons_zero, List.getElem?_cons_succ, @if_true, @if_false, ↓reduceIte, reduceCtorEq, Bool.false_eq_true, beq_self_eq_true, repL, Nat.reduceMul, Nat.reduceLeDiff, Nat.zero_le, Nat.zero_mul, Nat.reduceAdd, Int.reduceEq, Int.reduceLT, Int.reduceLE, Nat.zero_add, Nat.add_zero, jg]) (jf.on (by omega) (by repeat (first | exact Fr.refl _ _ _ | refine Fr.push ?_ (by first | omega | (simp only [next_push, next_set] <;> omega)) (by first | omega | (simp only [next_push, next_set] <;> omega)) _ | refine Fr.set ?_ (.inl (by first | omega | (simp only [next_push, next_set] <;> omega))) (by first | omega | (simp only [next_push, next_set] <;> omega)) (by first | omega | (simp only [next_push, next_set] <;> omega)) _))) (by simp only [next_push]; omega) (by simp only [next_push]; omega) ?_
  clear j1 j3 jg jf jl jN
  intro e5 H5 j1 j3 jn5 jg jf jl jN
  generalize hs5 : stepS numFrn (cat s4 (numS [(c.fr.length : Int)])) c.fr = s5 at *
  have hfin : scrS c = s5 := by
    unfold scrS
    rw [hs1, hs2, hs3, hs4, hs5]
  simp (maxSteps := 1000000) (disch := first | decide | omega | (simp only [next_push, next_set] <;> omega) | fail) only [↓SB, ↓SO, SM, ↓SD, ↓SL, ST, List.getElem?_cons_zero, List.getElem?_cons_succ, @if_true, @if_false, ↓reduceIte, reduceCtorEq, Bool.false_eq_true, beq_self_eq_true, repL, Nat.reduceMul, Nat.reduceLeDiff, Nat.zero_le, Nat.zero_mul, Nat.reduceAdd, Int.reduceEq, Int.reduceLT, Int.reduceLE, Nat.zero_add, Nat.add_zero, j1, j3]
  rw [← hfin]
  exact h (by rw [hfin]; omega) _ jf (by omega)

end
end Go.Proofs.YtbokoinmlbipmaaGreatDoor.Ev.Sy

-- Ww
namespace Go.Proofs.YtbokoinmlbipmaaGreatDoor.Ev.Sy
open Go Go.Proofs.YtbokoinmlbipmaaGreatDoor.Ev Go.Proofs
noncomputable section
set_option linter.unusedSimpArgs false
set_option linter.unusedVariables false
set_option linter.unusedSectionVars false
set_option maxRecDepth 100000
set_option maxHeartbeats 1000000

variable {T : Table} (hT : ∀ f, f ≠ 6 → (T.find f).val = []) {fuel : Nat} (hf : 1000 ≤ fuel)

theorem ScIs.fr' {H H' : Heap} {a b d e g : AVal} {c : Scr} (h : ScIs H a b d e g c) (k : Fr H.next (fun _ => False) H H') : ScIs H' a b d e g c :=
  ⟨k.is h.sp fun j hj => ⟨h.sp.lo j hj, fun x => x⟩, k.is h.ov fun j hj => ⟨h.ov.lo j hj, fun x => x⟩, k.is h.df fun j hj => ⟨h.df.lo j hj, fun x => x⟩, k.is h.py fun j hj => ⟨h.py.lo j hj, fun x => x⟩, k.is h.fr fun j hj => ⟨h.fr.lo j hj, fun x => x⟩⟩

include hT hf in
theorem same_run {n : Nat} {H : Heap} {c c' : Scr} {a b d pv g a' b' d' pv' g' : AVal} (hc : ScIs H a b d pv g c) (hfw : FewP c) (hc' : ScIs H a' b' d' pv' g' c') (hfw' : FewP c') (hl : H.next + 1000 ≤ 32768) (Q : AVal × Heap → Prop)
    (h : ∀ H', Fr H.next (fun _ => False) H H' → H'.next ≤ H.next + 300 → Q (.bool (eqStr (scrS c).n (scrS c).v (scrS c').n (scrS c').v), H')) : Wp ((R T fuel (n + 5)).func 10 [scV c a b d pv g, scV c' a' b' d' pv' g'] H) Q := by
  refine call_eq hT (by decide) (fn10 fuel) _ _ (wp_fBody (Nat.le_of_ble_eq_true rfl) ?_)
  have ba := below_is hc.sp
  have bb := below_is hc.ov
  have bd := below_is hc.df
  have bp := below_is hc.py
  have bg := below_is hc.fr
  have ba' := below_is hc'.sp
  have bb' := below_is hc'.ov
  have bd' := below_is hc'.df
  have bp' := below_is hc'.py
  have bg' := below_is hc'.fr
  unfold c10 r10_0 r10_1
  simp (maxSteps := 1000000) (disch := first | decide | omega | (simp only [next_push, next_set] <;> omega) | fail) only [↓SB, ↓SO, SM, ↓SD, ↓SL, ST, List.getElem?_cons_zero, List.getElem?_cons_succ, @if_true, @if_false, ↓reduceIte, reduceCtorEq, Bool.false_eq_true, beq_self_eq_true, repL, Nat.reduceMul, Nat.reduceLeDiff, Nat.zero_le, Nat.zero_mul, Nat.reduceAdd, Int.reduceEq, Int.reduceLT, Int.reduceLE, Nat.zero_add, Nat.add_zero, ba, bb, bd, bp, bg, ↓wd_R rd10_1_0, pend_ld rd10_1_0, ↓wd_R rd10_1_2, pend_ld rd10_1_2]
  have hF : Fr H.next (fun _ => False) H ((H.push (.cells 28 [i64 c.f, i64 c.u, a, b, d, pv, g] false 0 false)).push (.cells 28 [i64 c'.f, i64 c'.u, a', b', d', pv', g'] false 0 false)) := (by repeat (first | exact Fr.refl _ _ _ | refine Fr.push ?_ (by first | omega | (simp only [next_push, next_set] <;> omega)) (by first | omega | (simp only [next_push, next_set] <;> omega)) _ | refine Fr.set ?_ (.inl (by first | omega | (simp only [next_push, next_set] <;> omega))) (by first | omega | (simp only [next_push, next_set] <;> omega)) (by first | omega | (simp only [next_push, next_set] <;> omega)) _))
  have hg2 : ((H.push (.cells 28 [i64 c.f, i64 c.u, a, b, d, pv, g] false 0 false)).push (.cells 28 [i64 c'.f, i64 c'.u, a', b', d', pv', g'] false 0 false)).get (H.next + 1) = some (.cells 28 [i64 c'.f, i64 c'.u, a', b', d', pv', g'] false 0 false) := get_push_same _ _ (by simp only [next_push])
  have hn2 : ((H.push (.cells 28 [i64 c.f, i64 c.u, a, b, d, pv, g] false 0 false)).push (.cells 28 [i64 c'.f, i64 c'.u, a', b', d', pv', g'] false 0 false)).next = H.next + 2 := by simp only [next_push]
  generalize ((H.push (.cells 28 [i64 c.f, i64 c.u, a, b, d, pv, g] false 0 false)).push (.cells 28 [i64 c'.f, i64 c'.u, a', b', d', pv', g'] false 0 false)) = H1 at hF hg2 hn2 ⊢
  refine script_run hT hf (hc.fr' hF) hfw (by omega) _ ?_
  intro hs H2 hF2 hN2
  have hle2 := hF2.le
  have hg3 := (hF2.same' (j := H.next + 1) (by omega)).trans hg2
  simp (maxSteps := 1000000) (disch := first | decide | omega | (simp only [next_push, next_set] <;> omega) | fail) only [↓SB, ↓SO, SM, ↓SD, ↓SL, ST, List.getElem?_cons_zero, List.getElem?_cons_succ, @if_true, @if_false, ↓reduceIte, reduceCtorEq, Bool.false_eq_true, beq_self_eq_true, repL, Nat.reduceMul, Nat.reduceLeDiff, Nat.zero_le, Nat.zero_mul, Nat.reduceAdd, Int.reduceEq, Int.reduceLT, Int.reduceLE, Nat.zero_add, Nat.add_zero, ba', bb', bd', bp', bg', hg2, hg3, ↓wd_R rd10_1_0, pend_ld rd10_1_0, ↓wd_R rd10_1_2, pend_ld rd10_1_2]
  refine script_run hT hf ((hc'.fr' hF).fr' hF2) hfw' (by omega) _ ?_
  intro hs' H3 hF3 hN3
  have hle3 := hF3.le
  simp (maxSteps := 1000000) (disch := first | decide | omega | (simp only [next_push, next_set] <;> omega) | fail) only [↓SB, ↓SO, SM, ↓SD, ↓SL, ST, List.getElem?_cons_zero, List.getElem?_cons_succ, @if_true, @if_false, ↓reduceIte, reduceCtorEq, Bool.false_eq_true, beq_self_eq_true, repL, Nat.reduceMul, Nat.reduceLeDiff, Nat.zero_le, Nat.zero_mul, Nat.reduceAdd, Int.reduceEq, Int.reduceLT, Int.reduceLE, Nat.zero_add, Nat.add_zero, ↓wd_R rd10_1_0, pend_ld rd10_1_0, ↓wd_R rd10_1_2, pend_ld rd10_1_2]
  exact h H3 ((hF.on (by omega) hF2).on (by omega) hF3) (by omega)

end
end Go.Proofs.YtbokoinmlbipmaaGreatDoor.Ev.Sy

-- Wx
namespace Go.Proofs.YtbokoinmlbipmaaGreatDoor.Ev.Sy
open Go Go.Proofs.YtbokoinmlbipmaaGreatDoor.Ev Go.Proofs
noncomputable section
set_option linter.unusedSimpArgs false
set_option linter.unusedVariables false
set_option linter.unusedSectionVars false

theorem fm_fm {α : Type} {t : α → Bool} {g1 g2 : α → α} (l : List α) (h1 : ∀ x ∈ l, g2 (g1 x) = g2 x) (h2 : ∀ x ∈ l, t (g2 x) = true → t (g1 x) = true) : (((l.map g1).filter t).map g2).filter t = (l.map g2).filter t := by
  induction l with
  | nil => rfl
  | cons x l ih =>
    have ih := ih (fun y hy => h1 y (List.mem_cons_of_mem _ hy)) (fun y hy => h2 y (List.mem_cons_of_mem _ hy))
    have e1 := h1 x (List.mem_cons_self ..)
    have e2 := h2 x (List.mem_cons_self ..)
    rw [List.map_cons, List.map_cons]
    by_cases k1 : t (g1 x) = true
    · rw [List.filter_cons_of_pos k1, List.map_cons, e1]
      by_cases k2 : t (g2 x) = true
      · rw [List.filter_cons_of_pos k2, List.filter_cons_of_pos k2, ih]
      · rw [List.filter_cons_of_neg k2, List.filter_cons_of_neg k2, ih]
    · rw [List.filter_cons_of_neg k1]
      by_cases k2 : t (g2 x) = true
      · exact absurd (e2 k2) k1
      · rw [List.filter_cons_of_neg k2, ih]

theorem momentB_iff (x : Int) : momentB x = true ↔ 0 ≤ x ∧ x ≤ 38399 := by simp [momentB]

theorem rest_rest {c a b d : Scr} {at_ lo hi : Int} (hlh : lo ≤ hi) (hlo : okS c at_ lo) (hhi : okS c at_ hi) (hk : ∀ x ∈ c.df, x.n ≤ 38399) (h1 : SufOf c at_ lo a) (h2 : SufOf c at_ hi b) (h3 : SufOf a at_ hi d) : b = d := by
  obtain ⟨o1, o2, o3, o4, o5, o6⟩ := hlo
  obtain ⟨p1, p2, p3, p4, p5, p6⟩ := hhi
  rw [momentB_iff] at o1 o2 o6
  have e_sp : b.sp = d.sp := by
    rw [h2.sp, h3.sp, h1.sp, h1.u]
    unfold spL
    refine (fm_fm _ ?_ ?_).symm
    · intro x _
      simp only [spF, Spl.mk.injEq, true_and]
      omega
    · intro x _ hx
      have hx' : max x.f hi ≤ min x.u c.u := of_decide_eq_true hx
      exact decide_eq_true (show max x.f lo ≤ min x.u c.u by omega)
  have e_ov : b.ov = d.ov := by
    rw [h2.ov, h3.ov, h1.ov, h1.u]
    unfold ovL
    refine (fm_fm _ ?_ ?_).symm
    · intro x _
      simp only [ovF, Ovr.mk.injEq, true_and, and_true]
      omega
    · intro x _ hx
      have hx' : max (max x.f x.n) hi ≤ min x.u c.u := of_decide_eq_true hx
      exact decide_eq_true (show max (max x.f x.n) lo ≤ min x.u c.u by omega)
  have e_df : b.df = d.df := by
    rw [h2.df, h3.df, h1.df, h1.u]
    unfold dfL
    refine (fm_fm _ ?_ ?_).symm
    · intro x hx
      have hn := hk x hx
      simp only [dfF, Dfc.mk.injEq, true_and]
      refine ⟨by omega, by omega, ?_⟩
      unfold knF
      by_cases k1 : x.n ≤ min lo at_
      · rw [if_pos k1, if_pos (by omega), if_pos (by omega)]
      · rw [if_neg k1]
        by_cases k2 : max c.u at_ < x.n
        · rw [if_pos k2, if_neg (by omega), if_pos (by omega), if_neg (by omega)]
        · simp only [if_neg k2]
    · intro x _ hx
      have hx' : max x.f hi ≤ min x.u c.u := of_decide_eq_true hx
      exact decide_eq_true (show max x.f lo ≤ min x.u c.u by omega)
  have e_py : b.py = d.py := by
    refine strict_ext h2.py.1 h3.py.1 fun p => ?_
    rw [h2.py.2, h3.py.2, h1.py.2, h1.u]
    have hk : keepP a at_ hi p ↔ keepP c at_ hi p := by unfold keepP; rw [h1.u]
    have hm : keepP c at_ hi p → keepP c at_ lo p := by
      unfold keepP reachF
      rintro ⟨q1, q2, q3⟩
      refine ⟨q1, ?_, ?_⟩
      · by_cases g1 : p.k = 1
        · rw [if_pos g1] at q2 ⊢; simp only at q2 ⊢; omega
        · rw [if_neg g1] at q2 ⊢
          by_cases g2 : p.k = 3
          · rw [if_pos g2] at q2 ⊢; simp only at q2 ⊢; omega
          · rw [if_neg g2] at q2 ⊢; simp only at q2 ⊢; omega
      · by_cases g1 : p.k = 1
        · rw [if_pos g1] at q3 ⊢; exact q3
        · rw [if_neg g1] at q3 ⊢
          by_cases g2 : p.k = 3
          · rw [if_pos g2] at q3 ⊢; exact q3
          · rw [if_neg g2] at q3 ⊢; exact q3
    rw [hk]
    constructor
    · rintro ⟨q1, q2, q3⟩; exact ⟨q1, ⟨by omega, q2, hm q3⟩, q3⟩
    · rintro ⟨q1, ⟨-, q2, -⟩, q3⟩; exact ⟨q1, q2, q3⟩
  have e_f : b.f = d.f := by rw [h2.f, h3.f, h1.u]
  have e_u : b.u = d.u := by rw [h2.u, h3.u, h1.u]
  have e_fr : b.fr = d.fr := by rw [h2.fr, h3.fr, h1.fr]
  cases b; cases d
  simp only at e_sp e_ov e_df e_py e_f e_u e_fr
  subst e_sp e_ov e_df e_py e_f e_u e_fr
  rfl

theorem rest_ok {c a : Scr} {at_ lo hi : Int} (hlh : lo ≤ hi) (hlo : okS c at_ lo) (hhi : okS c at_ hi) (h1 : SufOf c at_ lo a) : okS a at_ hi := by
  obtain ⟨o1, o2, o3, o4, o5, o6⟩ := hlo
  obtain ⟨p1, p2, p3, p4, p5, p6⟩ := hhi
  rw [momentB_iff] at o1 o2
  refine ⟨?_, ?_, ?_, ?_, ?_, o6⟩
  · rw [momentB_iff, h1.f]; omega
  · rw [momentB_iff, h1.u]; omega
  · rw [h1.f, h1.u]; omega
  · rw [h1.f]; omega
  · rw [h1.u]; omega

theorem eqStr_self (n v : Nat) : eqStr n v n v = true := by unfold eqStr; simp [Nat.beq_refl]

end
end Go.Proofs.YtbokoinmlbipmaaGreatDoor.Ev.Sy

-- Wy
namespace Go.Proofs.YtbokoinmlbipmaaGreatDoor.Ev.Sy
open Go Go.Proofs.YtbokoinmlbipmaaGreatDoor.Ev Go.Proofs
noncomputable section
set_option linter.unusedSimpArgs false
set_option linter.unusedVariables false
set_option linter.unusedSectionVars false
set_option maxRecDepth 100000
set_option maxHeartbeats 1000000

/-! ### The check is known -/

/-- The table of one known call: the check's. -/
def T6 (needs : List (Nat × List AVal)) : Table := [(6, [⟨6, needs, [], .bool true, []⟩])]
theorem T6_other (needs : List (Nat × List AVal)) (f : FuncId) (h : f ≠ 6) : ((T6 needs).find f).val = [] := by
  have : Nat.beq 6 f = false := by
    cases hb : Nat.beq 6 f with
    | false => rfl
    | true => exact absurd (Nat.eq_of_beq_eq_true hb).symm h
  unfold T6 Table.find
  simp only [this]
  rfl
theorem T6_call {needs : List (Nat × List AVal)} {fuel n : Nat} {H : Heap} (hn : chkNeeds H needs = true) : (runM P globs 11 (T6 needs) fuel (n + 1)).func 6 [] H = some (.bool true, H) := by
  show (memoB 11 ((T6 needs).find 6) (aFunc P globs aDraw fuel 6)).val (runM P globs 11 (T6 needs) fuel n) [] H = _
  show (match tryEntries 11 [⟨6, needs, [], .bool true, []⟩] [] H with
    | some r => some r
    | none => (aFunc P globs aDraw fuel 6).val (runM P globs 11 (T6 needs) fuel n) [] H) = _
  have : tryEntries 11 [⟨6, needs, [], .bool true, []⟩] [] H = some (.bool true, H) := by
    unfold tryEntries tryEntry
    show (match (match (some [] : Option Places) with
      | some m => (match chkNeeds H needs with
        | true => useEntry ⟨6, needs, [], .bool true, []⟩ 11 m.length m H
        | false => none)
      | none => none) with
      | some r => some r
      | none => tryEntries 11 [] [] H) = _
    simp only [hn]
    rfl
  rw [this]
theorem needs_frame {H H' : Heap} : ∀ {needs : List (Nat × List AVal)}, (∀ q ∈ needs, H'.get q.1 = H.get q.1) → chkNeeds H needs = true → chkNeeds H' needs = true
  | [], _, _ => rfl
  | q :: l, h, k => by
    have h1 := h q (List.mem_cons_self ..)
    have ih := needs_frame (needs := l) fun p hp => h p (List.mem_cons_of_mem _ hp)
    unfold chkNeeds at k ⊢
    rw [h1]
    cases hg : H.get q.1 with
    | none => rw [hg] at k; cases k
    | some r =>
      rw [hg] at k
      cases r <;> first | cases k | skip
      rename_i cs
      simp only [Bool.and_eq_true] at k ⊢
      exact ⟨k.1, ih k.2⟩

variable {T : Table} (hT : ∀ f, f ≠ 6 → (T.find f).val = []) {fuel : Nat} (hf : 1000 ≤ fuel)

theorem fewB_P {c : Scr} (h : fewB c = true) : FewP c := by
  simp only [fewB, Bool.and_eq_true, decide_eq_true_eq] at h
  exact ⟨by omega, by omega, by omega, by omega, by omega⟩

include hT hf in
/-- Suffix, both ways in one. -/
theorem suffix_two {n : Nat} {H : Heap} {c : Scr} {at_ m : Int} {a b d pv g r0 r1 r2 r3 r5 : AVal} (hc : ScIs H a b d pv g c) (hfw : FewP c) (hl : H.next + 2000 ≤ 32768) (Q : AVal × Heap → Prop)
    (h : ∀ H' code c' a' b' d' pv' g', (code = 0 ∧ okS c at_ m ∧ SufOf c at_ m c' ∧ FewP c') ∨ (code = 1 ∧ ¬ okS c at_ m) → ScIs H' a' b' d' pv' g' c' → Fr H.next (fun _ => False) H H' → H'.next ≤ H.next + 1003 → Q (.tup [scV c' a' b' d' pv' g', i64 code], H')) :
    Wp ((R T fuel (n + 8)).func 8 [scV c a b d pv g, .agg [r0, r1, r2, r3, i64 at_, r5], i64 m] H) Q := by
  refine suffix_run hT hf hc hfw hl Q ?_ ?_
  · intro h1 H' h2 h3
    exact h H' 1 _ _ _ _ _ _ (.inr ⟨rfl, h1⟩) ⟨Is.nil _, Is.nil _, Is.nil _, Is.nil _, Is.nil _⟩ h2 (by omega)
  · intro h1 H' c' a' b' d' pv' g' h2 h3 h4 h5 h6
    exact h H' 0 c' a' b' d' pv' g' (.inl ⟨rfl, h1, h2, h4⟩) h3 h5 h6

theorem yes_tup (w : Bool) : isYes (some (.tup [])) w = false := by cases w <;> rfl

include hT hf in
theorem rests_run {n : Nat} {H : Heap} {c : Scr} {at_ m k : Int} {a b d pv g r0 r1 r2 r3 r5 : AVal} (hc : ScIs H a b d pv g c) (hl : H.next + 5000 ≤ 32768)
    (e6 : ∀ H', Fr H.next (fun _ => False) H H' → (R T fuel (n + 8)).func 6 [] H' = some (.bool true, H')) :
    Wp ((R T fuel (n + 9)).func 4 [scV c a b d pv g, .agg [r0, r1, r2, r3, i64 at_, r5], i64 m, i64 k] H) fun q => q.1 = .bool true ∧ Fr H.next (fun _ => False) H q.2 := by
  refine call_eq hT (by decide) (fn4 fuel) _ _ (wp_fBody (Nat.le_of_ble_eq_true rfl) ?_)
  unfold c4 r4_0 r4_1 r4_2 r4_3 r4_4
  have hF1 : Fr H.next (fun _ => False) H ((H.push (.cells 28 [i64 c.f, i64 c.u, a, b, d, pv, g] false 0 false)).push (.cells 33 [r0, r1, r2, r3, i64 at_, r5] false 0 false)) := (by repeat (first | exact Fr.refl _ _ _ | refine Fr.push ?_ (by first | omega | (simp only [next_push, next_set] <;> omega)) (by first | omega | (simp only [next_push, next_set] <;> omega)) _ | refine Fr.set ?_ (.inl (by first | omega | (simp only [next_push, next_set] <;> omega))) (by first | omega | (simp only [next_push, next_set] <;> omega)) (by first | omega | (simp only [next_push, next_set] <;> omega)) _))
  have e6' := e6 _ hF1
  simp (maxSteps := 1000000) (disch := first | decide | omega | (simp only [next_push, next_set] <;> omega) | fail) only [↓SB, ↓SO, SM, ↓SD, ↓SL, ST, List.getElem?_cons_zero, List.getElem?_cons_succ, @if_true, @if_false, ↓reduceIte, reduceCtorEq, Bool.false_eq_true, beq_self_eq_true, repL, Nat.reduceMul, Nat.reduceLeDiff, Nat.zero_le, Nat.zero_mul, Nat.reduceAdd, Int.reduceEq, Int.reduceLT, Int.reduceLE, Nat.zero_add, Nat.add_zero, e6']
  refine few_run hT (hc.fr' hF1) (by first | omega | (simp only [next_push, next_set] <;> omega)) _ ?_
  intro H3 hfr3 hn3
  have hF3 : Fr H.next (fun _ => False) H H3 := hF1.on (by first | omega | (simp only [next_push, next_set] <;> omega)) hfr3
  simp only [next_push] at hn3
  have hgc : H3.get H.next = some (.cells 28 [i64 c.f, i64 c.u, a, b, d, pv, g] false 0 false) := (hfr3.same' (by first | omega | (simp only [next_push, next_set] <;> omega))).trans (by simp (maxSteps := 1000000) (disch := first | decide | omega | (simp only [next_push, next_set] <;> omega) | fail) only [↓SB, ↓SO, SM, ↓SD, ↓SL, ST, List.getElem?_cons_zero, List.getElem?_cons_succ, @if_true, @if_false, ↓reduceIte, reduceCtorEq, Bool.false_eq_true, beq_self_eq_true, repL, Nat.reduceMul, Nat.reduceLeDiff, Nat.zero_le, Nat.zero_mul, Nat.reduceAdd, Int.reduceEq, Int.reduceLT, Int.reduceLE, Nat.zero_add, Nat.add_zero, ])
  have hgr : H3.get (H.next + 1) = some (.cells 33 [r0, r1, r2, r3, i64 at_, r5] false 0 false) := (hfr3.same' (by first | omega | (simp only [next_push, next_set] <;> omega))).trans (by simp (maxSteps := 1000000) (disch := first | decide | omega | (simp only [next_push, next_set] <;> omega) | fail) only [↓SB, ↓SO, SM, ↓SD, ↓SL, ST, List.getElem?_cons_zero, List.getElem?_cons_succ, @if_true, @if_false, ↓reduceIte, reduceCtorEq, Bool.false_eq_true, beq_self_eq_true, repL, Nat.reduceMul, Nat.reduceLeDiff, Nat.zero_le, Nat.zero_mul, Nat.reduceAdd, Int.reduceEq, Int.reduceLT, Int.reduceLE, Nat.zero_add, Nat.add_zero, ])
  have hc3 := hc.fr' hF3
  clear hfr3
  by_cases hfew : fewB c = true
  · have hfw := fewB_P hfew
    have l3 := hc3.df.length su24
    have w3 := hfw.df
    simp (maxSteps := 1000000) (disch := first | decide | omega | (simp only [next_push, next_set] <;> omega) | fail) only [↓SB, ↓SO, SM, ↓SD, ↓SL, ST, List.getElem?_cons_zero, List.getElem?_cons_succ, @if_true, @if_false, ↓reduceIte, reduceCtorEq, Bool.false_eq_true, beq_self_eq_true, repL, Nat.reduceMul, Nat.reduceLeDiff, Nat.zero_le, Nat.zero_mul, Nat.reduceAdd, Int.reduceEq, Int.reduceLT, Int.reduceLE, Nat.zero_add, Nat.add_zero, hfew, Bool.not_true, hgc, hgr]
    refine wp_loop (fun k' s => ∃ e i, s = ⟨e, [], H3⟩ ∧ i + k' = c.df.length ∧ xt 3 2 e = i64 m ∧ xt 3 3 e = i64 k ∧ xt 3 4 e = .ptr H.next 0 ∧ xt 3 5 e = .ptr (H.next + 1) 0 ∧ xt 3 9 e = .bool true ∧ xt 3 10 e = i64 i ∧ (∀ x ∈ c.df.take i, x.n ≤ 38399)) ?_ (k := c.df.length) (by omega)
      ⟨_, 0, rfl, by omega, by simp (maxSteps := 1000000) (disch := first | decide | omega | (simp only [next_push, next_set] <;> omega) | fail) only [↓SB, ↓SO, SM, ↓SD, ↓SL, ST, List.getElem?_cons_zero, List.getElem?_cons_succ, @if_true, @if_false, ↓reduceIte, reduceCtorEq, Bool.false_eq_true, beq_self_eq_true, repL, Nat.reduceMul, Nat.reduceLeDiff, Nat.zero_le, Nat.zero_mul, Nat.reduceAdd, Int.reduceEq, Int.reduceLT, Int.reduceLE, Nat.zero_add, Nat.add_zero, ], by simp (maxSteps := 1000000) (disch := first | decide | omega | (simp only [next_push, next_set] <;> omega) | fail) only [↓SB, ↓SO, SM, ↓SD, ↓SL, ST, List.getElem?_cons_zero, List.getElem?_cons_succ, @if_true, @if_false, ↓reduceIte, reduceCtorEq, Bool.false_eq_true, beq_self_eq_true, repL, Nat.reduceMul, Nat.reduceLeDiff, Nat.zero_le, Nat.zero_mul, Nat.reduceAdd, Int.reduceEq, Int.reduceLT, Int.reduceLE, Nat.zero_add, Nat.add_zero, ], by simp (maxSteps := 1000000) (disch := first | decide | omega | (simp only [next_push, next_set] <;> omega) | fail) only [↓SB, ↓SO, SM, ↓SD, ↓SL, ST, List.getElem?_cons_zero, List.getElem?_cons_succ, @if_true, @if_false, ↓reduceIte, reduceCtorEq, Bool.false_eq_true, beq_self_eq_true, repL, Nat.reduceMul, Nat.reduceLeDiff, Nat.zero_le, Nat.zero_mul, Nat.reduceAdd, Int.reduceEq, Int.reduceLT, Int.reduceLE, Nat.zero_add, Nat.add_zero, ], by simp (maxSteps := 1000000) (disch := first | decide | omega | (simp only [next_push, next_set] <;> omega) | fail) only [↓SB, ↓SO, SM, ↓SD, ↓SL, ST, List.getElem?_cons_zero, List.getElem?_cons_succ, @if_true, @if_false, ↓reduceIte, reduceCtorEq, Bool.false_eq_true, beq_self_eq_true, repL, Nat.reduceMul, Nat.reduceLeDiff, Nat.zero_le, Nat.zero_mul, Nat.reduceAdd, Int.reduceEq, Int.reduceLT, Int.reduceLE, Nat.zero_add, Nat.add_zero, ], by simp (maxSteps := 1000000) (disch := first | decide | omega | (simp only [next_push, next_set] <;> omega) | fail) only [↓SB, ↓SO, SM, ↓SD, ↓SL, ST, List.getElem?_cons_zero, List.getElem?_cons_succ, @if_true, @if_false, ↓reduceIte, reduceCtorEq, Bool.false_eq_true, beq_self_eq_true, repL, Nat.reduceMul, Nat.reduceLeDiff, Nat.zero_le, Nat.zero_mul, Nat.reduceAdd, Int.reduceEq, Int.reduceLT, Int.reduceLE, Nat.zero_add, Nat.add_zero, ], by simp (maxSteps := 1000000) (disch := first | decide | omega | (simp only [next_push, next_set] <;> omega) | fail) only [↓SB, ↓SO, SM, ↓SD, ↓SL, ST, List.getElem?_cons_zero, List.getElem?_cons_succ, @if_true, @if_false, ↓reduceIte, reduceCtorEq, Bool.false_eq_true, beq_self_eq_true, repL, Nat.reduceMul, Nat.reduceLeDiff, Nat.zero_le, Nat.zero_mul, Nat.reduceAdd, Int.reduceEq, Int.reduceLT, Int.reduceLE, Nat.zero_add, Nat.add_zero, ]; rfl, by intro x hx; simp at hx⟩
    rintro k' s ⟨e, i, rfl, hi, h2, h3, h4, h5, h9, h10, hkn⟩
    unfold r4_5 r4_6 r4_7 r4_8
    by_cases hil : i < c.df.length
    · have hil' : (i : Int) < (c.df.length : Int) := by omega
      obtain ⟨q, o, r, l, ha, hid, hq, hgq, hr, hb, htk⟩ := hc3.df.get su24 sz42 .i64 hil
      have hl4 := take_at htk (k := 4) rfl
      have hstep : ∀ x ∈ c.df.take (i + 1), x = c.df[i] ∨ x ∈ c.df.take i := fun x hx => by
        rw [← List.take_append_getElem hil, List.mem_append, List.mem_singleton] at hx; exact hx.symm
      generalize c.df[i] = p at *
      by_cases hp : 38399 < p.n
      · simp (maxSteps := 1000000) (disch := first | decide | omega | (simp only [next_push, next_set] <;> omega) | fail) only [↓SB, ↓SO, SM, ↓SD, ↓SL, ST, List.getElem?_cons_zero, List.getElem?_cons_succ, @if_true, @if_false, ↓reduceIte, reduceCtorEq, Bool.false_eq_true, beq_self_eq_true, repL, Nat.reduceMul, Nat.reduceLeDiff, Nat.zero_le, Nat.zero_mul, Nat.reduceAdd, Int.reduceEq, Int.reduceLT, Int.reduceLE, Nat.zero_add, Nat.add_zero, h2, h3, h4, h5, h9, h10, hgc, l3, hil', ha, hgq, hr, hl4, hp]
        exact hF3
      · simp (maxSteps := 1000000) (disch := first | decide | omega | (simp only [next_push, next_set] <;> omega) | fail) only [↓SB, ↓SO, SM, ↓SD, ↓SL, ST, List.getElem?_cons_zero, List.getElem?_cons_succ, @if_true, @if_false, ↓reduceIte, reduceCtorEq, Bool.false_eq_true, beq_self_eq_true, repL, Nat.reduceMul, Nat.reduceLeDiff, Nat.zero_le, Nat.zero_mul, Nat.reduceAdd, Int.reduceEq, Int.reduceLT, Int.reduceLE, Nat.zero_add, Nat.add_zero, h2, h3, h4, h5, h9, h10, hgc, l3, hil', ha, hgq, hr, hl4, hp]
        refine ⟨k' - 1, by omega, _, i + 1, rfl, by omega, by simp (maxSteps := 1000000) (disch := first | decide | omega | (simp only [next_push, next_set] <;> omega) | fail) only [↓SB, ↓SO, SM, ↓SD, ↓SL, ST, List.getElem?_cons_zero, List.getElem?_cons_succ, @if_true, @if_false, ↓reduceIte, reduceCtorEq, Bool.false_eq_true, beq_self_eq_true, repL, Nat.reduceMul, Nat.reduceLeDiff, Nat.zero_le, Nat.zero_mul, Nat.reduceAdd, Int.reduceEq, Int.reduceLT, Int.reduceLE, Nat.zero_add, Nat.add_zero, h2], by simp (maxSteps := 1000000) (disch := first | decide | omega | (simp only [next_push, next_set] <;> omega) | fail) only [↓SB, ↓SO, SM, ↓SD, ↓SL, ST, List.getElem?_cons_zero, List.getElem?_cons_succ, @if_true, @if_false, ↓reduceIte, reduceCtorEq, Bool.false_eq_true, beq_self_eq_true, repL, Nat.reduceMul, Nat.reduceLeDiff, Nat.zero_le, Nat.zero_mul, Nat.reduceAdd, Int.reduceEq, Int.reduceLT, Int.reduceLE, Nat.zero_add, Nat.add_zero, h3], by simp (maxSteps := 1000000) (disch := first | decide | omega | (simp only [next_push, next_set] <;> omega) | fail) only [↓SB, ↓SO, SM, ↓SD, ↓SL, ST, List.getElem?_cons_zero, List.getElem?_cons_succ, @if_true, @if_false, ↓reduceIte, reduceCtorEq, Bool.false_eq_true, beq_self_eq_true, repL, Nat.reduceMul, Nat.reduceLeDiff, Nat.zero_le, Nat.zero_mul, Nat.reduceAdd, Int.reduceEq, Int.reduceLT, Int.reduceLE, Nat.zero_add, Nat.add_zero, h4], by simp (maxSteps := 1000000) (disch := first | decide | omega | (simp only [next_push, next_set] <;> omega) | fail) only [↓SB, ↓SO, SM, ↓SD, ↓SL, ST, List.getElem?_cons_zero, List.getElem?_cons_succ, @if_true, @if_false, ↓reduceIte, reduceCtorEq, Bool.false_eq_true, beq_self_eq_true, repL, Nat.reduceMul, Nat.reduceLeDiff, Nat.zero_le, Nat.zero_mul, Nat.reduceAdd, Int.reduceEq, Int.reduceLT, Int.reduceLE, Nat.zero_add, Nat.add_zero, h5], by simp (maxSteps := 1000000) (disch := first | decide | omega | (simp only [next_push, next_set] <;> omega) | fail) only [↓SB, ↓SO, SM, ↓SD, ↓SL, ST, List.getElem?_cons_zero, List.getElem?_cons_succ, @if_true, @if_false, ↓reduceIte, reduceCtorEq, Bool.false_eq_true, beq_self_eq_true, repL, Nat.reduceMul, Nat.reduceLeDiff, Nat.zero_le, Nat.zero_mul, Nat.reduceAdd, Int.reduceEq, Int.reduceLT, Int.reduceLE, Nat.zero_add, Nat.add_zero, h9], by simp (maxSteps := 1000000) (disch := first | decide | omega | (simp only [next_push, next_set] <;> omega) | fail) only [↓SB, ↓SO, SM, ↓SD, ↓SL, ST, List.getElem?_cons_zero, List.getElem?_cons_succ, @if_true, @if_false, ↓reduceIte, reduceCtorEq, Bool.false_eq_true, beq_self_eq_true, repL, Nat.reduceMul, Nat.reduceLeDiff, Nat.zero_le, Nat.zero_mul, Nat.reduceAdd, Int.reduceEq, Int.reduceLT, Int.reduceLE, Nat.zero_add, Nat.add_zero, ]; rfl, fun x hx => ?_⟩
        rcases hstep x hx with rfl | hx
        · omega
        · exact hkn x hx
    · have hil' : ¬ (i : Int) < (c.df.length : Int) := by omega
      rw [List.take_of_length_le (by omega)] at hkn
      unfold r4_9 r4_10 r4_11 r4_12 r4_13
      simp (maxSteps := 1000000) (disch := first | decide | omega | (simp only [next_push, next_set] <;> omega) | fail) only [↓SB, ↓SO, SM, ↓SD, ↓SL, ST, List.getElem?_cons_zero, List.getElem?_cons_succ, @if_true, @if_false, ↓reduceIte, reduceCtorEq, Bool.false_eq_true, beq_self_eq_true, repL, Nat.reduceMul, Nat.reduceLeDiff, Nat.zero_le, Nat.zero_mul, Nat.reduceAdd, Int.reduceEq, Int.reduceLT, Int.reduceLE, Nat.zero_add, Nat.add_zero, h2, h3, h4, h5, h9, h10, hgc, hgr, l3, hil']
      refine suffix_two hT hf hc3 hfw (by omega) _ ?_
      intro H4 code1 c1 a1 b1 d1 p1 g1 hor1 hs1 hfr4 hn4
      have hle4 := hfr4.le
      have hgc4 := (hfr4.same' (j := H.next) (by omega)).trans hgc
      have hgr4 := (hfr4.same' (j := H.next + 1) (by omega)).trans hgr
      have t1 := hs1.sp.scalar
      have t2 := hs1.ov.scalar
      have t3 := hs1.df.scalar
      have t4 := hs1.py.scalar
      have t5 := hs1.fr.scalar
      have hc4 := hc3.fr' hfr4
      simp (maxSteps := 1000000) (disch := first | decide | omega | (simp only [next_push, next_set] <;> omega) | fail) only [↓SB, ↓SO, SM, ↓SD, ↓SL, ST, List.getElem?_cons_zero, List.getElem?_cons_succ, @if_true, @if_false, ↓reduceIte, reduceCtorEq, Bool.false_eq_true, beq_self_eq_true, repL, Nat.reduceMul, Nat.reduceLeDiff, Nat.zero_le, Nat.zero_mul, Nat.reduceAdd, Int.reduceEq, Int.reduceLT, Int.reduceLE, Nat.zero_add, Nat.add_zero, h2, h3, h4, h5, h9, h10, hgc4, hgr4, t1, t2, t3, t4, t5]
      have hF5 : Fr H4.next (fun _ => False) H4 ((H4.push (.cells 28 [.int .i64 0, .int .i64 0, .nils, .nils, .nils, .nils, .nils] false 0 false)).set H4.next (.cells 28 [i64 c1.f, i64 c1.u, a1, b1, d1, p1, g1] false 0 false)) := (by repeat (first | exact Fr.refl _ _ _ | refine Fr.push ?_ (by first | omega | (simp only [next_push, next_set] <;> omega)) (by first | omega | (simp only [next_push, next_set] <;> omega)) _ | refine Fr.set ?_ (.inl (by first | omega | (simp only [next_push, next_set] <;> omega))) (by first | omega | (simp only [next_push, next_set] <;> omega)) (by first | omega | (simp only [next_push, next_set] <;> omega)) _))
      have hg5 : ((H4.push (.cells 28 [.int .i64 0, .int .i64 0, .nils, .nils, .nils, .nils, .nils] false 0 false)).set H4.next (.cells 28 [i64 c1.f, i64 c1.u, a1, b1, d1, p1, g1] false 0 false)).get H4.next = some (.cells 28 [i64 c1.f, i64 c1.u, a1, b1, d1, p1, g1] false 0 false) := get_set_same _ _ _
      have hn5 : ((H4.push (.cells 28 [.int .i64 0, .int .i64 0, .nils, .nils, .nils, .nils, .nils] false 0 false)).set H4.next (.cells 28 [i64 c1.f, i64 c1.u, a1, b1, d1, p1, g1] false 0 false)).next = H4.next + 1 := by simp only [next_push, next_set]
      generalize ((H4.push (.cells 28 [.int .i64 0, .int .i64 0, .nils, .nils, .nils, .nils, .nils] false 0 false)).set H4.next (.cells 28 [i64 c1.f, i64 c1.u, a1, b1, d1, p1, g1] false 0 false)) = H5 at hF5 hg5 hn5 ⊢
      have hgc5 := (hF5.same' (j := H.next) (by omega)).trans hgc4
      have hgr5 := (hF5.same' (j := H.next + 1) (by omega)).trans hgr4
      have hc5 := hc4.fr' hF5
      refine suffix_two hT hf hc5 hfw (by omega) _ ?_
      intro H6 code2 c2 a2 b2 d2 p2 g2 hor2 hs2 hfr6 hn6
      have hle6 := hfr6.le
      have hgc6 := (hfr6.same' (j := H.next) (by omega)).trans hgc5
      have hgr6 := (hfr6.same' (j := H.next + 1) (by omega)).trans hgr5
      have hgA6 := (hfr6.same' (j := H4.next) (by omega)).trans hg5
      have u1 := hs2.sp.scalar
      have u2 := hs2.ov.scalar
      have u3 := hs2.df.scalar
      have u4 := hs2.py.scalar
      have u5 := hs2.fr.scalar
      have hF36 : Fr H.next (fun _ => False) H H6 := ((hF3.on (by omega) hfr4).on (by omega) hF5).on (by omega) hfr6
      rcases hor1 with ⟨rfl, ok1, so1, fw1⟩ | ⟨rfl, nok1⟩
      · rcases hor2 with ⟨rfl, ok2, so2, fw2⟩ | ⟨rfl, nok2⟩
        · unfold r4_14
          simp (maxSteps := 1000000) (disch := first | decide | omega | (simp only [next_push, next_set] <;> omega) | fail) only [↓SB, ↓SO, SM, ↓SD, ↓SL, ST, List.getElem?_cons_zero, List.getElem?_cons_succ, @if_true, @if_false, ↓reduceIte, reduceCtorEq, Bool.false_eq_true, beq_self_eq_true, repL, Nat.reduceMul, Nat.reduceLeDiff, Nat.zero_le, Nat.zero_mul, Nat.reduceAdd, Int.reduceEq, Int.reduceLT, Int.reduceLE, Nat.zero_add, Nat.add_zero, h2, h3, h4, h5, h9, h10, hgc6, hgr6, hgA6, t1, t2, t3, t4, t5, u1, u2, u3, u4, u5, ne_eq, not_true_eq_false]
          have hF7 : Fr H6.next (fun _ => False) H6 ((H6.push (.cells 28 [.int .i64 0, .int .i64 0, .nils, .nils, .nils, .nils, .nils] false 0 false)).set H6.next (.cells 28 [i64 c2.f, i64 c2.u, a2, b2, d2, p2, g2] false 0 false)) := (by repeat (first | exact Fr.refl _ _ _ | refine Fr.push ?_ (by first | omega | (simp only [next_push, next_set] <;> omega)) (by first | omega | (simp only [next_push, next_set] <;> omega)) _ | refine Fr.set ?_ (.inl (by first | omega | (simp only [next_push, next_set] <;> omega))) (by first | omega | (simp only [next_push, next_set] <;> omega)) (by first | omega | (simp only [next_push, next_set] <;> omega)) _))
          have hg7 : ((H6.push (.cells 28 [.int .i64 0, .int .i64 0, .nils, .nils, .nils, .nils, .nils] false 0 false)).set H6.next (.cells 28 [i64 c2.f, i64 c2.u, a2, b2, d2, p2, g2] false 0 false)).get H6.next = some (.cells 28 [i64 c2.f, i64 c2.u, a2, b2, d2, p2, g2] false 0 false) := get_set_same _ _ _
          have hn7 : ((H6.push (.cells 28 [.int .i64 0, .int .i64 0, .nils, .nils, .nils, .nils, .nils] false 0 false)).set H6.next (.cells 28 [i64 c2.f, i64 c2.u, a2, b2, d2, p2, g2] false 0 false)).next = H6.next + 1 := by simp only [next_push, next_set]
          generalize ((H6.push (.cells 28 [.int .i64 0, .int .i64 0, .nils, .nils, .nils, .nils, .nils] false 0 false)).set H6.next (.cells 28 [i64 c2.f, i64 c2.u, a2, b2, d2, p2, g2] false 0 false)) = H7 at hF7 hg7 hn7 ⊢
          have hs17 := ((hs1.fr' hF5).fr' hfr6).fr' hF7
          refine suffix_two hT hf hs17 fw1 (by omega) _ ?_
          intro H8 code3 c3 a3 b3 d3 p3 g3 hor3 hs3 hfr8 hn8
          have hle8 := hfr8.le
          rcases hor3 with ⟨rfl, ok3, so3, fw3⟩ | ⟨rfl, nok3⟩
          · have heq := rest_rest (by omega) ok1 ok2 hkn so1 so2 so3
            have v1 := hs3.sp.scalar
            have v2 := hs3.ov.scalar
            have v3 := hs3.df.scalar
            have v4 := hs3.py.scalar
            have v5 := hs3.fr.scalar
            have hgc8 := (hfr8.same' (j := H.next) (by omega)).trans ((hF7.same' (j := H.next) (by omega)).trans hgc6)
            have hgA8 := (hfr8.same' (j := H4.next) (by omega)).trans ((hF7.same' (j := H4.next) (by omega)).trans hgA6)
            have hgB8 := (hfr8.same' (j := H6.next) (by omega)).trans hg7
            unfold r4_15
            simp (maxSteps := 1000000) (disch := first | decide | omega | (simp only [next_push, next_set] <;> omega) | fail) only [↓SB, ↓SO, SM, ↓SD, ↓SL, ST, List.getElem?_cons_zero, List.getElem?_cons_succ, @if_true, @if_false, ↓reduceIte, reduceCtorEq, Bool.false_eq_true, beq_self_eq_true, repL, Nat.reduceMul, Nat.reduceLeDiff, Nat.zero_le, Nat.zero_mul, Nat.reduceAdd, Int.reduceEq, Int.reduceLT, Int.reduceLE, Nat.zero_add, Nat.add_zero, h2, h3, h4, h5, h9, h10, hgc8, hgA8, hgB8, v1, v2, v3, v4, v5]
            have hF9 : Fr H8.next (fun _ => False) H8 ((H8.push (.cells 28 [.int .i64 0, .int .i64 0, .nils, .nils, .nils, .nils, .nils] false 0 false)).set H8.next (.cells 28 [i64 c3.f, i64 c3.u, a3, b3, d3, p3, g3] false 0 false)) := (by repeat (first | exact Fr.refl _ _ _ | refine Fr.push ?_ (by first | omega | (simp only [next_push, next_set] <;> omega)) (by first | omega | (simp only [next_push, next_set] <;> omega)) _ | refine Fr.set ?_ (.inl (by first | omega | (simp only [next_push, next_set] <;> omega))) (by first | omega | (simp only [next_push, next_set] <;> omega)) (by first | omega | (simp only [next_push, next_set] <;> omega)) _))
            have hg9 : ((H8.push (.cells 28 [.int .i64 0, .int .i64 0, .nils, .nils, .nils, .nils, .nils] false 0 false)).set H8.next (.cells 28 [i64 c3.f, i64 c3.u, a3, b3, d3, p3, g3] false 0 false)).get H8.next = some (.cells 28 [i64 c3.f, i64 c3.u, a3, b3, d3, p3, g3] false 0 false) := get_set_same _ _ _
            have hn9 : ((H8.push (.cells 28 [.int .i64 0, .int .i64 0, .nils, .nils, .nils, .nils, .nils] false 0 false)).set H8.next (.cells 28 [i64 c3.f, i64 c3.u, a3, b3, d3, p3, g3] false 0 false)).next = H8.next + 1 := by simp only [next_push, next_set]
            generalize ((H8.push (.cells 28 [.int .i64 0, .int .i64 0, .nils, .nils, .nils, .nils, .nils] false 0 false)).set H8.next (.cells 28 [i64 c3.f, i64 c3.u, a3, b3, d3, p3, g3] false 0 false)) = H9 at hF9 hg9 hn9 ⊢
            refine same_run hT hf (((hs2.fr' hF7).fr' hfr8).fr' hF9) fw2 (hs3.fr' hF9) fw3 (by omega) _ ?_
            intro H10 hfr10 hn10
            have hle10 := hfr10.le
            have hgc10 := (hfr10.same' (j := H.next) (by omega)).trans ((hF9.same' (j := H.next) (by omega)).trans hgc8)
            have hgA10 := (hfr10.same' (j := H4.next) (by omega)).trans ((hF9.same' (j := H4.next) (by omega)).trans hgA8)
            rw [heq, eqStr_self]
            simp (maxSteps := 1000000) (disch := first | decide | omega | (simp only [next_push, next_set] <;> omega) | fail) only [↓SB, ↓SO, SM, ↓SD, ↓SL, ST, List.getElem?_cons_zero, List.getElem?_cons_succ, @if_true, @if_false, ↓reduceIte, reduceCtorEq, Bool.false_eq_true, beq_self_eq_true, repL, Nat.reduceMul, Nat.reduceLeDiff, Nat.zero_le, Nat.zero_mul, Nat.reduceAdd, Int.reduceEq, Int.reduceLT, Int.reduceLE, Nat.zero_add, Nat.add_zero, h2, h3, h4, h5, h9, h10, hgc10, hgA10, so1.f, so1.u]
            exact ((((hF36.on (by omega) hF7).on (by omega) hfr8).on (by omega) hF9).on (by omega) hfr10)
          · exact absurd (rest_ok (by omega) ok1 ok2 so1) nok3
        · simp (maxSteps := 1000000) (disch := first | decide | omega | (simp only [next_push, next_set] <;> omega) | fail) only [↓SB, ↓SO, SM, ↓SD, ↓SL, ST, List.getElem?_cons_zero, List.getElem?_cons_succ, @if_true, @if_false, ↓reduceIte, reduceCtorEq, Bool.false_eq_true, beq_self_eq_true, repL, Nat.reduceMul, Nat.reduceLeDiff, Nat.zero_le, Nat.zero_mul, Nat.reduceAdd, Int.reduceEq, Int.reduceLT, Int.reduceLE, Nat.zero_add, Nat.add_zero, h2, h3, h4, h5, h9, h10, u1, u2, u3, u4, u5, ne_eq, not_true_eq_false, not_false_eq_true, yes_tup]
          exact hF36.on (by omega) (by repeat (first | exact Fr.refl _ _ _ | refine Fr.push ?_ (by first | omega | (simp only [next_push, next_set] <;> omega)) (by first | omega | (simp only [next_push, next_set] <;> omega)) _ | refine Fr.set ?_ (.inl (by first | omega | (simp only [next_push, next_set] <;> omega))) (by first | omega | (simp only [next_push, next_set] <;> omega)) (by first | omega | (simp only [next_push, next_set] <;> omega)) _))
      · rcases hor2 with ⟨rfl, ok2, so2, fw2⟩ | ⟨rfl, nok2⟩
        · simp (maxSteps := 1000000) (disch := first | decide | omega | (simp only [next_push, next_set] <;> omega) | fail) only [↓SB, ↓SO, SM, ↓SD, ↓SL, ST, List.getElem?_cons_zero, List.getElem?_cons_succ, @if_true, @if_false, ↓reduceIte, reduceCtorEq, Bool.false_eq_true, beq_self_eq_true, repL, Nat.reduceMul, Nat.reduceLeDiff, Nat.zero_le, Nat.zero_mul, Nat.reduceAdd, Int.reduceEq, Int.reduceLT, Int.reduceLE, Nat.zero_add, Nat.add_zero, h2, h3, h4, h5, h9, h10, u1, u2, u3, u4, u5, ne_eq, not_true_eq_false, not_false_eq_true, yes_tup]
          exact hF36.on (by omega) (by repeat (first | exact Fr.refl _ _ _ | refine Fr.push ?_ (by first | omega | (simp only [next_push, next_set] <;> omega)) (by first | omega | (simp only [next_push, next_set] <;> omega)) _ | refine Fr.set ?_ (.inl (by first | omega | (simp only [next_push, next_set] <;> omega))) (by first | omega | (simp only [next_push, next_set] <;> omega)) (by first | omega | (simp only [next_push, next_set] <;> omega)) _))
        · simp (maxSteps := 1000000) (disch := first | decide | omega | (simp only [next_push, next_set] <;> omega) | fail) only [↓SB, ↓SO, SM, ↓SD, ↓SL, ST, List.getElem?_cons_zero, List.getElem?_cons_succ, @if_true, @if_false, ↓reduceIte, reduceCtorEq, Bool.false_eq_true, beq_self_eq_true, repL, Nat.reduceMul, Nat.reduceLeDiff, Nat.zero_le, Nat.zero_mul, Nat.reduceAdd, Int.reduceEq, Int.reduceLT, Int.reduceLE, Nat.zero_add, Nat.add_zero, h2, h3, h4, h5, h9, h10, u1, u2, u3, u4, u5, ne_eq, not_true_eq_false, not_false_eq_true, yes_tup]
          exact hF36.on (by omega) (by repeat (first | exact Fr.refl _ _ _ | refine Fr.push ?_ (by first | omega | (simp only [next_push, next_set] <;> omega)) (by first | omega | (simp only [next_push, next_set] <;> omega)) _ | refine Fr.set ?_ (.inl (by first | omega | (simp only [next_push, next_set] <;> omega))) (by first | omega | (simp only [next_push, next_set] <;> omega)) (by first | omega | (simp only [next_push, next_set] <;> omega)) _))
  · rw [Bool.not_eq_true] at hfew
    simp (maxSteps := 1000000) (disch := first | decide | omega | (simp only [next_push, next_set] <;> omega) | fail) only [↓SB, ↓SO, SM, ↓SD, ↓SL, ST, List.getElem?_cons_zero, List.getElem?_cons_succ, @if_true, @if_false, ↓reduceIte, reduceCtorEq, Bool.false_eq_true, beq_self_eq_true, repL, Nat.reduceMul, Nat.reduceLeDiff, Nat.zero_le, Nat.zero_mul, Nat.reduceAdd, Int.reduceEq, Int.reduceLT, Int.reduceLE, Nat.zero_add, Nat.add_zero, hfew, Bool.not_false]
    exact hF3

end
end Go.Proofs.YtbokoinmlbipmaaGreatDoor.Ev.Sy
