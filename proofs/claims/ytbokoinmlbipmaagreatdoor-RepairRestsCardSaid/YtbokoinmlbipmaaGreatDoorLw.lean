/- The row of RepairRests. -/
import Derived.Test.YtbokoinmlbipmaaGreatDoorJfRepairRests
import Derived.Test.YtbokoinmlbipmaaGreatDoorSy4
import Derived.Test.YtbokoinmlbipmaaGreatDoorHdH
import Derived.ProofKit
import Derived.Test.YtbokoinmlbipmaaGreatDoorWn
import Derived.OpenShut
import Derived.Carry
import Derived.Stop.Joined
import Derived.Stop.LaidErr
import Derived.Lib.LaidTab
namespace Go.Proofs.YtbokoinmlbipmaaGreatDoor.Lw
open Go Go.Proofs Go.Proofs.YtbokoinmlbipmaaGreatDoor Go.Proofs.YtbokoinmlbipmaaGreatDoor.Ev Go.ChangeShapes Go.WideShapes Go.ChangeAt Go.RowKit
open Go.ChangeMaps (open_string shut_string)
set_option linter.unusedVariables false


/-! ### The known call -/

theorem hd_ok : COK Tryz.prog Hd.globs (runM Tryz.prog Hd.globs 11 Hd.TH 100000 60) := runM_ok Hd.mixed Hd.globsBelow Hd.TH_ok 60
theorem needs_ok : chkNeedsOK 11 Hd.needs = true := by decide +kernel
theorem needs_met : chkNeeds (setNeeds Hd.needs ⟨.nil, 11⟩) Hd.needs = true := by decide +kernel
theorem table_ok : TableOK Tryz.prog Ev.Sy.globs 11 (Ev.Sy.T6 Hd.needs) := Ev.Sy.T6_ok (C := runM Tryz.prog Hd.globs 11 Hd.TH 100000 60) hd_ok needs_ok Hd.head_true

/-! ### The package's variables -/

abbrev laid : List (String × DataW Unit) := Wn.laid


theorem ints_rel {φ : Emb} {k : IntKind} (zs : List Int) : All2 (VRel φ) (zs.map (AVal.int k)) (zs.map (Value.int k)) := by
  induction zs with
  | nil => exact .nil
  | cons z l ih => exact .cons (.int k z) ih

theorem holds_tab {W : World} {name : String} {k : IntKind} {zs : List Int} {g : Nat} (h : Lib.TabIs Tryz.prog W name k zs) (hg : Tryz.prog.globalNamed name = some g) : Holds W (g, zs.map (AVal.int k)) := by
  unfold Lib.TabIs World.var? at h
  rw [hg, Option.bind_some] at h
  split at h
  · rename_i cs e fr hc
    obtain rfl := Option.some.inj h
    exact ⟨_, e, fr, hc, by simpa using ints_rel zs⟩
  · cases h

def pow10 : List Int := [1, 10, 100, 1000, 10000, 100000, 1000000, 10000000, 100000000, 1000000000, 10000000000, 100000000000, 1000000000000, 10000000000000, 100000000000000, 1000000000000000, 10000000000000000, 100000000000000000, 1000000000000000000, 10000000000000000000]
def tab64 : List Int := [0, 1, 56, 2, 57, 49, 28, 3, 61, 58, 42, 50, 38, 29, 17, 4, 62, 47, 59, 36, 45, 43, 51, 22, 53, 39, 33, 30, 24, 18, 12, 5, 63, 55, 48, 27, 60, 41, 37, 16, 46, 35, 44, 21, 52, 32, 23, 11, 54, 26, 40, 15, 34, 20, 31, 10, 25, 14, 19, 9, 13, 8, 7, 6]
theorem needs_eq : Hd.needs = [(8, tab64.map (AVal.int .u8)), (3, pow10.map (AVal.int .u64))] := rfl

theorem of_laid {W : World} (h : laidMetH Tryz.prog laid W) : 11 ≤ W.heap.size ∧ ∀ q ∈ Hd.needs, q.1 < 11 ∧ Holds W q := by
  rw [MakeChecks.laidMetH_plain _ _ _ Wn.plain] at h
  have h3 := laidMet.tail (laidMet.tail h)
  have h5 := laidMet.tail (laidMet.tail h3)
  have h7 := laidMet.tail (laidMet.tail h5)
  have p3 := holds_tab (k := .u64) (zs := pow10) (g := 3) (Lib.tabIs_of_head (P := Tryz.prog) (name := "internal/strconv.uint64pow10") (g := 3) (t := 747) (e := 276) (n := 20) (by kernel_rfl) (by kernel_rfl) Tryz.underlying747 Tryz.underlying276 (by kernel_rfl) (by kernel_rfl) h3) (by kernel_rfl)
  have p8 := holds_tab (k := .u8) (zs := tab64) (g := 8) (Lib.tabIs_of_head (P := Tryz.prog) (name := "math/bits.deBruijn64tab") (g := 8) (t := 778) (e := 5) (n := 64) (by kernel_rfl) (by kernel_rfl) Tryz.underlying778 Tryz.underlying5 (by kernel_rfl) (by kernel_rfl) h5) (by kernel_rfl)
  refine ⟨?_, ?_⟩
  · obtain ⟨ps, ⟨g, t, cs, fuel, p, q, hg, ht, hv, -, -, -⟩, -⟩ := h7
    obtain rfl := Option.some.inj ((show Tryz.prog.globalNamed "unicode/utf8.acceptRanges" = some 10 by kernel_rfl).symm.trans hg)
    unfold World.var? at hv
    rw [hg, Option.bind_some] at hv
    split at hv
    · rename_i cs' e fr hc
      have := (Array.getElem?_eq_some_iff.1 hc).1
      omega
    · cases hv
  · intro q hq
    rw [needs_eq] at hq
    rcases List.mem_cons.1 hq with rfl | hq
    · exact ⟨by decide, p8⟩
    · rcases List.mem_cons.1 hq with rfl | hq
      · exact ⟨by decide, p3⟩
      · cases hq

/-! ### The witness: the variables as they are laid, the zero arguments -/

def zeros : Array Value := #[.agg #[.int .i64 0, .int .i64 0, .slice none 0 0, .slice none 0 0, .slice none 0 0, .slice none 0 0, .slice none 0 0], .agg #[.string ByteArray.empty, .string ByteArray.empty, .int .i64 0, .slice none 0 0, .int .i64 0, .int .i64 0], .int .i64 0, .int .i64 0]

theorem wok (os : Os) : Input.okWideB Tryz.prog (Wn.WW os zeros) 4 ⟨#[], zeros, []⟩ = true := by rw [Wn.ww]; kernel_rfl
theorem wpre {H : Type} (enc : TypeId × Value → H) (os : Os) : Rows.repairRestsSpec.preB enc Tryz.prog Tryz.f4 [] false (Wn.WW os zeros).memory zeros 8 = true := by rw [Wn.ww]; kernel_rfl
theorem wsz {H : Type} (enc : TypeId × Value → H) (os : Os) : Rows.repairRestsSpec.sizedB enc Tryz.prog Tryz.f4 false (Wn.WW os zeros).memory zeros 8 = true := by rw [Wn.ww]; kernel_rfl

set_option maxRecDepth 100000 in
theorem lifted (os : Os) (started : os.Started) (H : Type) (enc : TypeId × Value → H) :
    ReturnsInHanded {} Tryz.checked os 4 .any (fun w args => (Rows.repairRestsSpec.pre enc Tryz.prog Tryz.f4 [] false w args ∧ laidMetH Tryz.prog laid w) ∧ sizedMet enc Tryz.prog Tryz.f4 (OpenSpec.ofChange Rows.repairRestsSpec) false w args)
      (Rows.repairRestsSpec.post enc Tryz.prog Tryz.f4 false true false false) := by
  refine returnsInHanded_of_change_and (C := Tryz.checked) (X := fun w _ => laidMetH Tryz.prog laid w) (fun _ _ _ hh h => h.of_heap hh) Jf.own started Jf.repairRests.noInit Tryz.func4
    (ChangeSpec.witness_shaped (enc := enc) (C := Tryz.checked) (os := os) (X := fun w _ => laidMetH Tryz.prog laid w) false (World.laidAll Tryz.prog os laid) zeros 8 (World.laidAll_os _ _ _)
      (Wn.wshaped os zeros) (wok os) (wpre enc os) (wsz enc os) (Wn.wlaid os zeros)) ?_
  intro W base args ds gs before hval0 hW _ _ hL _
  have hval : ∀ (j : Nat) t v, Tryz.f4.params[j]? = some t → args[j]? = some v → Value.okWide Tryz.prog W .any base t v := hval0
  have hW' := hW
  obtain ⟨p, q, hA0, hV, rfl, hfz, hnd⟩ := hW
  have hA : DataW.TrodAll enc Tryz.prog W 0 (fun _ => true) true Tryz.f4.params.toList args.toList ds p := hA0
  rw [Tryz.params4] at hA hval
  obtain ⟨v0, vs0, d0, ds0, p0, q0, hargs, rfl, rfl, h0, r0⟩ := trodAll_cons hA
  obtain ⟨v1, vs1, d1, ds1, p1, q1, rfl, rfl, rfl, h1, r1⟩ := trodAll_cons r0
  obtain ⟨v2, vs2, d2, ds2, p2, q2, rfl, rfl, rfl, h2, r2⟩ := trodAll_cons r1
  obtain ⟨v3, vs3, d3, ds3, p3, q3, rfl, rfl, rfl, h3, r3⟩ := trodAll_cons r2
  obtain ⟨rfl, rfl, rfl⟩ := trodAll_nil r3
  obtain rfl : args = #[v0, v1, v2, v3] := by cases args; simp_all
  obtain ⟨rfl, rfl⟩ := trodVars_none hV
  obtain ⟨m, rfl, rfl, rfl, w2⟩ := open_int Tryz.underlying3 (hval 2 3 v2 rfl rfl) h2
  obtain ⟨k, rfl, rfl, rfl, w3⟩ := open_int Tryz.underlying3 (hval 3 3 v3 rfl rfl) h3
  have k0 := h0
  have k1 := h1
  have lt0 : ∀ x ∈ p0, x.block < W.heap.size := by obtain ⟨m, hm⟩ := k0; exact DataW.trod_lt m _ _ _ hm
  have lt1 : ∀ x ∈ p1, x.block < W.heap.size := by obtain ⟨m, hm⟩ := k1; exact DataW.trod_lt m _ _ _ hm
  obtain ⟨hsz, hn⟩ := of_laid hL
  have run := Ev.Sy.rests_calls needs_met Hd.mixed table_ok hsz hn (hval 0 28 v0 rfl rfl) h0 (hval 1 33 v1 rfl rfl) m k
  clear hA0 hval0
  refine run.mono fun e W' ⟨he, bel⟩ => ?_
  subst he
  exact ⟨_, rfl, _, _, _, [], _, [], hW', trodAll_mk1 (shut_bool Tryz.underlying4 _), trodAll_cons_mk (Below.trod Jf.laidOut (by kernel_rfl) (of_decide_eq_true (by kernel_rfl)) k0 bel lt0) (trodAll_cons_mk (Below.trod Jf.laidOut (by kernel_rfl) (of_decide_eq_true (by kernel_rfl)) k1 bel lt1) (trodAll_cons_mk (shut_int Tryz.underlying3 w2) (trodAll_cons_mk (shut_int Tryz.underlying3 w3) trodAll_mk0))), rfl, bel.frame _, fun h => by cases h⟩

theorem repairRests_row : Rows.RepairRestsSaid :=
  OpenClaim.holds_of_wide 4 Tryz.f4 rfl rfl rfl rfl rfl rfl rfl ⟨rfl, rfl, rfl, rfl, rfl⟩ rfl rfl rfl rfl rfl Jf.repairRests.named Tryz.func4 Jf.repairRests.closed
    Jf.repairRests.inst Jf.repairRests.wrap (fun os started H enc _ => lifted os started H enc)

end Go.Proofs.YtbokoinmlbipmaaGreatDoor.Lw
