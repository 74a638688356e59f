import Derived.CallsIn
import Derived.Below
import Derived.Laws.World
import Derived.Laws.StructEq
import Derived.Laws.Slices
import Derived.Laws.Unary
import Derived.Laws.Build
import Derived.Laws.Pointers
import Derived.IntWalk
import Derived.Laws.Cells
import Derived.Laws.Rows
import Derived.Laws.Append

-- EvVal
namespace Go.Proofs.YtbokoinmlbipmaaGreatDoor.Ev

/-- Where the abstract row `id` lies: its block, the place of its first cell, and how many cells the block has. -/
structure Spot where
  block : Nat
  base : Nat
  size : Nat

abbrev Emb := Nat → Option Spot

inductive AVal where
  | bool (b : Bool)
  | int (k : IntKind) (n : Int)
  | str (n v : Nat)
  | ptr (id off : Nat)
  | nilp
  | slice (id off len cap : Nat)
  | sliceO (id off len es : Nat)
  | nils
  | map (id : Nat)
  | nilm
  | func (f : FuncId) (first captured : List AVal)
  | yld (id : Nat)
  | nilf
  | iface (t : TypeId) (v : AVal)
  | niliface
  | agg (l : List AVal)
  | tup (l : List AVal)
  deriving Inhabited

/-- The bytes of a packed string: n of them, the first one is the least digit of v. -/
def bytesOf : Nat → Nat → List UInt8
  | 0, _ => []
  | n + 1, v => UInt8.ofNat (v % 256) :: bytesOf n (v / 256)

def unpack (n v : Nat) : ByteArray := ⟨(bytesOf n v).toArray⟩

def packL : List UInt8 → Nat
  | [] => 0
  | b :: l => b.toNat + 256 * packL l

@[simp] theorem bytesOf_length (n v : Nat) : (bytesOf n v).length = n := by
  induction n generalizing v with
  | zero => rfl
  | succ n ih => simp [bytesOf, ih]

@[simp] theorem unpack_size (n v : Nat) : (unpack n v).size = n := by
  simp [unpack, ByteArray.size]

theorem bytesOf_pack (l : List UInt8) : bytesOf l.length (packL l) = l := by
  induction l with
  | nil => rfl
  | cons b l ih =>
    have hb : b.toNat < 256 := b.toNat_lt
    have h1 : (b.toNat + 256 * packL l) % 256 = b.toNat := by omega
    have h2 : (b.toNat + 256 * packL l) / 256 = packL l := by omega
    simp only [List.length_cons, packL, bytesOf, h1, h2, ih]
    simp

mutual
/-- The abstract value v stands for x, where the rows lie as φ says. -/
inductive VRel (φ : Emb) : AVal → Value → Prop
  | bool (b : Bool) : VRel φ (.bool b) (.bool b)
  | int (k : IntKind) (n : Int) : VRel φ (.int k n) (.int k n)
  | str (n v : Nat) : VRel φ (.str n v) (.string (unpack n v))
  | ptr {id off : Nat} {s : Spot} (h : φ id = some s) : VRel φ (.ptr id off) (.pointer (some ⟨s.block, s.base + off, none⟩))
  | nilp : VRel φ .nilp (.pointer none)
  | slice {id off len cap : Nat} {s : Spot} (h : φ id = some s) : VRel φ (.slice id off len cap) (.slice (some ⟨s.block, s.base + off, none⟩) len cap)
  | sliceO {id off len es cap o : Nat} {s : Spot} (h : φ id = some s) (hc : len ≤ cap) (hs : s.base + off + cap * es ≤ s.size) (ho : cap ≠ 0 → o = s.base + off) :
      VRel φ (.sliceO id off len es) (.slice (some ⟨s.block, o, none⟩) len cap)
  | nils : VRel φ .nils (.slice none 0 0)
  | map {id : Nat} {s : Spot} (h : φ id = some s) : VRel φ (.map id) (.map (some s.block))
  | nilm : VRel φ .nilm (.map none)
  | func (f : FuncId) {first captured : List AVal} {fv cv : List Value} (h1 : VRels φ first fv) (h2 : VRels φ captured cv) :
      VRel φ (.func f first captured) (.func (.func f) fv.toArray cv.toArray)
  | yld {id : Nat} {s : Spot} (h : φ id = some s) : VRel φ (.yld id) (.func (.yield s.block) #[] #[])
  | nilf : VRel φ .nilf .nilFunc
  | iface (t : TypeId) {v : AVal} {x : Value} (h : VRel φ v x) : VRel φ (.iface t v) (.iface t x)
  | niliface : VRel φ .niliface .nilIface
  | agg {l : List AVal} {vs : List Value} (h : VRels φ l vs) : VRel φ (.agg l) (.agg vs.toArray)
  | tup {l : List AVal} {vs : List Value} (h : VRels φ l vs) : VRel φ (.tup l) (.tuple vs.toArray)
inductive VRels (φ : Emb) : List AVal → List Value → Prop
  | nil : VRels φ [] []
  | cons {v : AVal} {x : Value} {l : List AVal} {m : List Value} (h : VRel φ v x) (t : VRels φ l m) : VRels φ (v :: l) (x :: m)
end

def Emb.le (φ ψ : Emb) : Prop := ∀ id s, φ id = some s → ψ id = some s

theorem Emb.le.refl (φ : Emb) : φ.le φ := fun _ _ h => h
theorem Emb.le.trans {φ ψ χ : Emb} (h : φ.le ψ) (k : ψ.le χ) : φ.le χ := fun i s e => k i s (h i s e)

mutual
theorem VRel.mono {φ ψ : Emb} (k : φ.le ψ) : ∀ {v : AVal} {x : Value}, VRel φ v x → VRel ψ v x
  | _, _, .bool b => .bool b
  | _, _, .int k n => .int k n
  | _, _, .str n v => .str n v
  | _, _, .ptr h => .ptr (k _ _ h)
  | _, _, .nilp => .nilp
  | _, _, .slice h => .slice (k _ _ h)
  | _, _, .sliceO h hc hs ho => .sliceO (k _ _ h) hc hs ho
  | _, _, .nils => .nils
  | _, _, .map h => .map (k _ _ h)
  | _, _, .nilm => .nilm
  | _, _, .func f h1 h2 => .func f (VRels.mono k h1) (VRels.mono k h2)
  | _, _, .yld h => .yld (k _ _ h)
  | _, _, .nilf => .nilf
  | _, _, .iface t h => .iface t (VRel.mono k h)
  | _, _, .niliface => .niliface
  | _, _, .agg h => .agg (VRels.mono k h)
  | _, _, .tup h => .tup (VRels.mono k h)
theorem VRels.mono {φ ψ : Emb} (k : φ.le ψ) : ∀ {l : List AVal} {m : List Value}, VRels φ l m → VRels ψ l m
  | _, _, .nil => .nil
  | _, _, .cons h t => .cons (VRel.mono k h) (VRels.mono k t)
end

theorem VRels.length {φ : Emb} : ∀ {l : List AVal} {m : List Value}, VRels φ l m → l.length = m.length
  | _, _, .nil => rfl
  | _, _, .cons _ t => by simp [VRels.length t]

theorem VRels.append {φ : Emb} : ∀ {l : List AVal} {m : List Value} {l' : List AVal} {m' : List Value}, VRels φ l m → VRels φ l' m' → VRels φ (l ++ l') (m ++ m')
  | _, _, _, _, .nil, k => k
  | _, _, _, _, .cons h t, k => .cons h (VRels.append t k)

theorem VRels.get {φ : Emb} : ∀ {l : List AVal} {m : List Value}, VRels φ l m → ∀ i : Nat, (∀ v, l[i]? = some v → ∃ x, m[i]? = some x ∧ VRel φ v x)
  | _, _, .nil, _, _, h => by simp at h
  | _, _, .cons h t, 0, v, e => by simp at e; subst e; exact ⟨_, rfl, h⟩
  | _, _, .cons h t, i + 1, v, e => by simp at e; simpa using VRels.get t i v e

theorem VRels.of_get {φ : Emb} : ∀ {l : List AVal} {m : List Value}, l.length = m.length → (∀ (i : Nat) v x, l[i]? = some v → m[i]? = some x → VRel φ v x) → VRels φ l m
  | [], [], _, _ => .nil
  | v :: l, x :: m, h, k => .cons (k 0 v x rfl rfl) (VRels.of_get (by simpa using h) fun i v x a b => k (i + 1) v x (by simpa using a) (by simpa using b))
  | [], _ :: _, h, _ => by simp at h
  | _ :: _, [], h, _ => by simp at h

theorem VRels.take {φ : Emb} : ∀ {l : List AVal} {m : List Value}, VRels φ l m → ∀ n, VRels φ (l.take n) (m.take n)
  | _, _, .nil, n => by simp; exact .nil
  | _, _, .cons h t, 0 => by simp; exact .nil
  | _, _, .cons h t, n + 1 => by simp; exact .cons h (VRels.take t n)
theorem VRels.drop {φ : Emb} : ∀ {l : List AVal} {m : List Value}, VRels φ l m → ∀ n, VRels φ (l.drop n) (m.drop n)
  | _, _, .nil, n => by simp; exact .nil
  | _, _, .cons h t, 0 => .cons h t
  | _, _, .cons h t, n + 1 => by simpa using VRels.drop t n

end Go.Proofs.YtbokoinmlbipmaaGreatDoor.Ev

-- EvTrie
namespace Go.Proofs.YtbokoinmlbipmaaGreatDoor.Ev
noncomputable section

/-- A value that is reckoned once: the kernel keeps what a closed box comes to. -/
structure Box (α : Type) where
  val : α

inductive D8 where
  | d0 | d1 | d2 | d3 | d4 | d5 | d6 | d7
  deriving DecidableEq

inductive T8 (α : Type) where
  | nil
  | leaf (x : α)
  | node (a b c d e f g h : T8 α)

namespace T8
variable {α : Type}

def childB (i : D8) : Box (T8 α → T8 α) :=
  match i with
  | .d0 => ⟨fun t => T8.rec (motive := fun _ => T8 α) .nil (fun _ => .nil) (fun a _ _ _ _ _ _ _ _ _ _ _ _ _ _ _ => a) t⟩
  | .d1 => ⟨fun t => T8.rec (motive := fun _ => T8 α) .nil (fun _ => .nil) (fun _ b _ _ _ _ _ _ _ _ _ _ _ _ _ _ => b) t⟩
  | .d2 => ⟨fun t => T8.rec (motive := fun _ => T8 α) .nil (fun _ => .nil) (fun _ _ c _ _ _ _ _ _ _ _ _ _ _ _ _ => c) t⟩
  | .d3 => ⟨fun t => T8.rec (motive := fun _ => T8 α) .nil (fun _ => .nil) (fun _ _ _ d _ _ _ _ _ _ _ _ _ _ _ _ => d) t⟩
  | .d4 => ⟨fun t => T8.rec (motive := fun _ => T8 α) .nil (fun _ => .nil) (fun _ _ _ _ e _ _ _ _ _ _ _ _ _ _ _ => e) t⟩
  | .d5 => ⟨fun t => T8.rec (motive := fun _ => T8 α) .nil (fun _ => .nil) (fun _ _ _ _ _ f _ _ _ _ _ _ _ _ _ _ => f) t⟩
  | .d6 => ⟨fun t => T8.rec (motive := fun _ => T8 α) .nil (fun _ => .nil) (fun _ _ _ _ _ _ g _ _ _ _ _ _ _ _ _ => g) t⟩
  | .d7 => ⟨fun t => T8.rec (motive := fun _ => T8 α) .nil (fun _ => .nil) (fun _ _ _ _ _ _ _ h _ _ _ _ _ _ _ _ => h) t⟩
def child (i : D8) (t : T8 α) : T8 α := (childB i).val t

def putB (i : D8) : Box (T8 α → T8 α → T8 α) :=
  match i with
  | .d0 => ⟨fun y t => T8.rec (motive := fun _ => T8 α) (.node y .nil .nil .nil .nil .nil .nil .nil) (fun _ => .node y .nil .nil .nil .nil .nil .nil .nil) (fun _ b c d e f g h _ _ _ _ _ _ _ _ => .node y b c d e f g h) t⟩
  | .d1 => ⟨fun y t => T8.rec (motive := fun _ => T8 α) (.node .nil y .nil .nil .nil .nil .nil .nil) (fun _ => .node .nil y .nil .nil .nil .nil .nil .nil) (fun a _ c d e f g h _ _ _ _ _ _ _ _ => .node a y c d e f g h) t⟩
  | .d2 => ⟨fun y t => T8.rec (motive := fun _ => T8 α) (.node .nil .nil y .nil .nil .nil .nil .nil) (fun _ => .node .nil .nil y .nil .nil .nil .nil .nil) (fun a b _ d e f g h _ _ _ _ _ _ _ _ => .node a b y d e f g h) t⟩
  | .d3 => ⟨fun y t => T8.rec (motive := fun _ => T8 α) (.node .nil .nil .nil y .nil .nil .nil .nil) (fun _ => .node .nil .nil .nil y .nil .nil .nil .nil) (fun a b c _ e f g h _ _ _ _ _ _ _ _ => .node a b c y e f g h) t⟩
  | .d4 => ⟨fun y t => T8.rec (motive := fun _ => T8 α) (.node .nil .nil .nil .nil y .nil .nil .nil) (fun _ => .node .nil .nil .nil .nil y .nil .nil .nil) (fun a b c d _ f g h _ _ _ _ _ _ _ _ => .node a b c d y f g h) t⟩
  | .d5 => ⟨fun y t => T8.rec (motive := fun _ => T8 α) (.node .nil .nil .nil .nil .nil y .nil .nil) (fun _ => .node .nil .nil .nil .nil .nil y .nil .nil) (fun a b c d e _ g h _ _ _ _ _ _ _ _ => .node a b c d e y g h) t⟩
  | .d6 => ⟨fun y t => T8.rec (motive := fun _ => T8 α) (.node .nil .nil .nil .nil .nil .nil y .nil) (fun _ => .node .nil .nil .nil .nil .nil .nil y .nil) (fun a b c d e f _ h _ _ _ _ _ _ _ _ => .node a b c d e f y h) t⟩
  | .d7 => ⟨fun y t => T8.rec (motive := fun _ => T8 α) (.node .nil .nil .nil .nil .nil .nil .nil y) (fun _ => .node .nil .nil .nil .nil .nil .nil .nil y) (fun a b c d e f g _ _ _ _ _ _ _ _ _ => .node a b c d e f g y) t⟩
def put (i : D8) (y t : T8 α) : T8 α := (putB i).val y t

theorem child_put (i : D8) (y t : T8 α) : (put i y t).child i = y := by
  cases i <;> cases t <;> rfl

theorem child_put_ne {i j : D8} (h : i ≠ j) (y t : T8 α) : (put i y t).child j = t.child j := by
  cases i <;> cases j <;> first | exact absurd rfl h | (cases t <;> rfl)

def top (t : T8 α) : Option α := T8.rec (motive := fun _ => Option α) none (fun x => some x) (fun _ _ _ _ _ _ _ _ _ _ _ _ _ _ _ _ => none) t

def getB (p : List D8) : Box (T8 α → Option α) :=
  p.rec (motive := fun _ => Box (T8 α → Option α)) ⟨top⟩ (fun i _ ih => ⟨fun t => ih.val ((childB i).val t)⟩)
def get (p : List D8) (t : T8 α) : Option α := (getB p).val t

def setB (p : List D8) : Box (α → T8 α → T8 α) :=
  p.rec (motive := fun _ => Box (α → T8 α → T8 α)) ⟨fun x _ => .leaf x⟩ (fun i _ ih => ⟨fun x t => (putB i).val (ih.val x ((childB i).val t)) t⟩)
def set (p : List D8) (x : α) (t : T8 α) : T8 α := (setB p).val x t

theorem get_nil (t : T8 α) : t.get [] = t.top := rfl
theorem get_cons (i : D8) (p : List D8) (t : T8 α) : t.get (i :: p) = (t.child i).get p := rfl
theorem set_nil (x : α) (t : T8 α) : T8.set [] x t = .leaf x := rfl
theorem set_cons (i : D8) (p : List D8) (x : α) (t : T8 α) : T8.set (i :: p) x t = put i (T8.set p x (child i t)) t := rfl

theorem get_set (p : List D8) (x : α) : ∀ t : T8 α, (T8.set p x t).get p = some x := by
  induction p with
  | nil => intro t; rfl
  | cons i p ih => intro t; rw [set_cons, get_cons, child_put]; exact ih _

theorem get_set_ne (x : α) : ∀ (p q : List D8), p.length = q.length → p ≠ q → ∀ t : T8 α, (T8.set p x t).get q = t.get q
  | [], [], _, h, _ => absurd rfl h
  | i :: p, j :: q, hl, h, t => by
    rw [set_cons, get_cons, get_cons]
    by_cases e : i = j
    · subst e
      rw [child_put]
      exact get_set_ne x p q (by simpa using hl) (fun e => h (by rw [e])) _
    · rw [child_put_ne e]
  | [], _ :: _, hl, _, _ => by simp at hl
  | _ :: _, [], hl, _, _ => by simp at hl

theorem get_empty (p : List D8) : (T8.nil : T8 α).get p = none := by
  induction p with
  | nil => rfl
  | cons i p ih => rw [get_cons]; cases i <;> exact ih
end T8

def digit : Nat → D8
  | 0 => .d0 | 1 => .d1 | 2 => .d2 | 3 => .d3 | 4 => .d4 | 5 => .d5 | 6 => .d6 | _ => .d7

theorem digit_inj {a b : Nat} (ha : a < 8) (hb : b < 8) (h : digit a = digit b) : a = b := by
  revert h
  match a, ha, b, hb with
  | 0, _, 0, _ | 1, _, 1, _ | 2, _, 2, _ | 3, _, 3, _ | 4, _, 4, _ | 5, _, 5, _ | 6, _, 6, _ | 7, _, 7, _ => intro _; rfl
  | 0, _, 1, _ | 0, _, 2, _ | 0, _, 3, _ | 0, _, 4, _ | 0, _, 5, _ | 0, _, 6, _ | 0, _, 7, _ => intro h; cases h
  | 1, _, 0, _ | 1, _, 2, _ | 1, _, 3, _ | 1, _, 4, _ | 1, _, 5, _ | 1, _, 6, _ | 1, _, 7, _ => intro h; cases h
  | 2, _, 0, _ | 2, _, 1, _ | 2, _, 3, _ | 2, _, 4, _ | 2, _, 5, _ | 2, _, 6, _ | 2, _, 7, _ => intro h; cases h
  | 3, _, 0, _ | 3, _, 1, _ | 3, _, 2, _ | 3, _, 4, _ | 3, _, 5, _ | 3, _, 6, _ | 3, _, 7, _ => intro h; cases h
  | 4, _, 0, _ | 4, _, 1, _ | 4, _, 2, _ | 4, _, 3, _ | 4, _, 5, _ | 4, _, 6, _ | 4, _, 7, _ => intro h; cases h
  | 5, _, 0, _ | 5, _, 1, _ | 5, _, 2, _ | 5, _, 3, _ | 5, _, 4, _ | 5, _, 6, _ | 5, _, 7, _ => intro h; cases h
  | 6, _, 0, _ | 6, _, 1, _ | 6, _, 2, _ | 6, _, 3, _ | 6, _, 4, _ | 6, _, 5, _ | 6, _, 7, _ => intro h; cases h
  | 7, _, 0, _ | 7, _, 1, _ | 7, _, 2, _ | 7, _, 3, _ | 7, _, 4, _ | 7, _, 5, _ | 7, _, 6, _ => intro h; cases h

/-- The path to the number n in a trie of some depth. -/
def path (depth : Nat) : Nat → List D8 :=
  depth.rec (motive := fun _ => Nat → List D8) (fun _ => []) (fun _ ih n => digit (Nat.mod n 8) :: ih (Nat.div n 8))

theorem path_zero (n : Nat) : path 0 n = [] := rfl
theorem path_succ (d n : Nat) : path (d + 1) n = digit (n % 8) :: path d (n / 8) := rfl

theorem path_length (d : Nat) : ∀ n, (path d n).length = d := by
  induction d with
  | zero => intro n; rfl
  | succ d ih => intro n; rw [path_succ]; simp [ih]

theorem path_inj (d : Nat) : ∀ {a b : Nat}, a < 8 ^ d → b < 8 ^ d → path d a = path d b → a = b := by
  induction d with
  | zero => intro a b ha hb _; simp at ha hb; omega
  | succ d ih =>
    intro a b ha hb h
    rw [path_succ, path_succ] at h
    injection h with h1 h2
    have e1 := digit_inj (Nat.mod_lt _ (by decide)) (Nat.mod_lt _ (by decide)) h1
    have e2 := ih (by rw [Nat.pow_succ] at ha; omega) (by rw [Nat.pow_succ] at hb; omega) h2
    omega

end
end Go.Proofs.YtbokoinmlbipmaaGreatDoor.Ev

-- EvHeap
namespace Go.Proofs.YtbokoinmlbipmaaGreatDoor.Ev
noncomputable section

abbrev Env := T8 AVal

def Env.at (e : Env) (d t : Nat) : AVal := ((e.get (path d t)).getD (.tup []))

inductive Row where
  | cells (e : TypeId) (l : List AVal) (opn : Bool) (fz : Nat) (sm : Bool)
  | ro (l : List AVal)
  | map (es : List (AVal × AVal × Nat)) (clock : Nat)
  | mapIter (m : Option Nat) (since : Nat) (seen : List Nat) (stepped : Nat)
  | strIter (n v pos : Nat)
  | loop (state : LoopState) (pending : Option Code) (depth nt : Nat) (env : Env) (params : List Tmp) (assign body : Code) (defers : Nat)
  | defr (taken : Bool)
  | dead

def Row.live : Row → Bool
  | .ro _ | .dead => false
  | _ => true

structure Heap where
  rows : T8 Row
  next : Nat

def hdepth : Nat := 5

def Heap.get (H : Heap) (id : Nat) : Option Row := H.rows.get (path hdepth id)
def Heap.set (H : Heap) (id : Nat) (r : Row) : Heap := ⟨H.rows.set (path hdepth id) r, H.next⟩
def Heap.lim : Nat := 32768

theorem Heap.get_set (H : Heap) (id : Nat) (r : Row) : (H.set id r).get id = some r := T8.get_set _ _ _
theorem Heap.get_set_ne (H : Heap) {id j : Nat} (r : Row) (h : id ≠ j) (hi : id < Heap.lim) (hj : j < Heap.lim) : (H.set id r).get j = H.get j :=
  T8.get_set_ne _ _ _ (by rw [path_length, path_length]) (fun e => h (path_inj hdepth (by simpa [Heap.lim, hdepth] using hi) (by simpa [Heap.lim, hdepth] using hj) e)) _

def EnvRel (φ : Emb) (d : Nat) (e : Env) (ts : Array Value) : Prop :=
  ∀ t, t < 8 ^ d → VRel φ (e.at d t) (ts.getD t undef)

def EntryRel (φ : Emb) (a : AVal × AVal × Nat) (m : MapEntry) : Prop := VRel φ a.1 m.key ∧ VRel φ a.2.1 m.val ∧ a.2.2 = m.born

inductive All2 {α β : Type} (R : α → β → Prop) : List α → List β → Prop
  | nil : All2 R [] []
  | cons {a : α} {b : β} {l : List α} {m : List β} (h : R a b) (t : All2 R l m) : All2 R (a :: l) (b :: m)

theorem All2.mono {α β : Type} {R S : α → β → Prop} (k : ∀ a b, R a b → S a b) : ∀ {l : List α} {m : List β}, All2 R l m → All2 S l m
  | _, _, .nil => .nil
  | _, _, .cons h t => .cons (k _ _ h) (All2.mono k t)

theorem All2.length {α β : Type} {R : α → β → Prop} : ∀ {l : List α} {m : List β}, All2 R l m → l.length = m.length
  | _, _, .nil => rfl
  | _, _, .cons _ t => by simp [All2.length t]

/-- What a row of cells owes to the block's cells. -/
structure CellsRel (φ : Emb) (l : List AVal) (c : Array Value) (s : Spot) : Prop where
  size : c.size = s.size
  room : s.base + l.length ≤ s.size
  at_ : ∀ (i : Nat) v, l[i]? = some v → ∃ x, c[s.base + i]? = some x ∧ VRel φ v x

/-- Which cells may be frozen. -/
def FrzOK (s : Spot) (fz : Nat) (sm : Bool) (fr : Nat × Nat) : Prop :=
  if sm then ∀ i, fr.1 ≤ i → i < fr.2 → i < s.base + fz ∨ s.size ≤ i else fr.1 = fr.2 ∨ fr.2 ≤ s.base + fz

inductive RowRel (φ : Emb) (s : Spot) : Row → Obj → Prop
  | cells {e : TypeId} {l : List AVal} {opn sm : Bool} {fz : Nat} {c : Array Value} {fr : Nat × Nat} (h : CellsRel φ l c s)
      (hc : opn = false → s.base = 0 ∧ l.length = s.size) (hf : FrzOK s fz sm fr) : RowRel φ s (.cells e l opn fz sm) (.cells c e fr)
  | ro {l : List AVal} {c : Array Value} {e : TypeId} {fr : Nat × Nat} (h : CellsRel φ l c s) : RowRel φ s (.ro l) (.cells c e fr)
  | map {es : List (AVal × AVal × Nat)} {clock : Nat} {ms : Array MapEntry} (h : All2 (EntryRel φ) es ms.toList) : RowRel φ s (.map es clock) (.map ms clock)
  | mapIter {m : Nat} {since stepped : Nat} {seen : List Nat} {sm : Spot} (h : φ m = some sm) (hz : s.base = 0) : RowRel φ s (.mapIter (some m) since seen stepped) (.mapIter (some sm.block) since seen.toArray stepped)
  | mapIterNil {since stepped : Nat} {seen : List Nat} (hz : s.base = 0) : RowRel φ s (.mapIter none since seen stepped) (.mapIter none since seen.toArray stepped)
  | strIter {n v pos : Nat} : RowRel φ s (.strIter n v pos) (.stringIter (unpack n v) pos)
  | loop {state : LoopState} {pending : Option Code} {fn : FuncId} {d nt : Nat} {env : Env} {params : List Tmp} {assign body : Code} {defers : Nat} {ts : Array Value} {sd : Spot}
      (h : EnvRel φ d env ts) (hn : nt ≤ ts.size) (hp : ∀ t, t ∈ params → t < nt ∧ t < 8 ^ d) (hd : φ defers = some sd) :
      RowRel φ s (.loop state pending d nt env params assign body defers)
        (.loop { state, pending, fn, tmps := ts, params := params.toArray, assign, body, defers := sd.block })
  | defr : RowRel φ s (.defr false) (.deferred (some []))
  | defrT : RowRel φ s (.defr true) (.deferred none)

/-- The abstract heap H stands for the world w, its rows lying as φ says. -/
structure HRel (φ : Emb) (H : Heap) (w : World) : Prop where
  next : H.next ≤ Heap.lim
  dom : ∀ id s, φ id = some s → id < H.next ∧ s.block < w.heap.size
  rows : ∀ id s r, φ id = some s → H.get id = some r → r ≠ .dead → ∃ o, w.heap[s.block]? = some o ∧ RowRel φ s r o
  inj : ∀ i j si sj ri rj, φ i = some si → φ j = some sj → i ≠ j → si.block = sj.block → H.get i = some ri → H.get j = some rj → ri.live = true → rj = .dead

/-- Block b belongs to a row that may be written. -/
def Own (φ : Emb) (H : Heap) (b : Nat) : Prop := ∃ id s r, φ id = some s ∧ s.block = b ∧ H.get id = some r ∧ r.live = true

/-- What may have changed on the way from one state to another. -/
structure Ext (φ : Emb) (H : Heap) (w : World) (φ' : Emb) (H' : Heap) (w' : World) : Prop where
  le : φ.le φ'
  next : H.next ≤ H'.next
  size : w.heap.size ≤ w'.heap.size
  keep : ∀ b, b < w.heap.size → ¬ Own φ H b → w'.heap[b]? = w.heap[b]?
  own : ∀ b, b < w.heap.size → ¬ Own φ H b → ¬ Own φ' H' b
  fresh : ∀ id s, id < H.next → φ' id = some s → φ id = some s
  new : ∀ id s, φ' id = some s → φ id = some s ∨ w.heap.size ≤ s.block ∨ Own φ H s.block
  os : w'.os = w.os
  tape : w'.tape = w.tape
  output : w'.output = w.output

theorem Ext.refl (φ : Emb) (H : Heap) (w : World) : Ext φ H w φ H w :=
  ⟨.refl φ, Nat.le_refl _, Nat.le_refl _, fun _ _ _ => rfl, fun _ _ h => h, fun _ _ _ h => h, fun _ _ h => .inl h, rfl, rfl, rfl⟩

theorem Ext.trans {φ φ' φ'' : Emb} {H H' H'' : Heap} {w w' w'' : World} (h : Ext φ H w φ' H' w') (k : Ext φ' H' w' φ'' H'' w'') : Ext φ H w φ'' H'' w'' where
  le := h.le.trans k.le
  next := Nat.le_trans h.next k.next
  size := Nat.le_trans h.size k.size
  keep := fun b hb ho => (k.keep b (Nat.lt_of_lt_of_le hb h.size) (h.own b hb ho)).trans (h.keep b hb ho)
  own := fun b hb ho => k.own b (Nat.lt_of_lt_of_le hb h.size) (h.own b hb ho)
  fresh := fun id s hi e => h.fresh id s hi (k.fresh id s (Nat.lt_of_lt_of_le hi h.next) e)
  new := fun id s e => by
    rcases k.new id s e with e | e | e
    · exact h.new id s e
    · exact .inr (.inl (Nat.le_trans h.size e))
    · by_cases hb : s.block < w.heap.size
      · by_cases ho : Own φ H s.block
        · exact .inr (.inr ho)
        · exact absurd e (h.own s.block hb ho)
      · exact .inr (.inl (by omega))
  os := k.os.trans h.os
  tape := k.tape.trans h.tape
  output := k.output.trans h.output

theorem Ext.drew {φ φ' : Emb} {H H' : Heap} {w w' : World} (h : Ext φ H w φ' H' w') : Ext φ H w φ' H' { w' with drawn := w'.drawn + 1 } := { h with }

theorem EnvRel.mono {φ ψ : Emb} (k : φ.le ψ) {d : Nat} {e : Env} {ts : Array Value} (h : EnvRel φ d e ts) : EnvRel ψ d e ts := fun t ht => (h t ht).mono k

theorem CellsRel.mono {φ ψ : Emb} (k : φ.le ψ) {l : List AVal} {c : Array Value} {s : Spot} (h : CellsRel φ l c s) : CellsRel ψ l c s :=
  ⟨h.size, h.room, fun i v e => let ⟨x, hx, hr⟩ := h.at_ i v e; ⟨x, hx, hr.mono k⟩⟩

theorem EntryRel.mono {φ ψ : Emb} (k : φ.le ψ) {a : AVal × AVal × Nat} {m : MapEntry} (h : EntryRel φ a m) : EntryRel ψ a m := ⟨h.1.mono k, h.2.1.mono k, h.2.2⟩

theorem RowRel.mono {φ ψ : Emb} (k : φ.le ψ) {s : Spot} {r : Row} {o : Obj} (h : RowRel φ s r o) : RowRel ψ s r o := by
  cases h with
  | cells h hc hf => exact .cells (h.mono k) hc hf
  | ro h => exact .ro (h.mono k)
  | map h => exact .map (h.mono fun _ _ e => e.mono k)
  | mapIter h hz => exact .mapIter (k _ _ h) hz
  | mapIterNil hz => exact .mapIterNil hz
  | strIter => exact .strIter
  | loop h hn hp hd => exact .loop (h.mono k) hn hp (k _ _ hd)
  | defr => exact .defr
  | defrT => exact .defrT

end
end Go.Proofs.YtbokoinmlbipmaaGreatDoor.Ev

-- EvMem
namespace Go.Proofs.YtbokoinmlbipmaaGreatDoor.Ev
noncomputable section

/-- The embedding with one row more. -/
def Emb.with (φ : Emb) (id : Nat) (s : Spot) : Emb := fun j => if j = id then some s else φ j

theorem Emb.with_self (φ : Emb) (id : Nat) (s : Spot) : φ.with id s id = some s := by simp [Emb.with]
theorem Emb.with_ne (φ : Emb) {id j : Nat} (s : Spot) (h : j ≠ id) : φ.with id s j = φ j := by simp [Emb.with, h]
theorem Emb.le_with (φ : Emb) {id : Nat} (s : Spot) (h : φ id = none) : φ.le (φ.with id s) := by
  intro j t e
  by_cases hj : j = id
  · subst hj; rw [h] at e; cases e
  · rw [Emb.with_ne _ _ hj]; exact e

theorem HRel.none_of_le {φ : Emb} {H : Heap} {w : World} (h : HRel φ H w) {id : Nat} (hi : H.next ≤ id) : φ id = none := by
  cases e : φ id with
  | none => rfl
  | some s => exact absurd (h.dom id s e).1 (by omega)

theorem HRel.lt_lim {φ : Emb} {H : Heap} {w : World} (h : HRel φ H w) {id : Nat} {s : Spot} (e : φ id = some s) : id < Heap.lim :=
  Nat.lt_of_lt_of_le (h.dom id s e).1 h.next

theorem HRel.drew {φ : Emb} {H : Heap} {w : World} (h : HRel φ H w) : HRel φ H { w with drawn := w.drawn + 1 } := { h with }

def Heap.push (H : Heap) (r : Row) : Heap := ⟨H.rows.set (path hdepth H.next) r, Nat.succ H.next⟩

theorem Heap.get_push_new (H : Heap) (r : Row) : (H.push r).get H.next = some r := T8.get_set _ _ _
theorem Heap.get_push_old (H : Heap) (r : Row) {id : Nat} (h : id ≠ H.next) (hi : id < Heap.lim) (hn : H.next < Heap.lim) : (H.push r).get id = H.get id :=
  Heap.get_set_ne H r (fun e => h e.symm) hn hi

/-- A new block. -/
theorem HRel.push {φ : Emb} {H : Heap} {w : World} (h : HRel φ H w) (hn : H.next < Heap.lim) {r : Row} {o : Obj} (size : Nat)
    (hr : RowRel φ ⟨w.heap.size, 0, size⟩ r o) :
    HRel (φ.with H.next ⟨w.heap.size, 0, size⟩) (H.push r) (w.alloc o) ∧ Ext φ H w (φ.with H.next ⟨w.heap.size, 0, size⟩) (H.push r) (w.alloc o) := by
  have h0 : φ H.next = none := h.none_of_le (Nat.le_refl _)
  have hle := φ.le_with ⟨w.heap.size, 0, size⟩ h0
  have hold : ∀ b, b < w.heap.size → (w.alloc o).heap[b]? = w.heap[b]? := fun b hb => Go.RowKit.Below.heap_alloc w o b hb
  have hnew : (w.alloc o).heap[w.heap.size]? = some o := by show (w.heap.push o)[w.heap.size]? = _; simp
  have hget : ∀ id s, φ id = some s → (H.push r).get id = H.get id := fun id s e =>
    Heap.get_push_old H r (by intro e'; subst e'; rw [h0] at e; cases e) (h.lt_lim e) hn
  refine ⟨⟨by show H.next + 1 ≤ _; omega, ?_, ?_, ?_⟩, ⟨hle, by show _ ≤ H.next + 1; omega, by simp, fun b hb _ => hold b hb, ?_, ?_, ?_, rfl, rfl, rfl⟩⟩
  · intro id s e
    by_cases hi : id = H.next
    · subst hi; rw [Emb.with_self] at e; cases e; exact ⟨Nat.lt_succ_self _, by simp⟩
    · rw [Emb.with_ne _ _ hi] at e
      have := h.dom id s e
      exact ⟨Nat.lt_succ_of_lt this.1, by simp; omega⟩
  · intro id s r' e hg hd
    by_cases hi : id = H.next
    · subst hi
      rw [Emb.with_self] at e; cases e
      rw [Heap.get_push_new] at hg; cases hg
      exact ⟨o, hnew, hr.mono hle⟩
    · rw [Emb.with_ne _ _ hi] at e
      rw [hget id s e] at hg
      obtain ⟨o', ho, hr'⟩ := h.rows id s r' e hg hd
      exact ⟨o', by rw [hold _ (h.dom id s e).2]; exact ho, hr'.mono hle⟩
  · intro i j si sj ri rj ei ej hne hb hgi hgj hl
    by_cases hi : i = H.next
    · subst hi
      rw [Emb.with_self] at ei; cases ei
      rw [Emb.with_ne _ _ (fun e => hne e.symm)] at ej
      have := (h.dom j sj ej).2
      simp at hb; omega
    · by_cases hj : j = H.next
      · subst hj
        rw [Emb.with_self] at ej; cases ej
        rw [Emb.with_ne _ _ hi] at ei
        have := (h.dom i si ei).2
        simp at hb; omega
      · rw [Emb.with_ne _ _ hi] at ei
        rw [Emb.with_ne _ _ hj] at ej
        rw [hget i si ei] at hgi
        rw [hget j sj ej] at hgj
        exact h.inj i j si sj ri rj ei ej hne hb hgi hgj hl
  · rintro b hb hno ⟨id, s, r', e, hsb, hg, hl⟩
    by_cases hi : id = H.next
    · subst hi; rw [Emb.with_self] at e; cases e; simp at hsb; omega
    · rw [Emb.with_ne _ _ hi] at e
      rw [hget id s e] at hg
      exact hno ⟨id, s, r', e, hsb, hg, hl⟩
  · intro id s hi e
    rw [Emb.with_ne _ _ (by omega)] at e; exact e
  · intro id s e
    by_cases hi : id = H.next
    · subst hi; rw [Emb.with_self] at e; cases e; exact .inr (.inl (Nat.le_refl _))
    · rw [Emb.with_ne _ _ hi] at e; exact .inl e

/-- A world whose block b alone has become o. -/
structure Turned (w w' : World) (b : Nat) (o : Obj) : Prop where
  size : w'.heap.size = w.heap.size
  here : w'.heap[b]? = some o
  else_ : ∀ j, j ≠ b → w'.heap[j]? = w.heap[j]?
  os : w'.os = w.os
  tape : w'.tape = w.tape
  output : w'.output = w.output

/-- A row that may be written is written. -/
theorem HRel.turn {φ : Emb} {H : Heap} {w w' : World} (h : HRel φ H w) {id : Nat} {s : Spot} {r r' : Row} {o' : Obj} (e : φ id = some s) (hg : H.get id = some r)
    (hl : r.live = true) (ht : Turned w w' s.block o') (hr : RowRel φ s r' o') :
    HRel φ (H.set id r') w' ∧ Ext φ H w φ (H.set id r') w' := by
  have hid := h.lt_lim e
  have hother : ∀ j sj, φ j = some sj → j ≠ id → (H.set id r').get j = H.get j := fun j sj ej hj => Heap.get_set_ne H r' (fun x => hj x.symm) hid (h.lt_lim ej)
  refine ⟨⟨h.next, fun j sj ej => ⟨(h.dom j sj ej).1, by rw [ht.size]; exact (h.dom j sj ej).2⟩, ?_, ?_⟩,
    ⟨.refl φ, Nat.le_refl _, Nat.le_of_eq ht.size.symm, ?_, ?_, fun _ _ _ h => h, fun _ _ h => .inl h, ht.os, ht.tape, ht.output⟩⟩
  · intro j sj rj ej hgj hd
    by_cases hj : j = id
    · subst hj
      rw [e] at ej; cases ej
      rw [Heap.get_set] at hgj; cases hgj
      exact ⟨o', ht.here, hr⟩
    · rw [hother j sj ej hj] at hgj
      have hb : sj.block ≠ s.block := fun hb => hd (h.inj id j s sj r rj e ej (fun x => hj x.symm) hb.symm hg hgj hl)
      obtain ⟨o, ho, hr⟩ := h.rows j sj rj ej hgj hd
      exact ⟨o, by rw [ht.else_ _ hb]; exact ho, hr⟩
  · intro i j si sj ri rj ei ej hne hb hgi hgj hli
    by_cases hi : i = id
    · subst hi
      rw [hother j sj ej (fun x => hne x.symm)] at hgj
      exact h.inj i j si sj r rj ei ej hne hb hg hgj hl
    · rw [hother i si ei hi] at hgi
      by_cases hj : j = id
      · subst hj
        have := h.inj i j si sj ri r ei ej hne hb hgi hg hli
        subst this; cases hl
      · rw [hother j sj ej hj] at hgj
        exact h.inj i j si sj ri rj ei ej hne hb hgi hgj hli
  · intro b hb hno
    refine ht.else_ b fun hbs => hno ⟨id, s, r, e, hbs.symm, hg, hl⟩
  · rintro b hb hno ⟨j, sj, rj, ej, hsb, hgj, hlj⟩
    by_cases hj : j = id
    · subst hj
      rw [e] at ej; cases ej
      exact hno ⟨j, s, r, e, hsb, hg, hl⟩
    · rw [hother j sj ej hj] at hgj
      exact hno ⟨j, sj, rj, ej, hsb, hgj, hlj⟩

/-- A row is given up. -/
theorem HRel.kill {φ : Emb} {H : Heap} {w : World} (h : HRel φ H w) {id : Nat} {s : Spot} (e : φ id = some s) :
    HRel φ (H.set id .dead) w ∧ Ext φ H w φ (H.set id .dead) w := by
  have hid := h.lt_lim e
  have hother : ∀ j sj, φ j = some sj → j ≠ id → (H.set id .dead).get j = H.get j := fun j sj ej hj => Heap.get_set_ne H .dead (fun x => hj x.symm) hid (h.lt_lim ej)
  refine ⟨⟨h.next, h.dom, ?_, ?_⟩, ⟨.refl φ, Nat.le_refl _, Nat.le_refl _, fun _ _ _ => rfl, ?_, fun _ _ _ h => h, fun _ _ h => .inl h, rfl, rfl, rfl⟩⟩
  · intro j sj rj ej hgj hd
    by_cases hj : j = id
    · subst hj; rw [Heap.get_set] at hgj; cases hgj; exact absurd rfl hd
    · rw [hother j sj ej hj] at hgj; exact h.rows j sj rj ej hgj hd
  · intro i j si sj ri rj ei ej hne hb hgi hgj hli
    by_cases hi : i = id
    · subst hi; rw [Heap.get_set] at hgi; cases hgi; cases hli
    · rw [hother i si ei hi] at hgi
      by_cases hj : j = id
      · subst hj; rw [Heap.get_set] at hgj; cases hgj; rfl
      · rw [hother j sj ej hj] at hgj
        exact h.inj i j si sj ri rj ei ej hne hb hgi hgj hli
  · rintro b hb hno ⟨j, sj, rj, ej, hsb, hgj, hlj⟩
    by_cases hj : j = id
    · subst hj; rw [Heap.get_set] at hgj; cases hgj; cases hlj
    · rw [hother j sj ej hj] at hgj
      exact hno ⟨j, sj, rj, ej, hsb, hgj, hlj⟩

/-- A row that may be written is given up; a new row lies in its block, written anew. -/
theorem HRel.move {φ : Emb} {H : Heap} {w w' : World} (h : HRel φ H w) (hn : H.next < Heap.lim) {id : Nat} {s : Spot} {r r' : Row} {o' : Obj} (e : φ id = some s) (hg : H.get id = some r)
    (hl : r.live = true) (base : Nat) (ht : Turned w w' s.block o') (hr : RowRel φ ⟨s.block, base, s.size⟩ r' o') :
    HRel (φ.with H.next ⟨s.block, base, s.size⟩) ((H.set id .dead).push r') w' ∧ Ext φ H w (φ.with H.next ⟨s.block, base, s.size⟩) ((H.set id .dead).push r') w' := by
  have h0 : φ H.next = none := h.none_of_le (Nat.le_refl _)
  have hle := φ.le_with ⟨s.block, base, s.size⟩ h0
  have hid := h.lt_lim e
  have hidn : id ≠ H.next := by intro x; rw [x, h0] at e; cases e
  have hget : ∀ j sj, φ j = some sj → j ≠ id → ((H.set id .dead).push r').get j = H.get j := fun j sj ej hj => by
    have hjn : j ≠ H.next := by intro e'; rw [e', h0] at ej; cases ej
    exact (Heap.get_push_old (H.set id .dead) r' (id := j) hjn (h.lt_lim ej) hn).trans (Heap.get_set_ne H .dead (fun x => hj x.symm) hid (h.lt_lim ej))
  have hgid : ((H.set id .dead).push r').get id = some .dead := by
    exact (Heap.get_push_old (H.set id .dead) r' (id := id) hidn hid hn).trans (Heap.get_set _ _ _)
  have hgn : ((H.set id .dead).push r').get H.next = some r' := Heap.get_push_new (H.set id .dead) r'
  refine ⟨⟨by show H.next + 1 ≤ _; omega, ?_, ?_, ?_⟩, ⟨hle, by show _ ≤ H.next + 1; omega, Nat.le_of_eq ht.size.symm, ?_, ?_, ?_, ?_, ht.os, ht.tape, ht.output⟩⟩
  · intro j sj ej
    by_cases hj : j = H.next
    · subst hj; rw [Emb.with_self] at ej; cases ej; exact ⟨Nat.lt_succ_self _, by rw [ht.size]; exact (h.dom id s e).2⟩
    · rw [Emb.with_ne _ _ hj] at ej
      exact ⟨Nat.lt_succ_of_lt (h.dom j sj ej).1, by rw [ht.size]; exact (h.dom j sj ej).2⟩
  · intro j sj rj ej hgj hd
    by_cases hj : j = H.next
    · subst hj
      rw [Emb.with_self] at ej; cases ej
      rw [hgn] at hgj; cases hgj
      exact ⟨o', ht.here, hr.mono hle⟩
    · rw [Emb.with_ne _ _ hj] at ej
      by_cases hji : j = id
      · subst hji; rw [hgid] at hgj; cases hgj; exact absurd rfl hd
      · rw [hget j sj ej hji] at hgj
        have hb : sj.block ≠ s.block := fun hb => hd (h.inj id j s sj r rj e ej (fun x => hji x.symm) hb.symm hg hgj hl)
        obtain ⟨o, ho, hr⟩ := h.rows j sj rj ej hgj hd
        exact ⟨o, by rw [ht.else_ _ hb]; exact ho, hr.mono hle⟩
  · intro i j si sj ri rj ei ej hne hb hgi hgj hli
    by_cases hji : j = id
    · subst hji; rw [hgid] at hgj; cases hgj; rfl
    by_cases hii : i = id
    · subst hii; rw [hgid] at hgi; cases hgi; cases hli
    by_cases hi : i = H.next
    · subst hi
      rw [Emb.with_self] at ei; cases ei
      rw [Emb.with_ne _ _ (fun x => hne x.symm)] at ej
      rw [hget j sj ej hji] at hgj
      exact h.inj id j s sj r rj e ej (fun x => hji x.symm) hb hg hgj hl
    · rw [Emb.with_ne _ _ hi] at ei
      rw [hget i si ei hii] at hgi
      by_cases hj : j = H.next
      · subst hj
        rw [Emb.with_self] at ej; cases ej
        have := h.inj i id si s ri r ei e hii hb hgi hg hli
        subst this; cases hl
      · rw [Emb.with_ne _ _ hj] at ej
        rw [hget j sj ej hji] at hgj
        exact h.inj i j si sj ri rj ei ej hne hb hgi hgj hli
  · intro b hb hno
    exact ht.else_ b fun hbs => hno ⟨id, s, r, e, hbs.symm, hg, hl⟩
  · rintro b hb hno ⟨j, sj, rj, ej, hsb, hgj, hlj⟩
    by_cases hji : j = id
    · subst hji; rw [hgid] at hgj; cases hgj; cases hlj
    by_cases hj : j = H.next
    · subst hj; rw [Emb.with_self] at ej; cases ej
      exact hno ⟨id, s, r, e, hsb, hg, hl⟩
    · rw [Emb.with_ne _ _ hj] at ej
      rw [hget j sj ej hji] at hgj
      exact hno ⟨j, sj, rj, ej, hsb, hgj, hlj⟩
  · intro j sj hj ej
    rw [Emb.with_ne _ _ (by omega)] at ej; exact ej
  · intro j sj ej
    by_cases hj : j = H.next
    · subst hj; rw [Emb.with_self] at ej; cases ej; exact .inr (.inr ⟨id, s, r, e, rfl, hg, hl⟩)
    · rw [Emb.with_ne _ _ hj] at ej; exact .inl ej

end
end Go.Proofs.YtbokoinmlbipmaaGreatDoor.Ev

-- EvPure
namespace Go.Proofs.YtbokoinmlbipmaaGreatDoor.Ev
noncomputable section

def forceN {β : Type} (n : Nat) (f : Nat → β) : β := Nat.rec (motive := fun _ => β) (f 0) (fun m _ => f (Nat.succ m)) n
def forceZ {β : Type} (n : Int) (f : Int → β) : β := Int.rec (motive := fun _ => β) (fun m => forceN m fun m => f (.ofNat m)) (fun m => forceN m fun m => f (.negSucc m)) n
theorem forceN_eq {β : Type} (n : Nat) (f : Nat → β) : forceN n f = f n := by cases n <;> rfl
theorem forceZ_eq {β : Type} (n : Int) (f : Int → β) : forceZ n f = f n := by cases n <;> simp [forceZ, forceN_eq]

def fitsB (k : IntKind) (n : Int) : Bool :=
  match k with
  | .i64 => match n with | .ofNat m => Nat.ble m 9223372036854775807 | .negSucc m => Nat.ble m 9223372036854775807
  | .u8 => match n with | .ofNat m => Nat.ble m 255 | .negSucc _ => false
  | .u64 => match n with | .ofNat m => Nat.ble m 18446744073709551615 | .negSucc _ => false
  | _ => false

def wrapF (k : IntKind) (n : Int) : Int := match fitsB k n with | true => n | false => k.wrap n

theorem wrapF_eq (k : IntKind) (n : Int) : wrapF k n = k.wrap n := by
  unfold wrapF
  split
  · rename_i h
    unfold fitsB at h
    split at h
    · split at h
      · rename_i m
        have : m ≤ 9223372036854775807 := Nat.le_of_ble_eq_true h
        exact (IntWalk.i64_in _ (by rw [Int.ofNat_eq_natCast]; omega)).symm
      · rename_i m
        have : m ≤ 9223372036854775807 := Nat.le_of_ble_eq_true h
        exact (IntWalk.i64_in _ (by rw [Int.negSucc_eq]; omega)).symm
    · split at h
      · rename_i m
        have : m ≤ 255 := Nat.le_of_ble_eq_true h
        exact (IntWalk.u8_in _ (by rw [Int.ofNat_eq_natCast]; omega)).symm
      · cases h
    · split at h
      · rename_i m
        have : m ≤ 18446744073709551615 := Nat.le_of_ble_eq_true h
        exact (IntWalk.u64_in _ (by rw [Int.ofNat_eq_natCast]; omega)).symm
      · cases h
    · cases h
  · rfl

/-- Constants. -/
def cval : Nat → Value → Option AVal
  | 0, _ => none
  | n + 1, v =>
    match v with
    | .bool b => some (.bool b)
    | .int k i => some (.int k i)
    | .string s => some (.str s.size (packL s.data.toList))
    | .pointer none => some .nilp
    | .slice none 0 0 => some .nils
    | .map none => some .nilm
    | .nilFunc => some .nilf
    | .nilIface => some .niliface
    | .agg cs => (cvals n cs.toList).map .agg
    | .tuple cs => (cvals n cs.toList).map .tup
    | .func (.func f) a b => if a.isEmpty && b.isEmpty then some (.func f [] []) else none
    | _ => none
where cvals (n : Nat) : List Value → Option (List AVal)
  | [] => some []
  | v :: l => match cval n v, cvals n l with
    | some a, some m => some (a :: m)
    | _, _ => none

theorem unpack_pack (s : ByteArray) : unpack s.size (packL s.data.toList) = s := by
  obtain ⟨⟨l⟩⟩ := s
  show unpack l.length (packL l) = _
  simp [unpack, bytesOf_pack]

theorem cvals_rel (φ : Emb) (n : Nat) (ih : ∀ v a, cval n v = some a → VRel φ a v) : ∀ (l : List Value) m, cval.cvals n l = some m → VRels φ m l
  | [], m, h => by simp [cval.cvals] at h; subst h; exact .nil
  | v :: l, m, h => by
    simp only [cval.cvals] at h
    split at h
    · rename_i a b h1 h2
      cases h
      exact .cons (ih _ _ h1) (cvals_rel φ n ih l _ h2)
    · cases h

theorem cval_rel (φ : Emb) : ∀ (n : Nat) (v : Value) (a : AVal), cval n v = some a → VRel φ a v := by
  intro n
  induction n with
  | zero => intro v a h; simp [cval] at h
  | succ n ih =>
    intro v a h
    unfold cval at h
    split at h
    · cases h; exact .bool _
    · cases h; exact .int _ _
    · rename_i s; cases h
      have := VRel.str (φ := φ) s.size (packL s.data.toList)
      rwa [unpack_pack] at this
    · cases h; exact .nilp
    · cases h; exact .nils
    · cases h; exact .nilm
    · cases h; exact .nilf
    · cases h; exact .niliface
    · rename_i cs
      cases hc : cval.cvals n cs.toList with
      | none => rw [hc] at h; cases h
      | some m => rw [hc] at h; cases h; have := VRel.agg (cvals_rel φ n ih _ _ hc); simpa using this
    · rename_i cs
      cases hc : cval.cvals n cs.toList with
      | none => rw [hc] at h; cases h
      | some m => rw [hc] at h; cases h; have := VRel.tup (cvals_rel φ n ih _ _ hc); simpa using this
    · split at h
      · rename_i f x y hxy
        cases h
        simp at hxy
        obtain ⟨h1, h2⟩ := hxy
        subst h1 h2
        exact .func f (fv := []) (cv := []) .nil .nil
      · cases h
    · cases h

/-- What stays the same in a function's frame. -/
structure Ctx where
  P : Program
  d : Nat
  nt : Nat
  globs : List Nat
  inRound : Bool := false

def Glob (φ : Emb) (l : List Nat) : Prop := ∀ g, g ∈ l → ∃ sz, φ g = some ⟨g, 0, sz⟩

theorem Glob.mono {φ ψ : Emb} (k : φ.le ψ) {l : List Nat} (h : Glob φ l) : Glob ψ l := fun g hg => let ⟨sz, e⟩ := h g hg; ⟨sz, k _ _ e⟩

def opdB (K : Ctx) : Operand → Box (Env → AVal)
  | .tmp t => ⟨fun e => (match (T8.getB (path K.d t)).val e with | some v => v | none => .tup [])⟩
  | .const v => ⟨fun _ => (match cval 5 v with | some a => a | none => .nilp)⟩
  | .global g => ⟨fun _ => .ptr g 0⟩
  | .func f => ⟨fun _ => .func f [] []⟩

def opd (K : Ctx) (x : Operand) (e : Env) : AVal := (opdB K x).val e

def okOpd (K : Ctx) : Operand → Bool
  | .tmp t => Nat.blt t (8 ^ K.d)
  | .const v => (cval 5 v).isSome
  | .global g => K.globs.contains g
  | .func _ => true

theorem opd_rel {K : Ctx} {φ : Emb} {e : Env} {a : Act} (he : EnvRel φ K.d e a.tmps) (hg : Glob φ K.globs) (x : Operand) (h : okOpd K x = true) : VRel φ (opd K x e) (a.eval x) := by
  cases x with
  | tmp t =>
    have ht : t < 8 ^ K.d := by simpa [okOpd, Nat.blt_eq] using h
    have h := he t ht
    simp only [opd, opdB]
    unfold Env.at T8.get at h
    cases hg : (T8.getB (path K.d t)).val e with
    | none => rw [hg] at h; exact h
    | some v => rw [hg] at h; exact h
  | const v =>
    simp only [okOpd] at h
    cases hc : cval 5 v with
    | none => rw [hc] at h; cases h
    | some b => simp only [opd, opdB, hc]; exact cval_rel φ 5 v b hc
  | global g =>
    obtain ⟨sz, e⟩ := hg g (by simpa [okOpd] using h)
    exact .ptr (off := 0) e
  | func f => exact .func f (fv := []) (cv := []) .nil .nil

end
end Go.Proofs.YtbokoinmlbipmaaGreatDoor.Ev

-- EvEq
namespace Go.Proofs.YtbokoinmlbipmaaGreatDoor.Ev
noncomputable section

theorem bytesOf_eq_iff : ∀ (n v u : Nat), bytesOf n v = bytesOf n u ↔ v % 256 ^ n = u % 256 ^ n
  | 0, v, u => by simp [bytesOf, Nat.mod_one]
  | n + 1, v, u => by
    simp only [bytesOf, List.cons.injEq, bytesOf_eq_iff n]
    have hb : UInt8.ofNat (v % 256) = UInt8.ofNat (u % 256) ↔ v % 256 = u % 256 := by
      constructor
      · intro h
        have := congrArg UInt8.toNat h
        simpa using this
      · intro h; rw [h]
    rw [hb, Nat.pow_succ, Nat.mul_comm, Nat.mod_mul, Nat.mod_mul]
    constructor
    · rintro ⟨h1, h2⟩; rw [h1, h2]
    · intro h
      have h1 : v % 256 < 256 := Nat.mod_lt _ (by decide)
      have h2 : u % 256 < 256 := Nat.mod_lt _ (by decide)
      constructor <;> omega

def eqStr (n v m u : Nat) : Bool := Nat.beq n m && Nat.beq (Nat.mod v (Nat.pow 256 n)) (Nat.mod u (Nat.pow 256 n))

theorem eqStr_iff (n v m u : Nat) : eqStr n v m u = ((unpack n v).toList == (unpack m u).toList) := by
  have e : ∀ n v, (unpack n v).toList = bytesOf n v := fun n v => by rw [ByteArray.toList_eq]; rfl
  rw [e, e, Bool.eq_iff_iff, beq_iff_eq]
  unfold eqStr
  simp only [Bool.and_eq_true, Nat.beq_eq]
  constructor
  · rintro ⟨rfl, h⟩; exact (bytesOf_eq_iff _ _ _).2 h
  · intro h
    have hl := congrArg List.length h
    simp at hl
    subst hl
    exact ⟨rfl, (bytesOf_eq_iff _ _ _).1 h⟩

/-- Is the type a struct or an array? -/
def aggB (P : Program) (t : TypeId) : Option Bool :=
  match P.underlying t with
  | some (.struct _) | some (.array _ _) => some true
  | some _ => some false
  | none => none

theorem run_isAgg {P : Program} {t : TypeId} {b : Bool} (h : aggB P t = some b) (w : World) : (isAgg t).run P w = .ok b w := by
  unfold aggB at h
  unfold isAgg
  simp only [Sem.run_bind]
  split at h
  · cases h; rename_i hu; rw [run_underlying hu]; rfl
  · cases h; rename_i hu; rw [run_underlying hu]; rfl
  · rename_i d h1 h2 hu
    cases h
    rw [run_underlying hu]
    cases d <;> first | rfl | (exact absurd rfl (h1 _)) | (exact absurd rfl (h2 _ _))
  · cases h

theorem run_sizeOf {P : Program} {t : TypeId} {i : TypeInfo} (h : P.info? t = some i) (w : World) : (sizeOf t).run P w = .ok i.size w := by
  simp [sizeOf, typeInfo, h]

def sizeB (P : Program) (t : TypeId) : Option Nat := (P.info? t).map (·.size)

theorem run_sizeB {P : Program} {t : TypeId} {n : Nat} (h : sizeB P t = some n) (w : World) : (sizeOf t).run P w = .ok n w := by
  unfold sizeB at h
  cases hi : P.info? t with
  | none => rw [hi] at h; cases h
  | some i => rw [hi] at h; cases h; exact run_sizeOf hi w

def aPart (P : Program) (t : TypeId) (l : List AVal) (off : Nat) : Option AVal :=
  match aggB P t with
  | some true => match sizeB P t with | some n => some (.agg ((l.drop off).take n)) | none => none
  | some false => l[off]?
  | none => none

theorem aPart_rel {P : Program} {φ : Emb} {t : TypeId} {l : List AVal} {m : List Value} {off : Nat} {v : AVal} (h : aPart P t l off = some v) (hl : VRels φ l m) (w : World) :
    ∃ x, (part t m.toArray off).run P w = .ok x w ∧ VRel φ v x := by
  unfold aPart at h
  unfold part
  split at h
  · rename_i ha
    split at h
    · rename_i n hn
      cases h
      have := VRel.agg ((hl.drop off).take n)
      refine ⟨_, ?_, this⟩
      simp only [Sem.run_bind, run_isAgg ha, Result.andThen_ok, if_true, run_sizeB hn, Sem.run_pure]
      simp [List.extract_toArray, List.extract]
    · cases h
  · rename_i ha
    obtain ⟨x, hx, hr⟩ := hl.get off v h
    refine ⟨x, ?_, hr⟩
    simp [run_isAgg ha, hx]
  · cases h

-- Straight by the recursor: the kernel unfolds less.
def onBool {β : Type} (x : AVal) (f : Bool → Option β) : Option β := AVal.rec (motive_1 := fun _ => Option β) (motive_2 := fun _ => Unit) (fun b => f b) (fun _ _ => none) (fun _ _ => none) (fun _ _ => none) none (fun _ _ _ _ => none) (fun _ _ _ _ => none) none (fun _ => none) none (fun _ _ _ _ _ => none) (fun _ => none) none (fun _ _ _ => none) none (fun _ _ => none) (fun _ _ => none) () (fun _ _ _ _ => ()) x
def onInt {β : Type} (x : AVal) (f : IntKind → Int → Option β) : Option β := AVal.rec (motive_1 := fun _ => Option β) (motive_2 := fun _ => Unit) (fun _ => none) (fun k n => f k n) (fun _ _ => none) (fun _ _ => none) none (fun _ _ _ _ => none) (fun _ _ _ _ => none) none (fun _ => none) none (fun _ _ _ _ _ => none) (fun _ => none) none (fun _ _ _ => none) none (fun _ _ => none) (fun _ _ => none) () (fun _ _ _ _ => ()) x
def onIntD {β : Type} (x : AVal) (f : IntKind → Int → β) (d : β) : β := AVal.rec (motive_1 := fun _ => β) (motive_2 := fun _ => Unit) (fun _ => d) (fun k n => f k n) (fun _ _ => d) (fun _ _ => d) d (fun _ _ _ _ => d) (fun _ _ _ _ => d) d (fun _ => d) d (fun _ _ _ _ _ => d) (fun _ => d) d (fun _ _ _ => d) d (fun _ _ => d) (fun _ _ => d) () (fun _ _ _ _ => ()) x
def onStr {β : Type} (x : AVal) (f : Nat → Nat → Option β) : Option β := AVal.rec (motive_1 := fun _ => Option β) (motive_2 := fun _ => Unit) (fun _ => none) (fun _ _ => none) (fun n v => f n v) (fun _ _ => none) none (fun _ _ _ _ => none) (fun _ _ _ _ => none) none (fun _ => none) none (fun _ _ _ _ _ => none) (fun _ => none) none (fun _ _ _ => none) none (fun _ _ => none) (fun _ _ => none) () (fun _ _ _ _ => ()) x
def onPtr {β : Type} (x : AVal) (f : Nat → Nat → Option β) : Option β := AVal.rec (motive_1 := fun _ => Option β) (motive_2 := fun _ => Unit) (fun _ => none) (fun _ _ => none) (fun _ _ => none) (fun i o => f i o) none (fun _ _ _ _ => none) (fun _ _ _ _ => none) none (fun _ => none) none (fun _ _ _ _ _ => none) (fun _ => none) none (fun _ _ _ => none) none (fun _ _ => none) (fun _ _ => none) () (fun _ _ _ _ => ()) x
def yesV (want : Bool) (x : AVal) : Bool := AVal.rec (motive_1 := fun _ => Bool) (motive_2 := fun _ => Unit) (fun b => Bool.rec (motive := fun _ => Bool) (Bool.rec (motive := fun _ => Bool) true false b) b want) (fun _ _ => false) (fun _ _ => false) (fun _ _ => false) false (fun _ _ _ _ => false) (fun _ _ _ _ => false) false (fun _ => false) false (fun _ _ _ _ _ => false) (fun _ => false) false (fun _ _ _ => false) false (fun _ _ => false) (fun _ _ => false) () (fun _ _ _ _ => ()) x
def onAgg {β : Type} (x : AVal) (f : List AVal → Option β) : Option β := AVal.rec (motive_1 := fun _ => Option β) (motive_2 := fun _ => Unit) (fun _ => none) (fun _ _ => none) (fun _ _ => none) (fun _ _ => none) none (fun _ _ _ _ => none) (fun _ _ _ _ => none) none (fun _ => none) none (fun _ _ _ _ _ => none) (fun _ => none) none (fun _ _ _ => none) none (fun l _ => f l) (fun _ _ => none) () (fun _ _ _ _ => ()) x
def onTup {β : Type} (x : AVal) (f : List AVal → Option β) : Option β := AVal.rec (motive_1 := fun _ => Option β) (motive_2 := fun _ => Unit) (fun _ => none) (fun _ _ => none) (fun _ _ => none) (fun _ _ => none) none (fun _ _ _ _ => none) (fun _ _ _ _ => none) none (fun _ => none) none (fun _ _ _ _ _ => none) (fun _ => none) none (fun _ _ _ => none) none (fun _ _ => none) (fun l _ => f l) () (fun _ _ _ _ => ()) x

theorem onBool_some {β : Type} {x : AVal} {f : Bool → Option β} {r : β} (h : onBool x f = some r) : ∃ b, x = .bool b ∧ f b = some r := by
  cases x <;> first | exact ⟨_, rfl, h⟩ | cases h
theorem onInt_some {β : Type} {x : AVal} {f : IntKind → Int → Option β} {r : β} (h : onInt x f = some r) : ∃ k n, x = .int k n ∧ f k n = some r := by
  cases x <;> first | exact ⟨_, _, rfl, h⟩ | cases h
theorem onStr_some {β : Type} {x : AVal} {f : Nat → Nat → Option β} {r : β} (h : onStr x f = some r) : ∃ n v, x = .str n v ∧ f n v = some r := by
  cases x <;> first | exact ⟨_, _, rfl, h⟩ | cases h
theorem onPtr_some {β : Type} {x : AVal} {f : Nat → Nat → Option β} {r : β} (h : onPtr x f = some r) : ∃ i o, x = .ptr i o ∧ f i o = some r := by
  cases x <;> first | exact ⟨_, _, rfl, h⟩ | cases h
theorem onAgg_some {β : Type} {x : AVal} {f : List AVal → Option β} {r : β} (h : onAgg x f = some r) : ∃ l, x = .agg l ∧ f l = some r := by
  cases x <;> first | exact ⟨_, rfl, h⟩ | cases h
theorem onTup_some {β : Type} {x : AVal} {f : List AVal → Option β} {r : β} (h : onTup x f = some r) : ∃ l, x = .tup l ∧ f l = some r := by
  cases x <;> first | exact ⟨_, rfl, h⟩ | cases h

/-- Against nil: the first answer where the value is nil. -/
inductive NilKind where
  | ptr | slice | map | func | iface

def isNil (k : NilKind) (x : AVal) : Option Bool :=
  match k with
  | .ptr => (match x with | .nilp => some true | .ptr _ _ => some false | _ => none)
  | .slice => (match x with | .nils => some true | .slice .. => some false | .sliceO .. => some false | _ => none)
  | .map => (match x with | .nilm => some true | .map _ => some false | _ => none)
  | .func => (match x with | .nilf => some true | .func .. => some false | _ => none)
  | .iface => (match x with | .niliface => some true | .iface .. => some false | _ => none)

/-- Two of which one at least is nil. -/
def eqNil (k : NilKind) (x y : AVal) : Option Bool :=
  match isNil k x with
  | some true => isNil k y
  | some false => (match isNil k y with | some true => some false | _ => none)
  | none => none

def aEqIn (P : Program) : Nat → TypeId → AVal → AVal → Option Bool
  | 0 => fun _ _ _ => none
  | d + 1 => fun t x y =>
    match P.underlying t with
    | some .bool => onBool x fun a => onBool y fun b => some (a == b)
    | some (.int _) => onInt x fun k a => onInt y fun k' b => if k = k' then some (a == b) else none
    | some .string => onStr x fun n v => onStr y fun m u => some (eqStr n v m u)
    | some (.pointer e) =>
      (match eqNil .ptr x y with
       | some b => some b
       | none => onPtr x fun i o => onPtr y fun j q => match Nat.beq i j, sizeB P e with | true, some (_ + 1) => some (Nat.beq o q) | _, _ => none)
    | some (.interface _) => eqNil .iface x y
    | some (.slice _) => eqNil .slice x y
    | some (.map _ _) => eqNil .map x y
    | some (.func _ _ _) => eqNil .func x y
    | some (.struct fs) => onAgg x fun xs => onAgg y fun ys => if P.stoodInHeld t then none else aEqFields P (aEqIn P d) xs ys fs.toList
    | some (.array n e) => onAgg x fun xs => onAgg y fun ys => (match sizeB P e with | some s => aEqElems P (aEqIn P d) e s xs ys n 0 | none => none)
    | _ => none
where
  aEqFields (P : Program) (eq : TypeId → AVal → AVal → Option Bool) (xs ys : List AVal) : List Field → Option Bool
    | [] => some true
    | f :: fs =>
      if f.name ≠ "_" then
        match aPart P f.type xs f.offset, aPart P f.type ys f.offset with
        | some a, some b => match eq f.type a b with
          | some true => aEqFields P eq xs ys fs
          | some false => some false
          | none => none
        | _, _ => none
      else aEqFields P eq xs ys fs
  aEqElems (P : Program) (eq : TypeId → AVal → AVal → Option Bool) (e : TypeId) (s : Nat) (xs ys : List AVal) : Nat → Nat → Option Bool
    | 0, _ => some true
    | n + 1, i =>
      match aPart P e xs (i * s), aPart P e ys (i * s) with
      | some a, some b => match eq e a b with
        | some true => aEqElems P eq e s xs ys n (i + 1)
        | some false => some false
        | none => none
      | _, _ => none

end
end Go.Proofs.YtbokoinmlbipmaaGreatDoor.Ev

-- EvEq2
namespace Go.Proofs.YtbokoinmlbipmaaGreatDoor.Ev
noncomputable section

theorem isNil_some {φ : Emb} {k : NilKind} {x : AVal} {X : Value} {b : Bool} (h : isNil k x = some b) (hx : VRel φ x X) :
    match k with
    | .ptr => ∃ a, X = .pointer a ∧ b = a.isNone
    | .slice => ∃ a n c, X = .slice a n c ∧ b = a.isNone
    | .map => ∃ a, X = .map a ∧ b = a.isNone
    | .func => (X = .nilFunc ∧ b = true) ∨ (∃ f a c, X = .func f a c ∧ b = false)
    | .iface => (X = .nilIface ∧ b = true) ∨ (∃ t v, X = .iface t v ∧ b = false) := by
  cases k <;> cases hx <;> simp only [isNil] at h <;> first
    | (cases h; done)
    | (cases h; exact ⟨_, rfl, rfl⟩)
    | (cases h; exact ⟨_, _, _, rfl, rfl⟩)
    | (cases h; exact .inl ⟨rfl, rfl⟩)
    | (cases h; exact .inr ⟨_, _, _, rfl, rfl⟩)
    | (cases h; exact .inr ⟨_, _, rfl, rfl⟩)

theorem eqNil_some {k : NilKind} {x y : AVal} {b : Bool} (h : eqNil k x y = some b) :
    (isNil k x = some true ∧ isNil k y = some b) ∨ (isNil k x = some false ∧ isNil k y = some true ∧ b = false) := by
  unfold eqNil at h
  split at h
  · exact .inl ⟨‹_›, h⟩
  · split at h
    · cases h; exact .inr ⟨‹_›, ‹_›, rfl⟩
    · cases h
  · cases h

section
variable {P : Program} {φ : Emb}

def EqOK (P : Program) (φ : Emb) (d : Nat) : Prop := ∀ t x y b X Y, aEqIn P d t x y = some b → VRel φ x X → VRel φ y Y → ∀ w, (Op.equalIn d t X Y).run P w = .ok b w

theorem aEqFields_rel {d : Nat} (ih : EqOK P φ d) {xs ys : List AVal} {xm ym : List Value} (hx : VRels φ xs xm) (hy : VRels φ ys ym) (w : World) :
    ∀ (fs : List Field) (b : Bool), aEqIn.aEqFields P (aEqIn P d) xs ys fs = some b → (Op.eqFields d xm.toArray ym.toArray fs).run P w = .ok b w
  | [], b, h => by simp only [aEqIn.aEqFields] at h; cases h; rfl
  | f :: fs, b, h => by
    simp only [aEqIn.aEqFields] at h
    simp only [Op.eqFields]
    split at h
    · rename_i hn
      rw [if_pos hn]
      split at h
      · rename_i a c ha hc
        obtain ⟨A, hA, hrA⟩ := aPart_rel ha hx w
        obtain ⟨C, hC, hrC⟩ := aPart_rel hc hy w
        simp only [Sem.run_bind, hA, hC, Result.andThen_ok]
        split at h
        · rename_i he
          simp only [ih _ _ _ _ _ _ he hrA hrC w, Result.andThen_ok, Bool.not_true, Bool.false_eq_true, if_false]
          exact aEqFields_rel ih hx hy w fs b h
        · rename_i he
          cases h
          simp only [ih _ _ _ _ _ _ he hrA hrC w, Result.andThen_ok, Bool.not_false, if_true, Sem.run_pure]
        · cases h
      · cases h
    · rename_i hn
      rw [if_neg hn]
      exact aEqFields_rel ih hx hy w fs b h

/-- The loop over an array's elements, as the model runs it. -/
def eqElems (d : Nat) (e : TypeId) (s : Nat) (xs ys : Array Value) : List Nat → Sem Bool
  | [] => pure true
  | i :: l => do
    let a ← part e xs (i * s)
    let b ← part e ys (i * s)
    let r ← Op.equalIn d e a b
    if (!r) = true then pure false else eqElems d e s xs ys l

theorem run_equalIn_array {d : Nat} {t e : TypeId} {n s : Nat} (xs ys : Array Value) (ht : P.underlying t = some (.array n e)) (hs : sizeB P e = some s) (w : World) :
    (Op.equalIn (d + 1) t (.agg xs) (.agg ys)).run P w = (eqElems d e s xs ys (List.range' 0 n)).run P w := by
  simp only [Op.equalIn, Sem.run_bind, run_underlying ht, Result.andThen_ok, run_sizeB hs]
  simp only [Std.Legacy.Range.forIn_eq_forIn_range', Std.Legacy.Range.size, Nat.sub_zero, Nat.add_sub_cancel, Nat.div_one]
  generalize List.range' 0 n = l
  induction l generalizing w with
  | nil => simp [eqElems]
  | cons i l ih =>
    simp only [List.forIn_cons, eqElems, Sem.run_bind, Sem.run_ite]
    generalize (part e xs (i * s)).run P w = r1
    cases r1 with
    | ok a w1 =>
      simp only [Result.andThen_ok]
      generalize (part e ys (i * s)).run P w1 = r2
      cases r2 with
      | ok b w2 =>
        simp only [Result.andThen_ok]
        generalize (Op.equalIn d e a b).run P w2 = r3
        cases r3 with
        | ok r w3 =>
          cases r
          · simp only [Result.andThen_ok, Bool.not_false, if_true, Sem.run_pure]
          · simp only [Result.andThen_ok, Bool.not_true, Bool.false_eq_true, if_false, Sem.run_pure]
            exact ih w3
        | halt x w3 => simp [Result.andThen]
      | halt x w2 => simp [Result.andThen]
    | halt x w1 => simp [Result.andThen]

theorem aEqElems_rel {d : Nat} (ih : EqOK P φ d) {e : TypeId} {s : Nat} {xs ys : List AVal} {xm ym : List Value} (hx : VRels φ xs xm) (hy : VRels φ ys ym) (w : World) :
    ∀ (n i : Nat) (b : Bool), aEqIn.aEqElems P (aEqIn P d) e s xs ys n i = some b → (eqElems d e s xm.toArray ym.toArray (List.range' i n)).run P w = .ok b w
  | 0, i, b, h => by simp only [aEqIn.aEqElems] at h; cases h; rfl
  | n + 1, i, b, h => by
    simp only [aEqIn.aEqElems] at h
    simp only [List.range'_succ, eqElems]
    split at h
    · rename_i a c ha hc
      obtain ⟨A, hA, hrA⟩ := aPart_rel ha hx w
      obtain ⟨C, hC, hrC⟩ := aPart_rel hc hy w
      simp only [Sem.run_bind, hA, hC, Result.andThen_ok]
      split at h
      · rename_i he
        simp only [ih _ _ _ _ _ _ he hrA hrC w, Result.andThen_ok, Bool.not_true, Bool.false_eq_true, if_false]
        exact aEqElems_rel ih hx hy w n (i + 1) b h
      · rename_i he
        cases h
        simp only [ih _ _ _ _ _ _ he hrA hrC w, Result.andThen_ok, Bool.not_false, if_true, Sem.run_pure]
      · cases h
    · cases h

theorem aEqIn_ok : ∀ d, EqOK P φ d := by
  intro d
  induction d with
  | zero => intro t x y b X Y h; simp [aEqIn] at h
  | succ d ih =>
    intro t x y b X Y h hx hy w
    unfold aEqIn at h
    split at h
    · rename_i hu
      obtain ⟨a, rfl, h'⟩ := onBool_some h
      clear h
      obtain ⟨c, rfl, h⟩ := onBool_some h'
      clear h'
      cases h; cases hx; cases hy
      simp [Op.equalIn, run_underlying hu]
    · rename_i k0 hu
      obtain ⟨k, a, rfl, h'⟩ := onInt_some h
      clear h
      obtain ⟨k', c, rfl, h⟩ := onInt_some h'
      clear h'
      cases hx; cases hy
      split at h
      · rename_i hk; cases h; subst hk; exact run_equalIn_int w d t k k0 a c hu
      · cases h
    · rename_i hu
      obtain ⟨n, v, rfl, h'⟩ := onStr_some h
      clear h
      obtain ⟨m, u, rfl, h⟩ := onStr_some h'
      clear h'
      cases h; cases hx; cases hy
      rw [run_equalIn_string w d t _ _ hu, eqStr_iff]
    · rename_i e hu
      split at h
      · rename_i b' hb
        cases h
        rcases eqNil_some hb with ⟨h1, h2⟩ | ⟨h1, h2, rfl⟩
        · obtain ⟨p, rfl, hp⟩ := isNil_some h1 hx
          obtain ⟨q, rfl, rfl⟩ := isNil_some h2 hy
          cases p with
          | none => simp [Op.equalIn, run_underlying hu]
          | some p => simp at hp
        · obtain ⟨p, rfl, hp⟩ := isNil_some h1 hx
          obtain ⟨q, rfl, hq⟩ := isNil_some h2 hy
          cases q with
          | none => cases p <;> simp [Op.equalIn, run_underlying hu] <;> simp at hp
          | some q => simp at hq
      · obtain ⟨i, o, rfl, h'⟩ := onPtr_some h
        clear h
        obtain ⟨j, q, rfl, h⟩ := onPtr_some h'
        clear h'
        split at h
        · rename_i s hij hs
          have := Nat.eq_of_beq_eq_true hij
          subst this
          cases h
          cases hx with
          | ptr e1 => cases hy with
            | ptr e2 =>
              rw [e1] at e2; cases e2
              rename_i sp
              simp only [Op.equalIn, Sem.run_bind, run_underlying hu, Result.andThen_ok, run_sizeB hs]
              rw [if_pos (Nat.succ_ne_zero s)]
              simp only [sameAddr, beq_self_eq_true, if_true]
              simp only [Sem.run_pure]
              congr 1
              rw [Bool.eq_iff_iff]
              simp [Nat.beq_eq]
        · cases h
    · rename_i ms hu
      rcases eqNil_some h with ⟨h1, h2⟩ | ⟨h1, h2, rfl⟩
      · rcases isNil_some h1 hx with ⟨rfl, _⟩ | ⟨t', v', rfl, hf⟩
        · rcases isNil_some h2 hy with ⟨rfl, rfl⟩ | ⟨t', v', rfl, rfl⟩ <;> simp [Op.equalIn, run_underlying hu]
        · cases hf
      · rcases isNil_some h1 hx with ⟨rfl, hf⟩ | ⟨t', v', rfl, _⟩
        · cases hf
        · rcases isNil_some h2 hy with ⟨rfl, _⟩ | ⟨t', v', rfl, hf⟩
          · simp [Op.equalIn, run_underlying hu]
          · cases hf
    · rename_i e hu
      rcases eqNil_some h with ⟨h1, h2⟩ | ⟨h1, h2, rfl⟩
      · obtain ⟨p, n, c, rfl, hp⟩ := isNil_some h1 hx
        obtain ⟨q, m, c', rfl, rfl⟩ := isNil_some h2 hy
        cases p with
        | none => simp [Op.equalIn, run_underlying hu]
        | some p => simp at hp
      · obtain ⟨p, n, c, rfl, hp⟩ := isNil_some h1 hx
        obtain ⟨q, m, c', rfl, hq⟩ := isNil_some h2 hy
        cases q with
        | none => cases p <;> simp [Op.equalIn, run_underlying hu] <;> simp at hp
        | some q => simp at hq
    · rename_i k e hu
      rcases eqNil_some h with ⟨h1, h2⟩ | ⟨h1, h2, rfl⟩
      · obtain ⟨p, rfl, hp⟩ := isNil_some h1 hx
        obtain ⟨q, rfl, rfl⟩ := isNil_some h2 hy
        cases p with
        | none => simp [Op.equalIn, run_underlying hu]
        | some p => simp at hp
      · obtain ⟨p, rfl, hp⟩ := isNil_some h1 hx
        obtain ⟨q, rfl, hq⟩ := isNil_some h2 hy
        cases q with
        | none => cases p <;> simp [Op.equalIn, run_underlying hu] <;> simp at hp
        | some q => simp at hq
    · rename_i hu
      rcases eqNil_some h with ⟨h1, h2⟩ | ⟨h1, h2, rfl⟩
      · rcases isNil_some h1 hx with ⟨rfl, _⟩ | ⟨f, a, c, rfl, hf⟩
        · rcases isNil_some h2 hy with ⟨rfl, rfl⟩ | ⟨f, a, c, rfl, rfl⟩ <;> simp [Op.equalIn, run_underlying hu]
        · cases hf
      · rcases isNil_some h1 hx with ⟨rfl, hf⟩ | ⟨f, a, c, rfl, _⟩
        · cases hf
        · rcases isNil_some h2 hy with ⟨rfl, _⟩ | ⟨f, a, c, rfl, hf⟩
          · simp [Op.equalIn, run_underlying hu]
          · cases hf
    · rename_i fs hu
      obtain ⟨xs, rfl, h'⟩ := onAgg_some h
      clear h
      obtain ⟨ys, rfl, h⟩ := onAgg_some h'
      clear h'
      cases hx with
      | agg hx => cases hy with
        | agg hy =>
          split at h
          · cases h
          · rename_i hst
            have hf : P.fieldsOf t = fs := by simp [Program.fieldsOf, hu]
            rw [run_equalIn_struct w d t _ _ (by rw [hf]; exact hu) (by simpa using hst), hf]
            exact aEqFields_rel ih hx hy w fs.toList b h
    · rename_i n e hu
      obtain ⟨xs, rfl, h'⟩ := onAgg_some h
      clear h
      obtain ⟨ys, rfl, h⟩ := onAgg_some h'
      clear h'
      cases hx with
      | agg hx => cases hy with
        | agg hy =>
          split at h
          · rename_i s hs
            rw [run_equalIn_array _ _ hu hs w]
            exact aEqElems_rel ih hx hy w n 0 b h
          · cases h
    · cases h
end

end
end Go.Proofs.YtbokoinmlbipmaaGreatDoor.Ev

-- EvBin
namespace Go.Proofs.YtbokoinmlbipmaaGreatDoor.Ev
noncomputable section

def sameK (k : IntKind) : IntKind → Bool := IntKind.rec (motive := fun _ => IntKind → Bool)
  (fun j => IntKind.rec (motive := fun _ => Bool) true false false false false false false false j)
  (fun j => IntKind.rec (motive := fun _ => Bool) false true false false false false false false j)
  (fun j => IntKind.rec (motive := fun _ => Bool) false false true false false false false false j)
  (fun j => IntKind.rec (motive := fun _ => Bool) false false false true false false false false j)
  (fun j => IntKind.rec (motive := fun _ => Bool) false false false false true false false false j)
  (fun j => IntKind.rec (motive := fun _ => Bool) false false false false false true false false j)
  (fun j => IntKind.rec (motive := fun _ => Bool) false false false false false false true false j)
  (fun j => IntKind.rec (motive := fun _ => Bool) false false false false false false false true j) k

theorem sameK_eq {j k : IntKind} (h : sameK j k = true) : j = k := by
  cases j <;> cases k <;> first | rfl | cases h

def leZ : Int → Int → Bool
  | .ofNat m => fun | .ofNat n => Nat.ble m n | .negSucc _ => false
  | .negSucc m => fun | .ofNat _ => true | .negSucc n => Nat.ble n m
def eqZ : Int → Int → Bool
  | .ofNat m => fun | .ofNat n => Nat.beq m n | .negSucc _ => false
  | .negSucc m => fun | .ofNat _ => false | .negSucc n => Nat.beq m n

theorem leZ_eq (a b : Int) : leZ a b = decide (a ≤ b) := by
  rw [Bool.eq_iff_iff, decide_eq_true_eq]
  cases a <;> cases b <;> simp only [leZ, Nat.ble_eq, Bool.false_eq_true, false_iff, true_iff, Int.ofNat_eq_natCast, Int.negSucc_eq] <;> omega
theorem eqZ_eq (a b : Int) : eqZ a b = (a == b) := by
  rw [Bool.eq_iff_iff, beq_iff_eq]
  cases a <;> cases b <;> simp only [eqZ, Nat.beq_eq, Bool.false_eq_true, false_iff, Int.ofNat_eq_natCast, Int.negSucc_eq] <;> omega

def mkI (k : IntKind) (n : Int) : Option AVal := forceZ n fun n => some (.int k n)
def mkB (b : Bool) : Option AVal := Bool.rec (motive := fun _ => Option AVal) (some (.bool false)) (some (.bool true)) b
def mkS (n v : Nat) : Option AVal := forceN n fun n => forceN v fun v => some (.str n v)

theorem mkI_eq (k : IntKind) (n : Int) : mkI k n = some (.int k n) := forceZ_eq _ _
theorem mkB_eq (b : Bool) : mkB b = some (.bool b) := by cases b <;> rfl
theorem mkS_eq (n v : Nat) : mkS n v = some (.str n v) := by simp [mkS, forceN_eq]

def bitsF (f : Nat → Nat → Nat) (k : IntKind) (a b : Int) : Int := wrapF k (f ((a % (2 ^ k.bits : Int)).toNat) ((b % (2 ^ k.bits : Int)).toNat) : Nat)

def aArith (op : BinOp) (k : IntKind) (a b : Int) : Option AVal :=
  match op with
  | .add => mkI k (wrapF k (Int.add a b))
  | .sub => mkI k (wrapF k (Int.sub a b))
  | .mul => mkI k (wrapF k (Int.mul a b))
  | .quo => (match eqZ b 0 with | true => none | false => mkI k (wrapF k (Int.tdiv a b)))
  | .rem => (match eqZ b 0 with | true => none | false => mkI k (Int.tmod a b))
  | .and => mkI k (bitsF Nat.land k a b)
  | .or => mkI k (bitsF Nat.lor k a b)
  | .xor => mkI k (bitsF Nat.xor k a b)
  | .eql => mkB (eqZ a b)
  | .neq => mkB (!(eqZ a b))
  | .lss => mkB (!(leZ b a))
  | .leq => mkB (leZ a b)
  | .gtr => mkB (!(leZ a b))
  | .geq => mkB (leZ b a)
  | _ => none

def concatV (n v u : Nat) : Nat := Nat.add (Nat.mod v (Nat.pow 256 n)) (Nat.mul u (Nat.pow 256 n))

def aStrOp (op : BinOp) (n v m u : Nat) : Option AVal :=
  match op with
  | .add => (match Nat.ble (Nat.add n m) 9223372036854775807 with | true => mkS (Nat.add n m) (concatV n v u) | false => none)
  | .eql => mkB (eqStr n v m u)
  | .neq => mkB (!(eqStr n v m u))
  | .lss => mkB (Op.bytesLess (bytesOf n v) (bytesOf m u))
  | .leq => mkB (Op.bytesLess (bytesOf n v) (bytesOf m u) || eqStr n v m u)
  | .gtr => mkB (!(Op.bytesLess (bytesOf n v) (bytesOf m u) || eqStr n v m u))
  | .geq => mkB (!(Op.bytesLess (bytesOf n v) (bytesOf m u)))
  | _ => none

def aShift (op : BinOp) (k : IntKind) (a b : Int) : Option AVal :=
  match leZ 0 b with
  | false => none
  | true => match op with
    | .shl => mkI k (wrapF k (Int.mul a (Int.ofNat (Nat.pow 2 (Nat.min b.toNat k.bits)))))
    | .shr => mkI k (Int.fdiv a (Int.ofNat (Nat.pow 2 (Nat.min b.toNat k.bits))))
    | _ => none

/-- May two values be held against each other without the guard's asking? -/
def guardB (P : Program) (t : TypeId) (c : Bool) (x y : AVal) : Bool :=
  match x with
  | .niliface => (match y with | .niliface => c | _ => true)
  | .agg _ => (match y with | .agg _ => !(P.eqGuardType P.depth t) | _ => true)
  | _ => true

def aEql (P : Program) (t : TypeId) (c : Bool) (x y : AVal) : Option Bool :=
  match guardB P t c x y with
  | true => aEqIn P 10000 t x y
  | false => none

def isShift : BinOp → Bool
  | .shl | .shr => true
  | _ => false

def aBin (P : Program) (op : BinOp) (t : TypeId) (c : Bool) (x y : AVal) : Option AVal :=
  match x with
  | .int k a => onInt y fun k' b =>
    (match isShift op with
     | true => aShift op k a b
     | false => (match sameK k k' with | true => aArith op k a b | false => none))
  | .str n v => onStr y fun m u => aStrOp op n v m u
  | _ => (match op with
    | .eql => (match aEql P t c x y with | some b => mkB b | none => none)
    | .neq => (match aEql P t c x y with | some b => mkB (!b) | none => none)
    | _ => none)

theorem concatV_eq (n v u : Nat) : concatV n v u = v % 256 ^ n + u * 256 ^ n := rfl

theorem bytesOf_concat : ∀ (n v m u : Nat), bytesOf n v ++ bytesOf m u = bytesOf (n + m) (concatV n v u)
  | 0, v, m, u => by simp [bytesOf, concatV_eq, Nat.mod_one]
  | n + 1, v, m, u => by
    have ih := bytesOf_concat n (v / 256) m u
    rw [show n + 1 + m = (n + m) + 1 by omega]
    simp only [bytesOf, List.cons_append]
    have e1 : concatV (n + 1) v u % 256 = v % 256 := by
      rw [concatV_eq, Nat.pow_succ, Nat.mul_comm (256 ^ n) 256, Nat.mod_mul]
      have : u * (256 * 256 ^ n) = 256 * (u * 256 ^ n) := by rw [Nat.mul_left_comm]
      omega
    have e2 : concatV (n + 1) v u / 256 = concatV n (v / 256) u := by
      rw [concatV_eq, concatV_eq, Nat.pow_succ, Nat.mul_comm (256 ^ n) 256, Nat.mod_mul]
      have : u * (256 * 256 ^ n) = 256 * (u * 256 ^ n) := by rw [Nat.mul_left_comm]
      omega
    rw [e1, e2, ih]

theorem unpack_append (n v m u : Nat) : unpack n v ++ unpack m u = unpack (n + m) (concatV n v u) := by
  have h := bytesOf_concat n v m u
  apply ByteArray.ext
  rw [ByteArray.data_append]
  show (bytesOf n v).toArray ++ (bytesOf m u).toArray = (bytesOf (n + m) (concatV n v u)).toArray
  rw [← h]; simp

theorem unpack_toList (n v : Nat) : (unpack n v).toList = bytesOf n v := by rw [ByteArray.toList_eq]; rfl

section
variable {P : Program} {φ : Emb}

theorem toNat_emod_ofInt (k : IntKind) (a : Int) : (BitVec.ofInt k.bits a).toNat = (a % (2 ^ k.bits : Int)).toNat := by
  rw [BitVec.toNat_ofInt]; simp

theorem aArith_rel {op : BinOp} {k : IntKind} {a b : Int} {v : AVal} {t : TypeId} (hs : isShift op = false) (h : aArith op k a b = some v) (w : World) :
    ∃ x, (binOp op t (.int k a) (.int k b)).run P w = .ok x w ∧ VRel φ v x := by
  cases op <;> simp only [aArith, mkI_eq, mkB_eq, wrapF_eq, eqZ_eq, leZ_eq, reduceCtorEq] at h <;> (try (cases hs; done))
  · cases h; exact ⟨_, by rw [binOp_add]; rfl, .int _ _⟩
  · cases h; exact ⟨_, by rw [binOp_sub]; rfl, .int _ _⟩
  · cases h; exact ⟨_, by rw [binOp_mul]; rfl, .int _ _⟩
  · split at h
    · cases h
    · rename_i hb
      cases h
      have hb : ¬ b = 0 := by simpa using hb
      exact ⟨_, by rw [binOp_quo]; simp only [Op.intDiv, hb, if_false]; rfl, .int _ _⟩
  · split at h
    · cases h
    · rename_i hb
      cases h
      have hb : ¬ b = 0 := by simpa using hb
      exact ⟨_, by rw [binOp_rem]; simp only [Op.intDiv, hb, if_false]; rfl, .int _ _⟩
  · cases h
    refine ⟨_, by rw [binOp_and]; rfl, ?_⟩
    rw [BitVec.toNat_and, toNat_emod_ofInt, toNat_emod_ofInt]
    simp only [bitsF, wrapF_eq]; exact .int _ _
  · cases h
    refine ⟨_, by rw [binOp_or]; rfl, ?_⟩
    rw [BitVec.toNat_or, toNat_emod_ofInt, toNat_emod_ofInt]
    simp only [bitsF, wrapF_eq]; exact .int _ _
  · cases h
    refine ⟨_, by rw [binOp_xor]; rfl, ?_⟩
    rw [BitVec.toNat_xor, toNat_emod_ofInt, toNat_emod_ofInt]
    simp only [bitsF, wrapF_eq]; exact .int _ _
  · cases h; exact ⟨_, by rw [binOp_eql]; rfl, .bool _⟩
  · cases h; exact ⟨_, by rw [binOp_neq]; rfl, by rw [show (a != b) = !(a == b) from rfl]; exact .bool _⟩
  · cases h; exact ⟨_, by rw [binOp_lss]; rfl, by rw [show decide (a < b) = !decide (b ≤ a) by rw [Bool.eq_iff_iff]; simp]; exact .bool _⟩
  · cases h; exact ⟨_, by rw [binOp_leq]; rfl, .bool _⟩
  · cases h; exact ⟨_, by rw [binOp_gtr]; rfl, by rw [show decide (a > b) = !decide (a ≤ b) by rw [Bool.eq_iff_iff]; simp]; exact .bool _⟩
  · cases h; exact ⟨_, by rw [binOp_geq]; rfl, by rw [show decide (a ≥ b) = decide (b ≤ a) from rfl]; exact .bool _⟩

theorem aShift_rel {op : BinOp} {k k' : IntKind} {a b : Int} {v : AVal} {t : TypeId} (h : aShift op k a b = some v) (w : World) :
    ∃ x, (binOp op t (.int k a) (.int k' b)).run P w = .ok x w ∧ VRel φ v x := by
  unfold aShift at h
  split at h
  · cases h
  · rename_i hb
    rw [leZ_eq] at hb
    have hb : ¬ b < 0 := by simpa using hb
    cases op <;> simp only [mkI_eq, wrapF_eq, reduceCtorEq] at h
    · cases h
      refine ⟨_, by rw [binOp_shl]; simp only [Op.shift, hb, if_false]; rfl, ?_⟩
      have e : a.mul (Int.ofNat (Nat.pow 2 (b.toNat.min k.bits))) = a * 2 ^ min b.toNat k.bits := by
        show a * ((2 ^ (min b.toNat k.bits) : Nat) : Int) = _
        simp
      rw [e]; exact .int _ _
    · cases h
      refine ⟨_, by rw [binOp_shr]; simp only [Op.shift, hb, if_false]; rfl, ?_⟩
      have e : (Int.ofNat (Nat.pow 2 (b.toNat.min k.bits))) = (2 : Int) ^ min b.toNat k.bits := by
        show ((2 ^ (min b.toNat k.bits) : Nat) : Int) = _
        simp
      rw [e]; exact .int _ _

theorem aStrOp_rel {op : BinOp} {n v m u : Nat} {r : AVal} {t : TypeId} (h : aStrOp op n v m u = some r) (w : World) :
    ∃ x, (binOp op t (.string (unpack n v)) (.string (unpack m u))).run P w = .ok x w ∧ VRel φ r x := by
  have hop : ∀ op, aStrOp op n v m u = some r → binOp op t (.string (unpack n v)) (.string (unpack m u)) = Op.stringOp op (unpack n v) (unpack m u) := by
    intro op _; cases op <;> rfl
  rw [hop op h]
  cases op <;> simp only [aStrOp, mkB_eq, mkS_eq, eqStr_iff, reduceCtorEq] at h
  · split at h
    · rename_i hb
      cases h
      have hb : n + m ≤ 9223372036854775807 := Nat.le_of_ble_eq_true hb
      refine ⟨_, by simp only [Op.stringOp, unpack_size, IntKind.max_i64]; rw [if_neg (by omega)]; rfl, ?_⟩
      rw [unpack_append]; exact .str _ _
    · cases h
  all_goals
    cases h
    refine ⟨_, by simp only [Op.stringOp, unpack_toList]; rfl, ?_⟩
    first | exact .bool _ | (simp only [unpack_toList]; exact .bool _)

theorem guardB_rel {op : BinOp} {t : TypeId} {a b : Operand} {x y : AVal} {X Y : Value} (h : guardB P t ((a matches .const _) || (b matches .const _)) x y = true) (hx : VRel φ x X) (hy : VRel φ y Y) (w : World) :
    (eqGuard op t a b X Y).run P w = .ok () w := by
  by_cases hop : op = .eql ∨ op = .neq
  · cases hx <;> cases hy <;> first
      | (rcases hop with rfl | rfl <;> rfl)
      | skip
    · simp only [guardB] at h
      rcases hop with rfl | rfl <;> cases a <;> cases b <;> first | rfl | cases h
    · simp only [guardB, Bool.not_eq_true'] at h
      rcases hop with rfl | rfl <;> exact run_eqGuard_agg w _ t a b _ _ h
  · have : eqGuard op t a b X Y = pure () := by
      cases op <;> first | rfl | (exact absurd (.inl rfl) hop) | (exact absurd (.inr rfl) hop)
    rw [this]; rfl

theorem binOp_eql_of {op : BinOp} {t : TypeId} {X Y : Value} {b : Bool} {w : World} (hop : op = .eql ∨ op = .neq)
    (hX : ∀ k n, X ≠ .int k n) (hS : ∀ s, X ≠ .string s) (hF : ∀ k n, X ≠ .float k n) (hC : ∀ k n m, X ≠ .complex k n m) (h : (Op.equalIn 10000 t X Y).run P w = .ok b w) :
    (binOp op t X Y).run P w = .ok (.bool (if op = .eql then b else !b)) w := by
  rcases hop with rfl | rfl
  · have : binOp .eql t X Y = (do pure (.bool (← Op.equal t X Y))) := by
      cases X <;> first | (exact absurd rfl (hX _ _)) | (exact absurd rfl (hS _)) | (exact absurd rfl (hF _ _)) | (exact absurd rfl (hC _ _ _)) | rfl
    rw [this]
    simp only [Sem.run_bind, Op.equal, Op.maxDepth, h, Result.andThen_ok, Sem.run_pure, if_true]
  · have : binOp .neq t X Y = (do pure (.bool (!(← Op.equal t X Y)))) := by
      cases X <;> first | (exact absurd rfl (hX _ _)) | (exact absurd rfl (hS _)) | (exact absurd rfl (hF _ _)) | (exact absurd rfl (hC _ _ _)) | rfl
    rw [this]
    simp only [Sem.run_bind, Op.equal, Op.maxDepth, h, Result.andThen_ok, Sem.run_pure, reduceCtorEq, if_false]

theorem aBin_rel {op : BinOp} {t : TypeId} {a b : Operand} {x y r : AVal} {X Y : Value} (h : aBin P op t ((a matches .const _) || (b matches .const _)) x y = some r)
    (hx : VRel φ x X) (hy : VRel φ y Y) (w : World) :
    ∃ R, (do eqGuard op t a b X Y; binOp op t X Y : Sem Value).run P w = .ok R w ∧ VRel φ r R := by
  unfold aBin at h
  split at h
  · obtain ⟨k', n, rfl, h'⟩ := onInt_some h
    cases hx; cases hy
    have hg : ∀ (k : IntKind) (m : Int), eqGuard op t a b (.int k m) (.int k' n) = pure () := fun k m => eqGuard_at_int ..
    rw [hg]
    simp only [Sem.run_bind, Sem.run_pure, Result.andThen_ok]
    split at h'
    · exact aShift_rel h' w
    · rename_i hs
      split at h'
      · rename_i hk
        have := sameK_eq hk
        subst this
        exact aArith_rel hs h' w
      · cases h'
  · obtain ⟨m, u, rfl, h'⟩ := onStr_some h
    cases hx; cases hy
    rw [eqGuard_at_string]
    simp only [Sem.run_bind, Sem.run_pure, Result.andThen_ok]
    exact aStrOp_rel h' w
  · rename_i hi hs
    have key : ∀ c, aEql P t ((a matches .const _) || (b matches .const _)) x y = some c → (op = .eql ∨ op = .neq) →
        (do eqGuard op t a b X Y; binOp op t X Y : Sem Value).run P w = .ok (.bool (if op = .eql then c else !c)) w := by
      intro c hc hop
      unfold aEql at hc
      split at hc
      · rename_i hg
        simp only [Sem.run_bind, guardB_rel hg hx hy w, Result.andThen_ok]
        refine binOp_eql_of hop ?_ ?_ ?_ ?_ (aEqIn_ok 10000 t x y c X Y hc hx hy w)
        · intro k n e; subst e; cases hx; exact hi _ _ rfl
        · intro s e; subst e; cases hx; exact hs _ _ rfl
        · intro k n e; subst e; cases hx
        · intro k n m e; subst e; cases hx
      · cases hc
    split at h
    · split at h
      · rename_i c hc
        rw [mkB_eq] at h; cases h
        exact ⟨_, key c hc (.inl rfl), .bool _⟩
      · cases h
    · split at h
      · rename_i c hc
        rw [mkB_eq] at h; cases h
        exact ⟨_, key c hc (.inr rfl), .bool _⟩
      · cases h
    · cases h
end

end
end Go.Proofs.YtbokoinmlbipmaaGreatDoor.Ev

-- EvPure2
namespace Go.Proofs.YtbokoinmlbipmaaGreatDoor.Ev
noncomputable section

def aUn (op : UnOp) (x : AVal) : Option AVal :=
  match op with
  | .neg => onInt x fun k n => mkI k (wrapF k (Int.sub 0 n))
  | .xor => onInt x fun k n => mkI k (bitsF Nat.xor k (if k.signed then -1 else k.max) n)
  | .not => onBool x fun b => mkB (!b)
  | _ => none

theorem aUn_rel {P : Program} {φ : Emb} {op : UnOp} {x r : AVal} {X : Value} (h : aUn op x = some r) (hx : VRel φ x X) (w : World) :
    ∃ R, (Op.unary op X).run P w = .ok R w ∧ VRel φ r R := by
  cases op <;> simp only [aUn, reduceCtorEq] at h
  · obtain ⟨k, n, rfl, h'⟩ := onInt_some h
    cases hx
    rw [mkI_eq, wrapF_eq] at h'; cases h'
    exact ⟨_, by rw [unary_neg]; rfl, .int _ _⟩
  · obtain ⟨k, n, rfl, h'⟩ := onInt_some h
    cases hx
    rw [mkI_eq] at h'; cases h'
    refine ⟨_, by rw [unary_xor]; rfl, ?_⟩
    rw [BitVec.toNat_xor, toNat_emod_ofInt, toNat_emod_ofInt]
    simp only [bitsF, wrapF_eq]; exact .int _ _
  · obtain ⟨b, rfl, h'⟩ := onBool_some h
    cases hx
    rw [mkB_eq] at h'; cases h'
    exact ⟨_, by rw [unary_not]; rfl, .bool _⟩

/-- Conversions that do not touch memory. -/
def aConv (P : Program) (src dst : TypeId) (x : AVal) : Option AVal :=
  match P.underlying src with
  | none => none
  | some _ => match P.underlying dst with
    | some (.int k) => onInt x fun _ n => mkI k (wrapF k n)
    | some .string => (match x with
      | .str n v => some (.str n v)
      | _ => none)
    | _ => none

theorem aConv_rel {P : Program} {φ : Emb} {src dst : TypeId} {x r : AVal} {X : Value} (h : aConv P src dst x = some r) (hx : VRel φ x X) (w : World) :
    ∃ R, (convert src dst X).run P w = .ok R w ∧ VRel φ r R := by
  unfold aConv at h
  split at h
  · cases h
  · rename_i us hs
    split at h
    · rename_i k hd
      obtain ⟨k', n, rfl, h'⟩ := onInt_some h
      cases hx
      rw [mkI_eq, wrapF_eq] at h'; cases h'
      refine ⟨_, ?_, .int _ _⟩
      simp only [convert, Sem.run_bind, run_underlying hs, run_underlying hd, Result.andThen_ok]
      rfl
    · rename_i hd
      split at h
      · cases h
        cases hx with
        | str =>
          refine ⟨_, ?_, .str _ _⟩
          simp only [convert, Sem.run_bind, run_underlying hs, run_underlying hd, Result.andThen_ok]
          cases us <;> rfl
      · cases h
    · cases h

def aMkIface (P : Program) (t : TypeId) (x : AVal) : Option AVal := match P.concrete t with | true => some (.iface t x) | false => none

theorem aMkIface_rel {P : Program} {φ : Emb} {t : TypeId} {x r : AVal} {X : Value} (h : aMkIface P t x = some r) (hx : VRel φ x X) (w : World) :
    ∃ R, (Instr.makeInterface t X).run P w = .ok R w ∧ VRel φ r R := by
  unfold aMkIface at h
  split at h
  · rename_i hc; cases h; exact ⟨_, run_makeInterface w t X hc, .iface t hx⟩
  · cases h

def aField (P : Program) (t : TypeId) (x : AVal) (f : Nat) : Option AVal :=
  match P.underlying t with
  | some (.struct fs) => (match fs[f]? with
    | some fd => onAgg x fun l => aPart P fd.type l fd.offset
    | none => none)
  | _ => none

theorem aField_rel {P : Program} {φ : Emb} {t : TypeId} {f : Nat} {x r : AVal} {X : Value} (h : aField P t x f = some r) (hx : VRel φ x X) (w : World) :
    ∃ R, (Instr.field t X f).run P w = .ok R w ∧ VRel φ r R := by
  unfold aField at h
  split at h
  · rename_i fs hu
    split at h
    · rename_i fd hf
      obtain ⟨l, rfl, h'⟩ := onAgg_some h
      cases hx with
      | agg hl =>
        obtain ⟨R, hR, hr⟩ := aPart_rel h' hl w
        refine ⟨R, ?_, hr⟩
        simp only [Instr.field, Sem.run_bind, run_underlying hu, Result.andThen_ok, hf, asAgg, Sem.run_pure]
        exact hR
    · cases h
  · cases h

def aFieldAddr (P : Program) (t : TypeId) (f : Nat) (x : AVal) : Option AVal :=
  match P.underlying t with
  | some (.struct fs) => (match fs[f]? with
    | some fd => (match sizeB P fd.type with
      | some (_ + 1) => onPtr x fun i o => forceN (Nat.add o fd.offset) fun q => some (.ptr i q)
      | _ => none)
    | none => none)
  | _ => none

theorem aFieldAddr_rel {P : Program} {φ : Emb} {t : TypeId} {f : Nat} {x r : AVal} {X : Value} (h : aFieldAddr P t f x = some r) (hx : VRel φ x X) (w : World) :
    ∃ R, (Instr.fieldAt t X f).run P w = .ok R w ∧ VRel φ r R := by
  unfold aFieldAddr at h
  split at h
  · rename_i fs hu
    split at h
    · rename_i fd hf
      split at h
      · rename_i s hs
        obtain ⟨i, o, rfl, h'⟩ := onPtr_some h
        rw [forceN_eq] at h'; cases h'
        cases hx with
        | ptr e =>
          refine ⟨_, ?_, .ptr (off := o + fd.offset) e⟩
          simp only [Instr.fieldAt, Sem.run_bind, run_underlying hu, Result.andThen_ok, hf, Instr.sureAddr, Sem.run_pure, fieldPlace, run_sizeB hs]
          rw [if_neg (Nat.succ_ne_zero s)]
          simp only [Sem.run_pure, Result.andThen_ok, Addr.add_lit, Nat.add_assoc]
      · cases h
    · cases h
  · cases h

def natOf (i : Int) : Option Nat := match i with | .ofNat n => some n | .negSucc _ => none

def inB (i n : Nat) : Bool := Nat.ble (Nat.succ i) n
theorem inB_lt {i n : Nat} (h : inB i n = true) : i < n := Nat.le_of_ble_eq_true h

/-- A slice that is not nil: its row, its place there, its length. -/
def onSl {β : Type} (x : AVal) (f : Nat → Nat → Nat → Option β) : Option β :=
  AVal.rec (motive_1 := fun _ => Option β) (motive_2 := fun _ => Unit) (fun _ => none) (fun _ _ => none) (fun _ _ => none) (fun _ _ => none) none (fun id o n _ => f id o n) (fun id o n _ => f id o n) none (fun _ => none) none (fun _ _ _ _ _ => none) (fun _ => none) none (fun _ _ _ => none) none (fun _ _ => none) (fun _ _ => none) () (fun _ _ _ _ => ()) x

theorem onSl_some {β : Type} {φ : Emb} {x : AVal} {X : Value} {f : Nat → Nat → Nat → Option β} {r : β} (h : onSl x f = some r) (hx : VRel φ x X) :
    ∃ id o n s a c, f id o n = some r ∧ φ id = some s ∧ X = .slice (some ⟨s.block, a, none⟩) n c ∧ (n ≠ 0 → a = s.base + o) := by
  cases hx <;> simp only [onSl, reduceCtorEq] at h
  · rename_i id o n c s e
    exact ⟨id, o, n, s, _, c, h, e, rfl, fun _ => rfl⟩
  · rename_i id o n es c a s e hc hs ho
    exact ⟨id, o, n, s, a, c, h, e, rfl, fun hn => ho (by omega)⟩

def aIndexAddr (P : Program) (t : TypeId) (x i : AVal) : Option AVal :=
  match P.underlying t with
  | some (.array n e) => (match sizeB P e with
    | some s => onInt i fun _ z => match natOf z with
      | some j => (match inB j n with
        | true => onPtr x fun id o => forceN (Nat.add o (Nat.mul j s)) fun q => some (.ptr id q)
        | false => none)
      | none => none
    | none => none)
  | some (.slice e) => (match sizeB P e with
    | some s => onInt i fun _ z => match natOf z with
      | some j => onSl x fun id o n => (match inB j n with
          | true => forceN (Nat.add o (Nat.mul j s)) fun q => some (.ptr id q)
          | false => none)
      | none => none
    | none => none)
  | _ => none

theorem natOf_some {z : Int} {j : Nat} (h : natOf z = some j) : z = (j : Int) := by
  cases z <;> simp [natOf] at h; subst h; rfl

theorem aIndexAddr_rel {P : Program} {φ : Emb} {t : TypeId} {x i r : AVal} {X I : Value} (h : aIndexAddr P t x i = some r) (hx : VRel φ x X) (hi : VRel φ i I) (w : World) :
    ∃ R, (Instr.indexAt t X I).run P w = .ok R w ∧ VRel φ r R := by
  unfold aIndexAddr at h
  split at h
  · rename_i n e hu
    split at h
    · rename_i s hs
      obtain ⟨k, z, rfl, h'⟩ := onInt_some h
      cases hi
      split at h'
      · rename_i j hj
        have := natOf_some hj
        subst this
        split at h'
        · rename_i hb
          have hlt := inB_lt hb
          obtain ⟨id, o, rfl, h''⟩ := onPtr_some h'
          rw [forceN_eq] at h''; cases h''
          cases hx with
          | ptr ee =>
            refine ⟨_, ?_, .ptr (off := o + j * s) ee⟩
            simp only [Instr.indexAt, asIntOf, Sem.run_bind, Sem.run_pure, Result.andThen_ok, run_underlying hu, Instr.sureAddr]
            rw [if_pos ⟨by omega, by omega⟩]
            simp only [Sem.run_bind, run_sizeB hs, Result.andThen_ok, Sem.run_pure, Addr.add_lit, Int.toNat_natCast, Nat.add_assoc]
        · cases h'
      · cases h'
    · cases h
  · rename_i e hu
    split at h
    · rename_i s hs
      obtain ⟨k, z, rfl, h'⟩ := onInt_some h
      cases hi
      split at h'
      · rename_i j hj
        have := natOf_some hj
        subst this
        obtain ⟨id, o, n, sp, a, c, h'', e', rfl, ha⟩ := onSl_some h' hx
        split at h''
        · rename_i hb
          have hlt := inB_lt hb
          rw [forceN_eq] at h''; cases h''
          have := ha (by omega)
          subst this
          refine ⟨_, ?_, .ptr (off := o + j * s) e'⟩
          simp only [Instr.indexAt, asIntOf, Sem.run_bind, Sem.run_pure, Result.andThen_ok, run_underlying hu]
          rw [if_pos ⟨by omega, by omega⟩]
          simp only [Sem.run_bind, run_sizeB hs, Result.andThen_ok, Sem.run_pure, Addr.add_lit, Int.toNat_natCast, Nat.add_assoc]
        · cases h''
      · cases h'
    · cases h
  · cases h

end
end Go.Proofs.YtbokoinmlbipmaaGreatDoor.Ev

-- EvPure3
namespace Go.Proofs.YtbokoinmlbipmaaGreatDoor.Ev
noncomputable section

def byteAt (v j : Nat) : Nat := Nat.mod (Nat.div v (Nat.pow 256 j)) 256

theorem bytesOf_get : ∀ (n v j : Nat), j < n → (bytesOf n v)[j]? = some (UInt8.ofNat (byteAt v j))
  | 0, _, _, h => by omega
  | n + 1, v, 0, _ => by
    have : byteAt v 0 = v % 256 := by show v / 256 ^ 0 % 256 = _; simp
    simp [bytesOf, this]
  | n + 1, v, j + 1, h => by
    have : byteAt v (j + 1) = byteAt (v / 256) j := by
      show v / 256 ^ (j + 1) % 256 = v / 256 / 256 ^ j % 256
      rw [Nat.div_div_eq_div_mul, Nat.pow_succ, Nat.mul_comm]
    simp only [bytesOf, List.getElem?_cons_succ, this]
    exact bytesOf_get n (v / 256) j (by omega)

theorem unpack_get {n v j : Nat} (h : j < n) : (unpack n v)[j]? = some (UInt8.ofNat (byteAt v j)) := by
  have := bytesOf_get n v j h
  have e : (unpack n v)[j]? = (bytesOf n v)[j]? := by
    rw [getElem?_def, getElem?_def]
    have h1 : j < (unpack n v).size := by simpa using h
    have h2 : j < (bytesOf n v).length := by simpa using h
    rw [dif_pos h1, dif_pos h2]
    rfl
  rw [e, this]

theorem byteAt_lt (v j : Nat) : byteAt v j < 256 := Nat.mod_lt _ (by decide)

def aIndex (P : Program) (t : TypeId) (x i : AVal) : Option AVal :=
  match P.underlying t with
  | some .string => onInt i fun _ z => match natOf z with
    | some j => onStr x fun n v => (match inB j n with | true => mkI .u8 (Int.ofNat (byteAt v j)) | false => none)
    | none => none
  | some (.array n e) => (match sizeB P e with
    | some s => onInt i fun _ z => match natOf z with
      | some j => onAgg x fun l => (match inB j n with | true => aPart P e l (Nat.mul j s) | false => none)
      | none => none
    | none => none)
  | _ => none

theorem aIndex_rel {P : Program} {φ : Emb} {t : TypeId} {x i r : AVal} {X I : Value} (h : aIndex P t x i = some r) (hx : VRel φ x X) (hi : VRel φ i I) (w : World) :
    ∃ R, (Instr.index t X I).run P w = .ok R w ∧ VRel φ r R := by
  unfold aIndex at h
  split at h
  · rename_i hu
    obtain ⟨k, z, rfl, h'⟩ := onInt_some h
    cases hi
    split at h'
    · rename_i j hj
      have := natOf_some hj
      subst this
      obtain ⟨n, v, rfl, h''⟩ := onStr_some h'
      split at h''
      · rename_i hb
        have hlt := inB_lt hb
        rw [mkI_eq] at h''; cases h''
        cases hx
        refine ⟨.int .u8 ((UInt8.ofNat (byteAt v j)).toNat : Nat), ?_, ?_⟩
        · simp only [Instr.index, asIntOf, Sem.run_bind, Sem.run_pure, Result.andThen_ok, run_underlying hu, Int.toNat_natCast]
          rw [if_pos (by omega), unpack_get hlt]
          rfl
        · have : (UInt8.ofNat (byteAt v j)).toNat = byteAt v j := by
            have := byteAt_lt v j
            simp [UInt8.toNat_ofNat']; omega
          rw [this]
          exact .int .u8 _
      · cases h''
    · cases h'
  · rename_i n e hu
    split at h
    · rename_i s hs
      obtain ⟨k, z, rfl, h'⟩ := onInt_some h
      cases hi
      split at h'
      · rename_i j hj
        have := natOf_some hj
        subst this
        obtain ⟨l, rfl, h''⟩ := onAgg_some h'
        split at h''
        · rename_i hb
          have hlt := inB_lt hb
          cases hx with
          | agg hl =>
            obtain ⟨R, hR, hr⟩ := aPart_rel h'' hl w
            refine ⟨R, ?_, hr⟩
            simp only [Instr.index, asIntOf, Sem.run_bind, Sem.run_pure, Result.andThen_ok, run_underlying hu]
            rw [if_pos ⟨by omega, by omega⟩]
            simp only [Sem.run_bind, run_sizeB hs, Result.andThen_ok, Int.toNat_natCast]
            exact hR
        · cases h''
      · cases h'
    · cases h
  · cases h

/-- A bound: at most y. -/
def aBound (x : AVal) (y : Nat) : Option Nat := onInt x fun _ z => match natOf z with
  | some j => (match Nat.ble j y with | true => some j | false => none)
  | none => none

theorem aBound_rel {P : Program} {φ : Emb} {x : AVal} {X : Value} {y y' j : Nat} {code : BoundsCode} (h : aBound x y = some j) (hx : VRel φ x X) (hy : y ≤ y') (w : World) :
    (Instr.sliceBound X y' code).run P w = .ok j w ∧ j ≤ y := by
  obtain ⟨k, z, rfl, h'⟩ := onInt_some h
  cases hx
  split at h'
  · rename_i j' hj
    have := natOf_some hj
    subst this
    split at h'
    · rename_i hb
      cases h'
      have hle : j ≤ y := Nat.le_of_ble_eq_true hb
      refine ⟨?_, hle⟩
      rw [run_sliceBound (P := P) (w := w) k (j : Int) y' code (by omega) (by omega)]
      simp
    · cases h'
  · cases h'

def aLow (lo : Option AVal) (h : Nat) : Option Nat := match lo with | some x => aBound x h | none => some 0
def aHigh (hi : Option AVal) (len cap : Nat) : Option Nat := match hi with | some x => aBound x cap | none => some len

/-- The bounds of a slice expression without a third index: low, high. -/
def aBounds (len cap : Nat) (lo hi : Option AVal) : Option (Nat × Nat) :=
  match aHigh hi len cap with
  | some h => (match aLow lo h with | some l => some (l, h) | none => none)
  | none => none

def ORel (φ : Emb) (x : Option AVal) (X : Option Value) : Prop := (x = none ∧ X = none) ∨ ∃ v V, x = some v ∧ X = some V ∧ VRel φ v V

theorem aBounds_rel {P : Program} {φ : Emb} {isSlice : Bool} {len cap cap' l h : Nat} {lo hi : Option AVal} {LO HI : Option Value} (e : aBounds len cap lo hi = some (l, h))
    (hlo : ORel φ lo LO) (hhi : ORel φ hi HI) (hlc : len ≤ cap) (hcc : cap ≤ cap') (w : World) :
    (Instr.sliceBounds isSlice len cap' LO HI none).run P w = .ok (l, h, cap') w ∧ l ≤ h ∧ h ≤ cap ∧ (hi = none → h = len) := by
  unfold aBounds at e
  split at e
  · rename_i h' hh
    split at e
    · rename_i l' hl
      cases e
      have hH : h ≤ cap ∧ (hi = none → h = len) ∧ ∀ (code : BoundsCode), (match HI with | some v => Instr.sliceBound v cap' code | none => pure len : Sem Nat).run P w = .ok h w := by
        rcases hhi with ⟨rfl, rfl⟩ | ⟨v, V, rfl, rfl, hv⟩
        · simp only [aHigh] at hh; cases hh
          exact ⟨hlc, fun _ => rfl, fun _ => rfl⟩
        · simp only [aHigh] at hh
          exact ⟨(aBound_rel (code := .index) (P := P) hh hv hcc w).2, (by simp), fun _ => (aBound_rel hh hv hcc w).1⟩
      have hL : l ≤ h ∧ ∀ (code : BoundsCode), (match LO with | some v => Instr.sliceBound v h code | none => pure 0 : Sem Nat).run P w = .ok l w := by
        rcases hlo with ⟨rfl, rfl⟩ | ⟨v, V, rfl, rfl, hv⟩
        · simp only [aLow] at hl; cases hl
          exact ⟨Nat.zero_le _, fun _ => rfl⟩
        · simp only [aLow] at hl
          exact ⟨(aBound_rel (code := .index) (P := P) hl hv (Nat.le_refl _) w).2, fun _ => (aBound_rel hl hv (Nat.le_refl _) w).1⟩
      refine ⟨?_, hL.1, hH.1, hH.2.1⟩
      have h1 := hH.2.2 (if isSlice then .sliceAcap else .sliceAlen)
      have h2 := hL.2 .sliceB
      unfold Instr.sliceBounds
      cases HI with
      | none =>
        simp only [Sem.run_pure, Result.ok.injEq, and_true] at h1
        subst h1
        cases LO with
        | none => simp only [Sem.run_pure, Result.ok.injEq, and_true] at h2; subst h2; simp only [Sem.run_bind, Sem.run_pure, Result.andThen_ok]
        | some v => simp only at h2; simp only [Sem.run_bind, Sem.run_pure, h2, Result.andThen_ok, Option.isSome_none, Bool.false_eq_true, if_false]
      | some u =>
        simp only at h1
        cases LO with
        | none => simp only [Sem.run_pure, Result.ok.injEq, and_true] at h2; subst h2; simp only [Sem.run_bind, Sem.run_pure, h1, Result.andThen_ok]
        | some v => simp only at h2; simp only [Sem.run_bind, Sem.run_pure, h1, h2, Result.andThen_ok, Option.isSome_none, Bool.false_eq_true, if_false]
    · cases e
  · cases e

theorem bytesOf_drop : ∀ (n v l : Nat), l ≤ n → (bytesOf n v).drop l = bytesOf (n - l) (v / 256 ^ l)
  | n, v, 0, _ => by simp
  | 0, v, l + 1, h => by omega
  | n + 1, v, l + 1, h => by
    simp only [bytesOf, List.drop_succ_cons]
    rw [bytesOf_drop n (v / 256) l (by omega), Nat.div_div_eq_div_mul, Nat.pow_succ, Nat.mul_comm]
    congr 1
    omega

theorem bytesOf_take : ∀ (n v h : Nat), h ≤ n → (bytesOf n v).take h = bytesOf h v
  | n, v, 0, _ => by simp [bytesOf]
  | 0, v, h + 1, e => by omega
  | n + 1, v, h + 1, e => by
    simp only [bytesOf, List.take_succ_cons]
    rw [bytesOf_take n (v / 256) h (by omega)]

def cutV (v l h : Nat) : Nat := Nat.mod (Nat.div v (Nat.pow 256 l)) (Nat.pow 256 (Nat.sub h l))

theorem bytesOf_mod (n v : Nat) : bytesOf n (v % 256 ^ n) = bytesOf n v := (bytesOf_eq_iff n _ _).2 (Nat.mod_mod _ _)

theorem unpack_extract {n v l h : Nat} (h1 : l ≤ h) (h2 : h ≤ n) : (unpack n v).extract l h = unpack (h - l) (cutV v l h) := by
  apply ByteArray.ext
  rw [ByteArray.data_extract]
  show (bytesOf n v).toArray.extract l h = (bytesOf (h - l) (v / 256 ^ l % 256 ^ (h - l))).toArray
  rw [bytesOf_mod, List.extract_toArray, List.extract_eq_take_drop, bytesOf_drop n v l (by omega), bytesOf_take _ _ _ (by omega)]

end
end Go.Proofs.YtbokoinmlbipmaaGreatDoor.Ev

-- EvPure4
namespace Go.Proofs.YtbokoinmlbipmaaGreatDoor.Ev
noncomputable section

def aSlice (P : Program) (t : TypeId) (x : AVal) (lo hi : Option AVal) : Option AVal :=
  match P.underlying t with
  | some (.array n e) => (match sizeB P e with
    | some s => onPtr x fun id o => (match aBounds n n lo hi with
      | some (l, h) => (match Nat.beq n l with
        | true => some (.slice id o (Nat.sub h l) (Nat.sub n l))
        | false => some (.slice id (Nat.add o (Nat.mul l s)) (Nat.sub h l) (Nat.sub n l)))
      | none => none)
    | none => none)
  | some .string => onStr x fun n v => (match aBounds n n lo hi with
    | some (l, h) => mkS (Nat.sub h l) (cutV v l h)
    | none => none)
  | some (.slice e) => (match sizeB P e with
    | some s => (match x with
      | .nils => (match aBounds 0 0 lo hi with | some _ => some .nils | none => none)
      | .slice id o n c => (match Nat.ble n c with
        | true => (match aBounds n c lo hi with
          | some (l, h) => (match Nat.beq c l with
            | true => some (.slice id o (Nat.sub h l) (Nat.sub c l))
            | false => some (.slice id (Nat.add o (Nat.mul l s)) (Nat.sub h l) (Nat.sub c l)))
          | none => none)
        | false => none)
      | .sliceO id o n es => (match Nat.beq es s with
        | true => (match aBounds n n lo hi with
          | some (l, h) => some (.sliceO id (Nat.add o (Nat.mul l s)) (Nat.sub h l) es)
          | none => none)
        | false => none)
      | _ => none)
    | none => none)
  | _ => none

theorem aSlice_rel {P : Program} {φ : Emb} {t : TypeId} {x r : AVal} {X : Value} {lo hi : Option AVal} {LO HI : Option Value} (h : aSlice P t x lo hi = some r)
    (hx : VRel φ x X) (hlo : ORel φ lo LO) (hhi : ORel φ hi HI) (w : World) :
    ∃ R, (Instr.sliceAt t X LO HI none).run P w = .ok R w ∧ VRel φ r R := by
  unfold aSlice at h
  split at h
  · rename_i n e hu
    split at h
    · rename_i s hs
      obtain ⟨id, o, rfl, h'⟩ := onPtr_some h
      cases hx with
      | ptr ee =>
        rename_i sp
        split at h'
        · rename_i l hh hb
          obtain ⟨hrun, hle, hlc, _⟩ := aBounds_rel (P := P) (isSlice := false) hb hlo hhi (Nat.le_refl _) (Nat.le_refl _) w
          simp only [Instr.sliceAt, Sem.run_bind, run_underlying hu, Result.andThen_ok, Instr.sureAddr, Sem.run_pure, hrun, run_sizeB hs]
          split at h'
          · rename_i hc
            have hc := Nat.eq_of_beq_eq_true hc
            cases h'
            refine ⟨_, rfl, ?_⟩
            rw [if_pos hc]
            exact .slice ee
          · rename_i hc
            have hc : n ≠ l := Nat.ne_of_beq_eq_false hc
            cases h'
            refine ⟨_, rfl, ?_⟩
            rw [if_neg hc, Addr.add_lit, Nat.add_assoc]
            exact .slice ee
        · cases h'
    · cases h
  · rename_i hu
    obtain ⟨n, v, rfl, h'⟩ := onStr_some h
    cases hx
    split at h'
    · rename_i l hh hb
      obtain ⟨hrun, hle, hlc, _⟩ := aBounds_rel (P := P) (isSlice := false) hb hlo hhi (Nat.le_refl _) (Nat.le_refl _) w
      rw [mkS_eq] at h'; cases h'
      refine ⟨.string ((unpack n v).extract l hh), ?_, ?_⟩
      · simp only [Instr.sliceAt, Instr.slice, Sem.run_bind, run_underlying hu, Result.andThen_ok, unpack_size, hrun, Option.isSome_none, Bool.false_eq_true, if_false, Sem.run_pure]
      · rw [unpack_extract hle hlc]; exact .str _ _
    · cases h'
  · rename_i e hu
    split at h
    · rename_i s hs
      split at h
      · split at h
        · rename_i p hb
          obtain ⟨l, hh⟩ := p
          cases h
          cases hx
          obtain ⟨hrun, hle, hlc, _⟩ := aBounds_rel (P := P) (isSlice := true) hb hlo hhi (Nat.le_refl _) (Nat.le_refl _) w
          have : hh = 0 := by omega
          subst this
          have : l = 0 := by omega
          subst this
          refine ⟨.slice none 0 0, ?_, .nils⟩
          simp only [Instr.sliceAt, Instr.slice, Sem.run_bind, run_underlying hu, Result.andThen_ok, hrun, run_sizeB hs, Sem.run_pure, if_true]
        · cases h
      · rename_i id o n c
        split at h
        · rename_i hnc
          have hnc : n ≤ c := Nat.le_of_ble_eq_true hnc
          split at h
          · rename_i l hh hb
            obtain ⟨hrun, hle, hlc, _⟩ := aBounds_rel (P := P) (isSlice := true) hb hlo hhi hnc (Nat.le_refl _) w
            cases hx with
            | slice ee =>
              simp only [Instr.sliceAt, Instr.slice, Sem.run_bind, run_underlying hu, Result.andThen_ok, hrun, run_sizeB hs, Sem.run_pure]
              split at h
              · rename_i hc
                have hc := Nat.eq_of_beq_eq_true hc
                cases h
                refine ⟨_, rfl, ?_⟩
                rw [if_pos hc]
                exact .slice ee
              · rename_i hc
                have hc : c ≠ l := Nat.ne_of_beq_eq_false hc
                cases h
                refine ⟨_, rfl, ?_⟩
                rw [if_neg hc, Option.map_some, Addr.add_lit, Nat.add_assoc]
                exact .slice ee
          · cases h
        · cases h
      · rename_i id o n es
        split at h
        · rename_i hes
          have hes := Nat.eq_of_beq_eq_true hes
          subst hes
          split at h
          · rename_i l hh hb
            cases h
            cases hx with
            | sliceO ee hc hsz ho =>
              rename_i c a sp
              obtain ⟨hrun, hle, hlc, _⟩ := aBounds_rel (P := P) (isSlice := true) hb hlo hhi (Nat.le_refl _) hc w
              simp only [Instr.sliceAt, Instr.slice, Sem.run_bind, run_underlying hu, Result.andThen_ok, hrun, run_sizeB hs, Sem.run_pure]
              have hmul : sp.base + (o + l * es) + (c - l) * es ≤ sp.size := by
                have : l * es + (c - l) * es = c * es := by rw [← Nat.add_mul]; congr 1; omega
                omega
              by_cases hcl : c = l
              · refine ⟨_, rfl, ?_⟩
                rw [if_pos hcl]
                exact .sliceO (off := o + l * es) ee (by show hh - l ≤ c - l; omega) hmul (fun x => absurd x (by omega))
              · refine ⟨_, rfl, ?_⟩
                rw [if_neg hcl, Option.map_some, Addr.add_lit]
                exact .sliceO (off := o + l * es) ee (by show hh - l ≤ c - l; omega) hmul (fun _ => by rw [ho (by omega)]; omega)
          · cases h
        · cases h
      · cases h
    · cases h
  · cases h

def aExtract (x : AVal) (i : Nat) : Option AVal := onTup x fun l => l[i]?

theorem aExtract_rel {P : Program} {φ : Emb} {i : Nat} {x r : AVal} {X : Value} (h : aExtract x i = some r) (hx : VRel φ x X) (w : World) :
    ∃ R, (Instr.extract X i).run P w = .ok R w ∧ VRel φ r R := by
  obtain ⟨l, rfl, h'⟩ := onTup_some h
  cases hx with
  | tup hl =>
    obtain ⟨R, hR, hr⟩ := hl.get i r h'
    exact ⟨R, by simp [Instr.extract, hR], hr⟩

def zeroB (P : Program) (t : TypeId) : Option AVal := match P.info? t with
  | some i => (match i.zero with | some z => cval 5 z | none => none)
  | none => none

theorem zeroB_rel {P : Program} {t : TypeId} {z : AVal} (h : zeroB P t = some z) (w : World) : ∃ Z, (zeroValue t).run P w = .ok Z w ∧ ∀ φ, VRel φ z Z := by
  unfold zeroB at h
  split at h
  · rename_i i hi
    split at h
    · rename_i Z hz
      exact ⟨Z, by simp [zeroValue, typeInfo, hi, hz], fun φ => cval_rel φ 5 Z z h⟩
    · cases h
  · cases h

/-- An assertion to a concrete type. -/
def aAssert (P : Program) (x : AVal) (to : TypeId) (ok : Bool) : Option AVal :=
  match P.underlying to with
  | some (.interface _) | none => none
  | some _ => (match x with
    | .iface t v => (match Nat.beq t to with
      | true => (match ok with | true => some (.tup [v, .bool true]) | false => some v)
      | false => (match ok with | true => (match zeroB P to with | some z => some (.tup [z, .bool false]) | none => none) | false => none))
    | .niliface => (match ok with | true => (match zeroB P to with | some z => some (.tup [z, .bool false]) | none => none) | false => none)
    | _ => none)

theorem aAssert_rel {P : Program} {φ : Emb} {x r : AVal} {X : Value} {t to : TypeId} {ok : Bool} (h : aAssert P x to ok = some r) (hx : VRel φ x X) (w : World) :
    ∃ R, (Instr.typeAssert X t to ok).run P w = .ok R w ∧ VRel φ r R := by
  unfold aAssert at h
  split at h
  · cases h
  · cases h
  · rename_i d hni hu
    have hni : ∀ ms, d ≠ .interface ms := fun ms e => hni ms (by rw [e])
    split at h
    · cases hx with
      | iface t' hv =>
        rename_i v V
        split at h
        · rename_i he
          have he := Nat.eq_of_beq_eq_true he
          subst he
          cases ok
          · cases h
            refine ⟨V, ?_, hv⟩
            simp only [Instr.typeAssert, Sem.run_bind, run_underlying hu, Result.andThen_ok]
            cases d <;> first | (exact absurd rfl (hni _)) | simp
          · cases h
            refine ⟨.tuple #[V, .bool true], ?_, .tup (vs := [V, .bool true]) (.cons hv (.cons (.bool _) .nil))⟩
            simp only [Instr.typeAssert, Sem.run_bind, run_underlying hu, Result.andThen_ok]
            cases d <;> first | (exact absurd rfl (hni _)) | simp
        · rename_i he
          have he := Nat.ne_of_beq_eq_false he
          cases ok
          · cases h
          · simp only at h
            split at h
            · rename_i z hz
              cases h
              obtain ⟨Z, hZ, hr⟩ := zeroB_rel hz w
              refine ⟨.tuple #[Z, .bool false], ?_, .tup (vs := [Z, .bool false]) (.cons (hr φ) (.cons (.bool _) .nil))⟩
              simp only [Instr.typeAssert, Sem.run_bind, run_underlying hu, Result.andThen_ok]
              cases d <;> first | (exact absurd rfl (hni _)) | simp [he, hZ]
            · cases h
    · cases hx with
      | niliface =>
        cases ok
        · cases h
        · simp only at h
          split at h
          · rename_i z hz
            cases h
            obtain ⟨Z, hZ, hr⟩ := zeroB_rel hz w
            refine ⟨.tuple #[Z, .bool false], ?_, .tup (vs := [Z, .bool false]) (.cons (hr φ) (.cons (.bool _) .nil))⟩
            simp only [Instr.typeAssert, Sem.run_bind, run_underlying hu, Result.andThen_ok]
            cases d <;> first | (exact absurd rfl (hni _)) | simp [hZ]
          · cases h
    · cases h

end
end Go.Proofs.YtbokoinmlbipmaaGreatDoor.Ev

-- EvBuild
namespace Go.Proofs.YtbokoinmlbipmaaGreatDoor.Ev
noncomputable section

def AVal.cells : AVal → List AVal
  | .agg l => l
  | v => [v]

theorem VRel.cells {φ : Emb} {v : AVal} {x : Value} (h : VRel φ v x) : VRels φ v.cells x.cells.toList := by
  cases h <;> first
    | (simp only [AVal.cells, Value.cells]; assumption)
    | exact .cons (by constructor <;> assumption) .nil

def splice (cs : List AVal) (off : Nat) (vs : List AVal) : List AVal := cs.take off ++ (vs ++ cs.drop (off + vs.length))

theorem VRels.splice {φ : Emb} {cs vs : List AVal} {xs ys : List Value} (h : VRels φ cs xs) (k : VRels φ vs ys) (off : Nat) :
    VRels φ (splice cs off vs) (xs.take off ++ (ys ++ xs.drop (off + ys.length))) := by
  unfold Ev.splice
  rw [k.length]
  exact (h.take off).append (k.append (h.drop _))

theorem foldl_set (off : Nat) : ∀ (vs : List Value) (k : Nat) (cs : List Value), off + k + vs.length ≤ cs.length →
    (vs.zipIdx k).foldl (fun (cs : List Value) (p : Value × Nat) => cs.set (off + p.2) p.1) cs = cs.take (off + k) ++ (vs ++ cs.drop (off + k + vs.length))
  | [], k, cs, _ => by simp
  | v :: vs, k, cs, h => by
    simp only [List.length_cons] at h
    simp only [List.zipIdx_cons, List.foldl_cons]
    rw [foldl_set off vs (k + 1) (cs.set (off + k) v) (by simp; omega)]
    have hlt : off + k < cs.length := by omega
    rw [List.drop_set, if_pos (by omega), List.take_set]
    rw [show off + (k + 1) = (off + k) + 1 by omega, List.take_add_one, List.set_append]
    have hl : (cs.take (off + k)).length = off + k := by simp; omega
    rw [if_neg (by omega), hl, Nat.sub_self, List.getElem?_eq_getElem hlt]
    simp only [Option.toList_some, List.set_cons_zero, List.append_assoc, List.cons_append, List.nil_append, List.length_cons]
    rw [show off + k + (vs.length + 1) = off + k + 1 + vs.length by omega]

theorem foldl_setIfInBounds (off : Nat) (vs : Array Value) (cs : Array Value) (h : off + vs.size ≤ cs.size) :
    (vs.zipIdx.foldl (fun cs (c, j) => cs.setIfInBounds (off + j) c) cs).toList = cs.toList.take off ++ (vs.toList ++ cs.toList.drop (off + vs.size)) := by
  rw [← Array.foldl_toList, Array.toList_zipIdx]
  have key : ∀ (l : List (Value × Nat)) (cs : Array Value), (l.foldl (fun cs p => cs.setIfInBounds (off + p.2) p.1) cs).toList = l.foldl (fun (cs : List Value) p => cs.set (off + p.2) p.1) cs.toList := by
    intro l
    induction l with
    | nil => intro cs; rfl
    | cons p l ih => intro cs; simp only [List.foldl_cons]; rw [ih]; simp
  rw [key, foldl_set off vs.toList 0 cs.toList (by simpa using h)]
  simp

def aFill (place : Nat → Option (Nat × Nat)) (cells : List AVal) : List (Nat × AVal) → Option (List AVal)
  | [] => some cells
  | p :: rest =>
    match place p.1 with
    | none => none
    | some q => (match Nat.beq p.2.cells.length q.2 && Nat.ble (q.1 + p.2.cells.length) cells.length with
      | true => aFill place (splice cells q.1 p.2.cells) rest
      | false => none)

inductive PRels (φ : Emb) : List (Nat × AVal) → List (Nat × Value) → Prop
  | nil : PRels φ [] []
  | cons {i : Nat} {v : AVal} {x : Value} {l : List (Nat × AVal)} {m : List (Nat × Value)} (h : VRel φ v x) (t : PRels φ l m) : PRels φ ((i, v) :: l) ((i, x) :: m)

theorem aFill_rel {φ : Emb} {place : Nat → Option (Nat × Nat)} {ps : List (Nat × AVal)} {qs : List (Nat × Value)} (hp : PRels φ ps qs) : ∀ {cells out : List AVal} {cs : Array Value},
    aFill place cells ps = some out → VRels φ cells cs.toList → ∃ os, Instr.fill place cs qs = some os ∧ VRels φ out os.toList := by
  induction hp with
  | nil => intro cells out cs h hc; simp only [aFill] at h; cases h; exact ⟨cs, rfl, hc⟩
  | cons hv t ih =>
    rename_i i v x l m
    intro cells out cs h hc
    simp only [aFill] at h
    split at h
    · cases h
    · rename_i q hq
      obtain ⟨off, size⟩ := q
      split at h
      · rename_i hb
        simp only [Bool.and_eq_true] at hb
        have h1 := Nat.eq_of_beq_eq_true hb.1
        have h2 : off + v.cells.length ≤ cells.length := Nat.le_of_ble_eq_true hb.2
        have hvc := hv.cells
        have hl := hvc.length
        have hcl := hc.length
        simp only [Array.length_toList] at hl hcl
        have hsize : x.cells.size = size := by omega
        have hroom : off + x.cells.size ≤ cs.size := by omega
        have hsp := hc.splice hvc off
        have he := foldl_setIfInBounds off x.cells cs hroom
        rw [Array.length_toList] at hsp
        rw [← he] at hsp
        obtain ⟨os, ho, hr⟩ := ih h hsp
        refine ⟨os, ?_, hr⟩
        simp only [Instr.fill, hq]
        rw [if_neg (by simp; omega)]
        exact ho
      · cases h

def fieldPlaces (P : Program) (fs : List Field) : Option (List (Nat × Nat)) :=
  match fs with
  | [] => some []
  | f :: fs => match sizeB P f.type, fieldPlaces P fs with
    | some n, some l => some ((f.offset, n) :: l)
    | _, _ => none

theorem run_fieldPlaces {P : Program} (w : World) : ∀ (fs : List Field) (l : List (Nat × Nat)), fieldPlaces P fs = some l →
    (fs.mapM fun f => do pure (f.offset, ← sizeOf f.type) : Sem (List (Nat × Nat))).run P w = .ok l w
  | [], l, h => by simp only [fieldPlaces] at h; cases h; rfl
  | f :: fs, l, h => by
    simp only [fieldPlaces] at h
    split at h
    · rename_i n m hn hm
      cases h
      have ih := run_fieldPlaces w fs m hm
      rw [List.mapM_cons]
      simp only [Sem.run_bind, run_sizeB hn, Result.andThen_ok, Sem.run_pure, ih]
    · cases h

def aBuild (P : Program) (t : TypeId) (ps : List (Nat × AVal)) : Option AVal :=
  match zeroB P t with
  | some z => (match P.underlying t with
    | some (.struct fs) => (match fieldPlaces P fs.toList with
      | some l => (match aFill (fun i => l[i]?) z.cells ps with | some out => some (.agg out) | none => none)
      | none => none)
    | some (.array _ e) => (match sizeB P e with
      | some s => (match aFill (fun i => some (i * s, s)) z.cells ps with | some out => some (.agg out) | none => none)
      | none => none)
    | _ => none)
  | none => none

theorem aBuild_rel {P : Program} {φ : Emb} {t : TypeId} {ps : List (Nat × AVal)} {qs : Array (Nat × Value)} {r : AVal} (h : aBuild P t ps = some r) (hp : PRels φ ps qs.toList) (w : World) :
    ∃ R, (Instr.build t qs).run P w = .ok R w ∧ VRel φ r R := by
  unfold aBuild at h
  split at h
  · rename_i z hz
    obtain ⟨Z, hZ, hr⟩ := zeroB_rel hz w
    have hcells : VRels φ z.cells Z.cells.toList := (hr φ).cells
    split at h
    · rename_i fs hu
      split at h
      · rename_i l hl
        split at h
        · rename_i out ho
          cases h
          obtain ⟨os, hos, hrel⟩ := aFill_rel hp ho hcells
          refine ⟨.agg os, ?_, by simpa using VRel.agg hrel⟩
          have hpl := run_fieldPlaces w fs.toList l hl
          simp only [Instr.build, Sem.run_bind, hZ, run_underlying hu, Result.andThen_ok]
          rw [Array.mapM_eq_mapM_toList]
          simp only [Sem.run_map, hpl, Result.andThen_ok]
          simp only [List.getElem?_toArray]
          rw [hos]; rfl
        · cases h
      · cases h
    · rename_i n e hu
      split at h
      · rename_i s hs
        split at h
        · rename_i out ho
          cases h
          obtain ⟨os, hos, hrel⟩ := aFill_rel hp ho hcells
          refine ⟨.agg os, ?_, by simpa using VRel.agg hrel⟩
          simp only [Instr.build, Sem.run_bind, hZ, run_underlying hu, run_sizeB hs, Result.andThen_ok]
          rw [hos]; rfl
        · cases h
      · cases h
    · cases h
  · cases h

def aLen (P : Program) (t : TypeId) (x : AVal) : Option AVal :=
  match P.underlying t with
  | some .string => onStr x fun n _ => mkI .i64 (Int.ofNat n)
  | some (.array n _) => mkI .i64 (Int.ofNat n)
  | some (.slice _) => (match x with
    | .slice _ _ n _ => mkI .i64 (Int.ofNat n)
    | .sliceO _ _ n _ => mkI .i64 (Int.ofNat n)
    | .nils => some (.int .i64 0)
    | _ => none)
  | some (.map _ _) => (match x with | .nilm => some (.int .i64 0) | _ => none)
  | _ => none

theorem aLen_rel {P : Program} {φ : Emb} {t ty : TypeId} {ts : Array TypeId} {x r : AVal} {X : Value} (ht : ts[0]? = some t) (h : aLen P t x = some r) (hx : VRel φ x X) (w : World) :
    ∃ R, (Builtin.len_ ts ty #[X]).run P w = .ok R w ∧ VRel φ r R := by
  unfold aLen at h
  have h0 : (#[X] : Array Value)[0]? = some X := rfl
  split at h
  · rename_i hu
    obtain ⟨n, v, rfl, h'⟩ := onStr_some h
    rw [mkI_eq] at h'; cases h'
    cases hx
    exact ⟨_, by simp only [Builtin.len_, ht, h0, Sem.run_bind, run_underlying hu, Result.andThen_ok, unpack_size]; rfl, .int _ _⟩
  · rename_i n e hu
    rw [mkI_eq] at h; cases h
    exact ⟨_, by simp only [Builtin.len_, ht, h0, Sem.run_bind, run_underlying hu, Result.andThen_ok]; rfl, .int _ _⟩
  · rename_i e hu
    split at h
    · rw [mkI_eq] at h; cases h; cases hx
      exact ⟨_, by simp only [Builtin.len_, ht, h0, Sem.run_bind, run_underlying hu, Result.andThen_ok]; rfl, .int _ _⟩
    · rw [mkI_eq] at h; cases h; cases hx
      exact ⟨_, by simp only [Builtin.len_, ht, h0, Sem.run_bind, run_underlying hu, Result.andThen_ok]; rfl, .int _ _⟩
    · cases h; cases hx
      exact ⟨_, by simp only [Builtin.len_, ht, h0, Sem.run_bind, run_underlying hu, Result.andThen_ok]; rfl, .int _ _⟩
    · cases h
  · rename_i k e hu
    split at h
    · cases h; cases hx
      exact ⟨_, by simp only [Builtin.len_, ht, h0, Sem.run_bind, run_underlying hu, Result.andThen_ok]; rfl, .int _ _⟩
    · cases h
  · cases h

def aCap (P : Program) (t : TypeId) (x : AVal) : Option AVal :=
  match P.underlying t with
  | some (.slice _) => (match x with
    | .slice _ _ _ c => mkI .i64 (Int.ofNat c)
    | .nils => some (.int .i64 0)
    | _ => none)
  | _ => none

theorem aCap_rel {P : Program} {φ : Emb} {t ty : TypeId} {ts : Array TypeId} {x r : AVal} {X : Value} (ht : ts[0]? = some t) (h : aCap P t x = some r) (hx : VRel φ x X) (w : World) :
    ∃ R, (Builtin.cap_ ts ty #[X]).run P w = .ok R w ∧ VRel φ r R := by
  unfold aCap at h
  have h0 : (#[X] : Array Value)[0]? = some X := rfl
  split at h
  · rename_i e hu
    split at h
    · rw [mkI_eq] at h; cases h; cases hx
      exact ⟨_, by simp only [Builtin.cap_, ht, h0, Sem.run_bind, run_underlying hu, Result.andThen_ok]; rfl, .int _ _⟩
    · cases h; cases hx
      exact ⟨_, by simp only [Builtin.cap_, ht, h0, Sem.run_bind, run_underlying hu, Result.andThen_ok]; rfl, .int _ _⟩
    · cases h
  · cases h

/-- The greater (up) or the lesser one of two integers. -/
def mm (up : Bool) (a b : AVal) : Option AVal := onInt a fun k m => onInt b fun _ n => match up with
  | true => (match leZ n m with | true => some (.int k m) | false => some (.int k n))
  | false => (match leZ m n with | true => some (.int k m) | false => some (.int k n))

def aMinMax (up : Bool) : List AVal → Option AVal
  | [] => none
  | x :: rest => rest.foldlM (mm up) x

theorem aMax_aux {P : Program} {φ : Emb} (w : World) : ∀ {l : List AVal} {m : List Value} {x : AVal} {X : Value} {r : AVal}, VRels φ l m → VRel φ x X →
    l.foldlM (mm true) x = some r → ∃ R, (m.foldlM Builtin.max2 X : Sem Value).run P w = .ok R w ∧ VRel φ r R
  | _, _, x, X, r, .nil, hx, h => by simp only [List.foldlM_nil] at h; cases h; exact ⟨X, rfl, hx⟩
  | _, _, x, X, r, .cons hy t, hx, h => by
    simp only [List.foldlM_cons] at h
    obtain ⟨a, ha, h2⟩ := Option.bind_eq_some_iff.1 h
    obtain ⟨k, p, rfl, ha'⟩ := onInt_some ha
    obtain ⟨k', q, rfl, ha''⟩ := onInt_some ha'
    cases hx; cases hy
    have : ∃ A, (Builtin.max2 (.int k p) (.int k' q)).run P w = .ok A w ∧ VRel φ a A := by
      refine ⟨_, by simp only [Builtin.max2]; rfl, ?_⟩
      simp only [leZ_eq] at ha''
      by_cases hpq : q ≤ p
      · simp only [hpq, decide_true] at ha''; cases ha''
        rw [if_neg (by omega)]; exact .int _ _
      · simp only [hpq, decide_false] at ha''; cases ha''
        rw [if_pos (by omega)]; exact .int _ _
    obtain ⟨A, hA, hr⟩ := this
    obtain ⟨R, hR, hrr⟩ := aMax_aux w t hr h2
    refine ⟨R, ?_, hrr⟩
    simp only [List.foldlM_cons, Sem.run_bind, hA, Result.andThen_ok]
    exact hR

theorem aMax_rel {P : Program} {φ : Emb} {ty : TypeId} {ts : Array TypeId} {l : List AVal} {m : List Value} {r : AVal} (h : aMinMax true l = some r) (hl : VRels φ l m) (w : World) :
    ∃ R, (Builtin.max_ ts ty m.toArray).run P w = .ok R w ∧ VRel φ r R := by
  cases hl with
  | nil => cases h
  | cons hx t =>
    simp only [aMinMax] at h
    simp only [Builtin.max_]
    exact aMax_aux w t hx h

theorem aMin_aux {P : Program} {φ : Emb} (w : World) : ∀ {l : List AVal} {m : List Value} {x : AVal} {X : Value} {r : AVal}, VRels φ l m → VRel φ x X →
    l.foldlM (mm false) x = some r → ∃ R, (m.foldlM Builtin.min2 X : Sem Value).run P w = .ok R w ∧ VRel φ r R
  | _, _, x, X, r, .nil, hx, h => by simp only [List.foldlM_nil] at h; cases h; exact ⟨X, rfl, hx⟩
  | _, _, x, X, r, .cons hy t, hx, h => by
    simp only [List.foldlM_cons] at h
    obtain ⟨a, ha, h2⟩ := Option.bind_eq_some_iff.1 h
    obtain ⟨k, p, rfl, ha'⟩ := onInt_some ha
    obtain ⟨k', q, rfl, ha''⟩ := onInt_some ha'
    cases hx; cases hy
    have : ∃ A, (Builtin.min2 (.int k p) (.int k' q)).run P w = .ok A w ∧ VRel φ a A := by
      refine ⟨_, by simp only [Builtin.min2]; rfl, ?_⟩
      simp only [leZ_eq] at ha''
      by_cases hpq : p ≤ q
      · simp only [hpq, decide_true] at ha''; cases ha''
        rw [if_neg (by omega)]; exact .int _ _
      · simp only [hpq, decide_false] at ha''; cases ha''
        rw [if_pos (by omega)]; exact .int _ _
    obtain ⟨A, hA, hr⟩ := this
    obtain ⟨R, hR, hrr⟩ := aMin_aux w t hr h2
    refine ⟨R, ?_, hrr⟩
    simp only [List.foldlM_cons, Sem.run_bind, hA, Result.andThen_ok]
    exact hR

theorem aMin_rel {P : Program} {φ : Emb} {ty : TypeId} {ts : Array TypeId} {l : List AVal} {m : List Value} {r : AVal} (h : aMinMax false l = some r) (hl : VRels φ l m) (w : World) :
    ∃ R, (Builtin.min_ ts ty m.toArray).run P w = .ok R w ∧ VRel φ r R := by
  cases hl with
  | nil => cases h
  | cons hx t =>
    simp only [aMinMax] at h
    simp only [Builtin.min_]
    exact aMin_aux w t hx h

end
end Go.Proofs.YtbokoinmlbipmaaGreatDoor.Ev

-- EvCells
namespace Go.Proofs.YtbokoinmlbipmaaGreatDoor.Ev
noncomputable section

def rowCells : Row → Option (List AVal)
  | .cells _ l _ _ _ => some l
  | .ro l => some l
  | _ => none

def rowCellsR (r : Row) : Option (List AVal) := Row.rec (motive := fun _ => Option (List AVal)) (fun _ l _ _ _ => some l) (fun l => some l) (fun _ _ => none) (fun _ _ _ _ => none) (fun _ _ _ => none) (fun _ _ _ _ _ _ _ _ _ => none) (fun _ => none) none r
def Heap.cells (H : Heap) (id : Nat) : Option (List AVal) := Option.rec (motive := fun _ => Option (List AVal)) none (fun r => rowCellsR r) (H.get id)
theorem Heap.cells_def (H : Heap) (id : Nat) : H.cells id = match H.get id with | some r => rowCells r | none => none := by
  unfold Heap.cells
  cases H.get id with
  | none => rfl
  | some r => cases r <;> rfl

theorem HRel.block {φ : Emb} {H : Heap} {w : World} (h : HRel φ H w) {id : Nat} {s : Spot} {l : List AVal} (e : φ id = some s) (hc : H.cells id = some l) :
    ∃ c t fr, w.heap[s.block]? = some (.cells c t fr) ∧ CellsRel φ l c s := by
  rw [Heap.cells_def] at hc
  split at hc
  · rename_i r hr
    obtain ⟨o, ho, hrel⟩ := h.rows id s r e hr (by intro x; subst x; cases hc)
    cases hrel <;> simp only [rowCells, reduceCtorEq, Option.some.injEq] at hc
    · subst hc; exact ⟨_, _, _, ho, ‹_›⟩
    · subst hc; exact ⟨_, _, _, ho, ‹_›⟩
  · cases hc

theorem cellsRel_take {φ : Emb} {l : List AVal} {c : Array Value} {s : Spot} (h : CellsRel φ l c s) (off n : Nat) (hn : off + n ≤ l.length) :
    VRels φ ((l.drop off).take n) ((c.toList.drop (s.base + off)).take n) ∧ ((c.toList.drop (s.base + off)).take n).length = n := by
  have hl : ((c.toList.drop (s.base + off)).take n).length = n := by
    have := h.room; have := h.size
    simp; omega
  refine ⟨VRels.of_get (by rw [hl]; simp; omega) ?_, hl⟩
  intro i v x h1 h2
  rw [List.getElem?_take] at h1 h2
  split at h1
  · rename_i hi
    rw [if_pos hi] at h2
    rw [List.getElem?_drop] at h1 h2
    obtain ⟨y, hy, hr⟩ := h.at_ (off + i) v h1
    rw [← Array.getElem?_toList, show s.base + (off + i) = s.base + off + i by omega, h2] at hy
    cases hy; exact hr
  · cases h1

theorem cell_of_block {w : World} {b i : Nat} {c : Array Value} {t : TypeId} {fr : Nat × Nat} (h : w.heap[b]? = some (.cells c t fr)) : w.cell? ⟨b, i, none⟩ = c[i]? := by
  simp [World.cell?, h]

theorem frozen_of_block {w : World} {b i : Nat} {c : Array Value} {t : TypeId} {fr : Nat × Nat} (h : w.heap[b]? = some (.cells c t fr)) : w.frozen? ⟨b, i, none⟩ = (decide (fr.1 ≤ i) && decide (i < fr.2)) := by
  simp [World.frozen?, h]

theorem run_loadCells_block {P : Program} {w : World} {b p n : Nat} {c : Array Value} {t : TypeId} {fr : Nat × Nat} (h : w.heap[b]? = some (.cells c t fr)) (hn : p + n ≤ c.size) :
    (loadCells ⟨b, p, none⟩ n).run P w = .ok ((c.toList.drop p).take n).toArray w := by
  have hl : ((c.toList.drop p).take n).length = n := by simp; omega
  have := run_loadCells_list (P := P) (w := w) ⟨b, p, none⟩ ((c.toList.drop p).take n) (by
    intro j v hj
    rw [Addr.add_lit, cell_of_block h]
    rw [List.getElem?_take] at hj
    split at hj
    · rw [List.getElem?_drop] at hj; rw [← Array.getElem?_toList]; exact hj
    · cases hj)
  rw [hl] at this
  exact this

theorem Turned.refl {w : World} {b : Nat} {o : Obj} (h : w.heap[b]? = some o) : Turned w w b o := ⟨rfl, h, fun _ _ => rfl, rfl, rfl, rfl⟩
theorem Turned.trans {w w' w'' : World} {b : Nat} {o o' : Obj} (h : Turned w w' b o) (k : Turned w' w'' b o') : Turned w w'' b o' :=
  ⟨k.size.trans h.size, k.here, fun j hj => (k.else_ j hj).trans (h.else_ j hj), k.os.trans h.os, k.tape.trans h.tape, k.output.trans h.output⟩

theorem turned_setCell {w : World} {b i : Nat} {v : Value} {c : Array Value} {t : TypeId} {fr : Nat × Nat} (h : w.heap[b]? = some (.cells c t fr)) :
    Turned w (w.setCell ⟨b, i, none⟩ v) b (.cells (c.setIfInBounds i v) t fr) := by
  refine ⟨by simp, ?_, fun j hj => Go.heap_setCell_other w _ j v hj, rfl, rfl, rfl⟩
  simp [World.setCell, Array.getElem?_modify, h]

theorem run_storeCells_block {P : Program} {b p : Nat} {t : TypeId} {fr : Nat × Nat} : ∀ (vs : List Value) (i : Nat) (w : World) (c : Array Value), w.heap[b]? = some (.cells c t fr) →
    (∀ v ∈ vs, v.oneCell' = true) → p + i + vs.length ≤ c.size → (∀ j, p + i ≤ j → j < p + i + vs.length → ¬ (fr.1 ≤ j ∧ j < fr.2)) →
    ∃ w' c', (storeCells ⟨b, p, none⟩ vs i).run P w = .ok () w' ∧ Turned w w' b (.cells c' t fr) ∧ c'.toList = c.toList.take (p + i) ++ (vs ++ c.toList.drop (p + i + vs.length))
  | [], i, w, c, h, _, _, _ => ⟨w, c, rfl, .refl h, by simp⟩
  | v :: vs, i, w, c, h, hv, hn, hf => by
    simp only [List.length_cons] at hn hf
    have hlt : p + i < c.size := by omega
    have hcell : w.cell? ⟨b, p + i, none⟩ = some c[p + i] := by rw [cell_of_block h]; simp [hlt]
    have hfr : w.frozen? ⟨b, p + i, none⟩ = false := by
      rw [frozen_of_block h]
      have := hf (p + i) (Nat.le_refl _) (by omega)
      rw [← Bool.decide_and]
      exact decide_eq_false this
    have hstep : (store (Addr.add ⟨b, p, none⟩ i) v).run P w = .ok () (w.setCell ⟨b, p + i, none⟩ v) := by
      rw [Addr.add_lit, run_store P w _ v _ (hv v (by simp))]
      simp only [hcell, hfr, Bool.false_eq_true, if_false]
    have ht := turned_setCell (i := p + i) (v := v) h
    obtain ⟨w', c', hrun, ht', hc'⟩ := run_storeCells_block (P := P) (p := p) vs (i + 1) _ (c.setIfInBounds (p + i) v) ht.here (fun u hu => hv u (by simp [hu])) (by simp; omega) (fun j h1 h2 => hf j (by omega) (by omega))
    refine ⟨w', c', ?_, ht.trans ht', ?_⟩
    · simp only [storeCells, Sem.run_bind, hstep, Result.andThen_ok]
      exact hrun
    · rw [hc', Array.toList_setIfInBounds]
      have hlt' : p + i < c.toList.length := by simpa using hlt
      rw [List.drop_set, if_pos (by omega), List.take_set]
      rw [show p + (i + 1) = (p + i) + 1 by omega, List.take_add_one, List.set_append]
      have hl : (c.toList.take (p + i)).length = p + i := by simp; omega
      rw [if_neg (by omega), hl, Nat.sub_self, List.getElem?_eq_getElem hlt']
      simp only [Option.toList_some, List.set_cons_zero, List.append_assoc, List.cons_append, List.nil_append, List.length_cons]
      rw [show p + i + (vs.length + 1) = p + i + 1 + vs.length by omega]

end
end Go.Proofs.YtbokoinmlbipmaaGreatDoor.Ev

-- EvNew
namespace Go.Proofs.YtbokoinmlbipmaaGreatDoor.Ev
noncomputable section

/-- A step of a Sem that ends in a value. -/
def MOK (P : Program) (φ : Emb) (H : Heap) (w : World) (s : Sem Value) (v : AVal) (H' : Heap) : Prop :=
  ∃ φ' w' X, s.run P w = .ok X w' ∧ VRel φ' v X ∧ HRel φ' H' w' ∧ Ext φ H w φ' H' w'

def UOK (P : Program) (φ : Emb) (H : Heap) (w : World) (s : Sem Unit) (H' : Heap) : Prop :=
  ∃ φ' w', s.run P w = .ok () w' ∧ HRel φ' H' w' ∧ Ext φ H w φ' H' w'

theorem MOK.of_pure {P : Program} {φ : Emb} {H : Heap} {w : World} {s : Sem Value} {v : AVal} (h : HRel φ H w) (k : ∃ X, s.run P w = .ok X w ∧ VRel φ v X) : MOK P φ H w s v H :=
  let ⟨X, a, b⟩ := k; ⟨φ, w, X, a, b, h, .refl _ _ _⟩

def scalarB : AVal → Bool
  | .agg _ => false
  | .tup _ => false
  | _ => true

theorem scalarB_rel {φ : Emb} {v : AVal} {x : Value} (h : VRel φ v x) (hs : scalarB v = true) : x.oneCell' = true := by
  cases h <;> first | rfl | cases hs

theorem scalars_rel {φ : Emb} : ∀ {l : List AVal} {m : List Value}, VRels φ l m → l.all scalarB = true → ∀ v ∈ m, v.oneCell' = true
  | _, _, .nil, _, v, hv => by simp at hv
  | _, _, .cons h t, hs, v, hv => by
    simp only [List.all_cons, Bool.and_eq_true] at hs
    rcases List.mem_cons.1 hv with rfl | hv
    · exact scalarB_rel h hs.1
    · exact scalars_rel t hs.2 v hv

def aLoad (P : Program) (H : Heap) (t : TypeId) (x : AVal) : Option AVal :=
  onPtr x fun id o => match H.cells id with
    | none => none
    | some l => (match aggB P t with
      | some false => l[o]?
      | some true => (match sizeB P t with
        | some n => (match Nat.ble (Nat.add o n) l.length with | true => some (.agg ((l.drop o).take n)) | false => none)
        | none => none)
      | none => none)

theorem aLoad_rel {P : Program} {φ : Emb} {H : Heap} {w : World} {t : TypeId} {x r : AVal} {X : Value} (hh : HRel φ H w) (h : aLoad P H t x = some r) (hx : VRel φ x X) :
    ∃ R, (Instr.loadAt t X).run P w = .ok R w ∧ VRel φ r R := by
  obtain ⟨id, o, rfl, h'⟩ := onPtr_some h
  clear h
  have h := h'
  clear h'
  cases hx with
  | ptr e =>
    split at h
    · cases h
    · rename_i l hl
      obtain ⟨c, ty, fr, hb, hc⟩ := hh.block e hl
      split at h
      · rename_i ha
        obtain ⟨y, hy, hr⟩ := hc.at_ o r h
        refine ⟨y, ?_, hr⟩
        simp only [Instr.loadAt, Instr.sureAddr, Sem.run_bind, Sem.run_pure, Result.andThen_ok, loadVar, run_isAgg ha, Bool.false_eq_true, if_false, run_load]
        rw [cell_of_block hb, hy]
      · rename_i ha
        split at h
        · rename_i n hn
          split at h
          · rename_i hle
            have hle : o + n ≤ l.length := Nat.le_of_ble_eq_true hle
            cases h
            obtain ⟨hrel, hlen⟩ := cellsRel_take hc o n hle
            refine ⟨_, ?_, .agg hrel⟩
            simp only [Instr.loadAt, Instr.sureAddr, Sem.run_bind, Sem.run_pure, Result.andThen_ok, loadVar, run_isAgg ha, if_true, run_sizeB hn]
            rw [run_loadCells_block hb (by have := hc.room; have := hc.size; omega)]
            rfl
          · cases h
        · cases h
      · cases h

def aStoreCells (H : Heap) (id o : Nat) (vs : List AVal) : Option Heap :=
  match H.get id with
  | some (.cells e l opn fz sm) =>
    (match Nat.ble fz o && Nat.ble (Nat.add o vs.length) l.length && vs.all scalarB with
     | true => some (H.set id (.cells e (splice l o vs) opn fz sm))
     | false => none)
  | _ => none

theorem splice_length {l vs : List AVal} {o : Nat} (h : o + vs.length ≤ l.length) : (splice l o vs).length = l.length := by
  simp [splice]; omega

/-- Cells stored into a row that may be written. -/
theorem aStoreCells_rel {P : Program} {φ : Emb} {H H' : Heap} {w : World} {id o : Nat} {vs : List AVal} {xs : List Value} {s : Spot} (hh : HRel φ H w) (e : φ id = some s)
    (h : aStoreCells H id o vs = some H') (hv : VRels φ vs xs) :
    ∃ w', (storeCells ⟨s.block, s.base + o, none⟩ xs).run P w = .ok () w' ∧ HRel φ H' w' ∧ Ext φ H w φ H' w' := by
  unfold aStoreCells at h
  split at h
  · rename_i ty l opn fz sm hg
    split at h
    · rename_i hb
      simp only [Bool.and_eq_true] at hb
      obtain ⟨⟨h1, h2⟩, h3⟩ := hb
      have h1 : fz ≤ o := Nat.le_of_ble_eq_true h1
      have h2 : o + vs.length ≤ l.length := Nat.le_of_ble_eq_true h2
      cases h
      obtain ⟨ob, hob, hrel⟩ := hh.rows id s _ e hg (by simp)
      cases hrel with
      | cells hc hclosed hf =>
        rename_i c fr
        have hlen := hv.length
        have hroom := hc.room
        have hsize := hc.size
        obtain ⟨w', c', hrun, ht, hc'⟩ := run_storeCells_block (P := P) (p := s.base + o) xs 0 w c hob (scalars_rel hv h3) (by omega) (by
          intro j hj1 hj2
          unfold FrzOK at hf
          split at hf
          · intro hj3
            rcases hf j hj3.1 hj3.2 with hj | hj <;> omega
          · intro hj3
            rcases hf with hj | hj <;> omega)
        simp only [Nat.add_zero] at hc'
        refine ⟨w', hrun, hh.turn e hg rfl ht ?_⟩
        have hlen' : (splice l o vs).length = l.length := splice_length h2
        refine .cells ⟨?_, by rw [hlen']; exact hroom, ?_⟩ (by rw [hlen']; exact hclosed) hf
        · have := congrArg List.length hc'
          simp at this
          omega
        · intro i v hi
          have hcl : (c'.toList).length = c.toList.length := by rw [hc']; simp; omega
          have hi' : i < l.length := by
            have := (List.getElem?_eq_some_iff.1 hi).1
            omega
          rw [← Array.getElem?_toList, hc']
          unfold splice at hi
          by_cases ha : i < o
          · rw [List.getElem?_append_left (by simp; omega), List.getElem?_take, if_pos ha] at hi
            obtain ⟨x, hx, hr⟩ := hc.at_ i v hi
            refine ⟨x, ?_, hr⟩
            rw [List.getElem?_append_left (by simp; omega), List.getElem?_take, if_pos (by omega)]
            rw [← Array.getElem?_toList] at hx; exact hx
          · rw [List.getElem?_append_right (by simp; omega)] at hi
            have hto : (l.take o).length = o := by simp; omega
            rw [hto] at hi
            have htc : (c.toList.take (s.base + o)).length = s.base + o := by simp; omega
            rw [List.getElem?_append_right (by omega), htc, show s.base + i - (s.base + o) = i - o by omega]
            by_cases hb : i - o < vs.length
            · rw [List.getElem?_append_left hb] at hi
              obtain ⟨x, hx, hr⟩ := hv.get _ _ hi
              exact ⟨x, by rw [List.getElem?_append_left (by omega)]; exact hx, hr⟩
            · rw [List.getElem?_append_right (by omega), List.getElem?_drop] at hi
              obtain ⟨x, hx, hr⟩ := hc.at_ _ v hi
              refine ⟨x, ?_, hr⟩
              rw [List.getElem?_append_right (by omega), List.getElem?_drop]
              rw [← Array.getElem?_toList] at hx
              rw [← hx]
              congr 1
              omega
    · cases h
  · cases h

def aStore (P : Program) (H : Heap) (t : TypeId) (x v : AVal) : Option Heap :=
  match x with
  | .ptr id o => (match sizeB P t with
    | some n => (match Nat.beq v.cells.length n with
      | true => aStoreCells H id o v.cells
      | false => none)
    | none => none)
  | _ => none

theorem aStore_rel {P : Program} {φ : Emb} {H H' : Heap} {w : World} {t : TypeId} {x v : AVal} {X V : Value} (hh : HRel φ H w) (h : aStore P H t x v = some H') (hx : VRel φ x X) (hv : VRel φ v V) :
    UOK P φ H w (Instr.storeAt t X V) H' := by
  unfold aStore at h
  split at h
  · split at h
    · rename_i n hn
      split at h
      · rename_i hl
        have hl := Nat.eq_of_beq_eq_true hl
        cases hx with
        | ptr e =>
          have hvc := hv.cells
          obtain ⟨w', hrun, hr, hext⟩ := aStoreCells_rel (P := P) hh e h hvc
          refine ⟨φ, w', ?_, hr, hext⟩
          have hlen := hvc.length
          simp only [Instr.storeAt, Instr.sureAddr, Sem.run_bind, Sem.run_pure, Result.andThen_ok, storeVar, run_sizeB hn]
          rw [if_neg (by simp at hlen; simp; omega)]
          exact hrun
      · cases h
    · cases h
  · cases h

/-- A new row of cells. -/
def aNew (H : Heap) (e : TypeId) (l : List AVal) : Option (Nat × Heap) :=
  match Nat.ble (Nat.succ H.next) Heap.lim with
  | true => some (H.next, H.push (.cells e l false 0 false))
  | false => none

theorem aNew_rel {P : Program} {φ : Emb} {H H' : Heap} {w : World} {e : TypeId} {l : List AVal} {c : Array Value} {id : Nat} (hh : HRel φ H w) (h : aNew H e l = some (id, H')) (hl : VRels φ l c.toList) :
    ∃ φ' s, (newRow e c).run P w = .ok ⟨w.heap.size, 0, none⟩ (w.alloc (.cells c e)) ∧ φ' id = some s ∧ s.block = w.heap.size ∧ s.base = 0 ∧ s.size = c.size ∧
      HRel φ' H' (w.alloc (.cells c e)) ∧ Ext φ H w φ' H' (w.alloc (.cells c e)) := by
  unfold aNew at h
  split at h
  · rename_i hb
    have hn : H.next < Heap.lim := Nat.le_of_ble_eq_true hb
    cases h
    have hlen := hl.length
    simp only [Array.length_toList] at hlen
    obtain ⟨h1, h2⟩ := hh.push (o := .cells c e) hn c.size (.cells (l := l) (opn := false) (sm := false) (fz := 0) (fr := (0, 0)) ⟨rfl, by simp; omega, fun i v hi => by
      obtain ⟨x, hx, hr⟩ := hl.get i v hi
      exact ⟨x, by simpa using hx, hr⟩⟩ (fun _ => by simp; omega) (by simp [FrzOK]))
    exact ⟨_, _, rfl, Emb.with_self _ _ _, rfl, rfl, rfl, h1, h2⟩
  · cases h

def aAlloc (P : Program) (H : Heap) (t : TypeId) : Option (AVal × Heap) :=
  match zeroB P t with
  | some z => (match aNew H t z.cells with | some p => some (.ptr p.1 0, p.2) | none => none)
  | none => none

theorem aAlloc_rel {P : Program} {φ : Emb} {H H' : Heap} {w : World} {t : TypeId} {r : AVal} (hh : HRel φ H w) (h : aAlloc P H t = some (r, H')) :
    MOK P φ H w (Instr.alloc t true (.tuple #[])) r H' := by
  unfold aAlloc at h
  split at h
  · rename_i z hz
    split at h
    · rename_i p hp
      obtain ⟨id, H2⟩ := p
      cases h
      obtain ⟨Z, hZ, hr⟩ := zeroB_rel hz w
      obtain ⟨φ', s, hrun, e, hb, hb0, hs, h1, h2⟩ := aNew_rel (P := P) hh hp (hr φ).cells
      refine ⟨φ', _, .pointer (some ⟨w.heap.size, 0, none⟩), ?_, ?_, h1, h2⟩
      · simp only [Instr.alloc, Sem.run_bind, hZ, Result.andThen_ok, newVar, hrun, Sem.run_pure]
      · have := VRel.ptr (off := 0) e
        rw [hb, hb0] at this
        exact this
    · cases h
  · cases h

def aBox (H : Heap) (t : TypeId) (v : AVal) : Option (AVal × Heap) :=
  match aNew H t v.cells with | some p => some (.ptr p.1 0, p.2) | none => none

theorem aBox_rel {P : Program} {φ : Emb} {H H' : Heap} {w : World} {t : TypeId} {v r : AVal} {V : Value} (hh : HRel φ H w) (h : aBox H t v = some (r, H')) (hv : VRel φ v V) :
    MOK P φ H w (Instr.box t V) r H' := by
  unfold aBox at h
  split at h
  · rename_i p hp
    obtain ⟨id, H2⟩ := p
    cases h
    obtain ⟨φ', s, hrun, e, hb, hb0, hs, h1, h2⟩ := aNew_rel (P := P) hh hp hv.cells
    refine ⟨φ', _, .pointer (some ⟨w.heap.size, 0, none⟩), ?_, ?_, h1, h2⟩
    · simp only [Instr.box, Sem.run_bind, newVar, hrun, Result.andThen_ok, Sem.run_pure]
    · have := VRel.ptr (off := 0) e
      rw [hb, hb0] at this
      exact this
  · cases h

end
end Go.Proofs.YtbokoinmlbipmaaGreatDoor.Ev

-- EvSlices
namespace Go.Proofs.YtbokoinmlbipmaaGreatDoor.Ev
noncomputable section

def repL {α : Type} (z : List α) : Nat → List α
  | 0 => []
  | n + 1 => z ++ repL z n

theorem repL_length {α : Type} (z : List α) (n : Nat) : (repL z n).length = n * z.length := by
  induction n with
  | zero => simp [repL]
  | succ n ih => simp [repL, ih, Nat.add_mul]; omega

theorem repL_get {α : Type} (z : List α) : ∀ (n i : Nat), i < n * z.length → (repL z n)[i]? = z[i % z.length]?
  | 0, i, h => by simp at h
  | n + 1, i, h => by
    simp only [repL]
    by_cases hi : i < z.length
    · rw [List.getElem?_append_left hi, Nat.mod_eq_of_lt hi]
    · have hm : i % z.length = (i - z.length) % z.length := Nat.mod_eq_sub_mod (by omega)
      rw [List.getElem?_append_right (by omega), repL_get z n (i - z.length) (by rw [Nat.add_mul, Nat.one_mul] at h; omega), hm]

theorem VRels.repL {φ : Emb} {z : List AVal} {Z : List Value} (h : VRels φ z Z) : ∀ n, VRels φ (repL z n) (repL Z n)
  | 0 => .nil
  | n + 1 => h.append (VRels.repL h n)

theorem range_map_rep (Z : Array Value) (n k : Nat) (hk : k = n * Z.size) : ((Array.range k).map (Z[· % Z.size]!)).toList = repL Z.toList n := by
  apply List.ext_getElem?
  intro i
  by_cases hi : i < n * Z.size
  · rw [repL_get _ _ _ (by simpa using hi)]
    have hz : 0 < Z.size := by
      rcases Nat.eq_zero_or_pos Z.size with h | h
      · rw [h] at hi; simp at hi
      · exact h
    have hlt : i % Z.size < Z.size := Nat.mod_lt _ hz
    simp only [Array.toList_map, Array.toList_range, List.getElem?_map, hk]
    rw [List.getElem?_range (by omega)]
    simp [hlt]
  · rw [List.getElem?_eq_none (by simp; omega), List.getElem?_eq_none (by rw [repL_length]; simp; omega)]

theorem zeroCells_rep (Z : Array Value) (n : Nat) : (Builtin.zeroCells Z n).toList = repL Z.toList n := range_map_rep Z n _ rfl

def aBuildSlice (P : Program) (H : Heap) (t : TypeId) (len : Nat) (ps : List (Nat × AVal)) : Option (AVal × Heap) :=
  match P.underlying t with
  | some (.slice e) => (match sizeB P e, zeroB P e with
    | some s, some z => (match Nat.beq z.cells.length s && Nat.ble (Nat.mul len s) 16777216 with
      | true => (match aFill (fun i => some (i * s, s)) (repL z.cells len) ps with
        | some out => (match aNew H e out with | some p => some (.slice p.1 0 len len, p.2) | none => none)
        | none => none)
      | false => none)
    | _, _ => none)
  | _ => none

theorem aBuildSlice_rel {P : Program} {φ : Emb} {H H' : Heap} {w : World} {t : TypeId} {len : Nat} {ps : List (Nat × AVal)} {qs : Array (Nat × Value)} {r : AVal} (hh : HRel φ H w)
    (h : aBuildSlice P H t len ps = some (r, H')) (hp : PRels φ ps qs.toList) : MOK P φ H w (Instr.buildSlice t len qs) r H' := by
  unfold aBuildSlice at h
  split at h
  · rename_i e hu
    split at h
    · rename_i s z hs hz
      split at h
      · rename_i hb
        simp only [Bool.and_eq_true] at hb
        have h1 := Nat.eq_of_beq_eq_true hb.1
        have h2 : len * s ≤ 16777216 := Nat.le_of_ble_eq_true hb.2
        split at h
        · rename_i out hout
          split at h
          · rename_i p hp'
            obtain ⟨id, H2⟩ := p
            cases h
            obtain ⟨Z, hZ, hr⟩ := zeroB_rel hz w
            have hzc := (hr φ).cells
            have hzl := hzc.length
            simp only [Array.length_toList] at hzl
            -- the cells before the parts are laid
            have hcells : ∀ Y : Array Value, (len * s = 0 ∧ Y = #[]) ∨ Y = Z.cells → ((Array.range (len * s)).map (Y[· % Y.size]!)).toList = repL Z.cells.toList len := by
              rintro Y (⟨h0, rfl⟩ | rfl)
              · rw [h0]
                have : (repL Z.cells.toList len).length = 0 := by rw [repL_length]; simp; rw [show Z.cells.size = s by omega]; exact h0
                rw [List.length_eq_zero_iff.1 this]; simp
              · exact range_map_rep Z.cells len _ (by rw [show Z.cells.size = s by omega])
            have hzero : ∃ Y, (len * s = 0 → Y = #[]) ∧ (len * s ≠ 0 → Y = Z.cells) ∧ ((len * s = 0 ∧ Y = #[]) ∨ Y = Z.cells) := by
              by_cases h0 : len * s = 0
              · exact ⟨#[], fun _ => rfl, fun x => absurd h0 x, .inl ⟨h0, rfl⟩⟩
              · exact ⟨Z.cells, fun x => absurd x h0, fun _ => rfl, .inr rfl⟩
            obtain ⟨Y, hY0, hY1, hYc⟩ := hzero
            have hyl := hcells Y hYc
            obtain ⟨os, hos, hrel⟩ := aFill_rel (cs := (Array.range (len * s)).map (Y[· % Y.size]!)) hp hout (by rw [hyl]; exact hzc.repL len)
            obtain ⟨φ', sp, hrun, e', hb', hb0, hs', g1, g2⟩ := aNew_rel (P := P) hh hp' hrel
            refine ⟨φ', _, .slice (some ⟨w.heap.size, 0, none⟩) len len, ?_, ?_, g1, g2⟩
            · simp only [Instr.buildSlice, Sem.run_bind, run_underlying hu, run_sizeB hs, Result.andThen_ok]
              rw [if_neg (by omega)]
              by_cases h0 : len * s = 0
              · have := hY0 h0
                subst this
                rw [if_pos h0]
                simp only [Sem.run_bind, Result.andThen_ok, Sem.run_pure, hos, hrun]
              · have := hY1 h0
                subst this
                rw [if_neg h0]
                simp only [Sem.run_bind, Result.andThen_ok, Sem.run_pure, hZ, hos, hrun]
            · have := VRel.slice (off := 0) (len := len) (cap := len) e'
              rw [hb', hb0] at this
              exact this
          · cases h
        · cases h
      · cases h
    · cases h
  · cases h

def aMakeSlice (P : Program) (H : Heap) (t : TypeId) (x y : AVal) : Option (AVal × Heap) :=
  match P.underlying t with
  | some (.slice e) => (match P.info? e, zeroB P e with
    | some i, some z => onInt x fun _ a => onInt y fun _ b => (match natOf a, natOf b with
      | some l, some c => (match Nat.ble l c && (Nat.ble c 9223372036854775807 && (Nat.ble (Nat.mul i.bytes c) 281474976710656 && Nat.beq z.cells.length i.size)) with
        | true => (match aNew H e (repL z.cells c) with | some p => some (.slice p.1 0 l c, p.2) | none => none)
        | false => none)
      | _, _ => none)
    | _, _ => none)
  | _ => none

theorem aMakeSlice_rel {P : Program} {φ : Emb} {H H' : Heap} {w : World} {t : TypeId} {x y r : AVal} {X Y : Value} (hh : HRel φ H w)
    (h : aMakeSlice P H t x y = some (r, H')) (hx : VRel φ x X) (hy : VRel φ y Y) : MOK P φ H w (Instr.makeSlice t X Y) r H' := by
  unfold aMakeSlice at h
  split at h
  · rename_i e hu
    split at h
    · rename_i i z hi hz
      obtain ⟨k, a, rfl, h'⟩ := onInt_some h
      obtain ⟨k', b, rfl, h''⟩ := onInt_some h'
      cases hx; cases hy
      split at h''
      · rename_i l c hl hc
        have := natOf_some hl
        subst this
        have := natOf_some hc
        subst this
        split at h''
        · rename_i hb
          simp only [Bool.and_eq_true] at hb
          obtain ⟨b1, b2, b3, b4⟩ := hb
          have b1 : l ≤ c := Nat.le_of_ble_eq_true b1
          have b2 : c ≤ 9223372036854775807 := Nat.le_of_ble_eq_true b2
          have b3 : i.bytes * c ≤ 281474976710656 := Nat.le_of_ble_eq_true b3
          have b4 := Nat.eq_of_beq_eq_true b4
          split at h''
          · rename_i p hp
            obtain ⟨id, H2⟩ := p
            cases h''
            obtain ⟨Z, hZ, hr⟩ := zeroB_rel hz w
            have hzc := (hr φ).cells
            have hzl := hzc.length
            simp only [Array.length_toList] at hzl
            have hzero : ∃ W : Array Value, (c * i.size = 0 → W = #[]) ∧ (c * i.size ≠ 0 → W = Z.cells) ∧ ((Array.range (c * i.size)).map (W[· % W.size]!)).toList = repL Z.cells.toList c := by
              by_cases h0 : c * i.size = 0
              · refine ⟨#[], fun _ => rfl, fun x => absurd h0 x, ?_⟩
                rw [h0]
                have : (repL Z.cells.toList c).length = 0 := by rw [repL_length]; simp; rw [show Z.cells.size = i.size by omega]; exact h0
                rw [List.length_eq_zero_iff.1 this]; simp
              · exact ⟨Z.cells, fun x => absurd x h0, fun _ => rfl, range_map_rep Z.cells c _ (by rw [show Z.cells.size = i.size by omega])⟩
            obtain ⟨W, hW0, hW1, hWl⟩ := hzero
            obtain ⟨φ', sp, hrun, e', hb', hb0, hs', g1, g2⟩ := aNew_rel (P := P) hh hp (c := (Array.range (c * i.size)).map (W[· % W.size]!)) (by rw [hWl]; exact hzc.repL c)
            have w1 : IntKind.i64.wrap (l : Int) = l := IntWalk.i64_in _ (by omega)
            have w2 : IntKind.i64.wrap (c : Int) = c := IntWalk.i64_in _ (by omega)
            refine ⟨φ', _, .slice (some ⟨w.heap.size, 0, none⟩) l c, ?_, ?_, g1, g2⟩
            · have hbc : ¬ ((i.bytes : Int) * (c : Int) > 2 ^ 48) := by
                have : ((i.bytes * c : Nat) : Int) ≤ 281474976710656 := Int.ofNat_le.2 b3
                rw [Int.natCast_mul] at this
                have e48 : (2 : Int) ^ 48 = 281474976710656 := by decide
                rw [e48]; omega
              simp only [Instr.makeSlice, Sem.run_bind, run_underlying hu, Result.andThen_ok, asInt, asIntOf, Sem.run_pure, typeInfo, run_program, hi, w1, w2]
              generalize (2 : Int) ^ 48 = B at hbc ⊢
              rw [if_neg (by
                intro hx
                simp only [Bool.or_eq_true, decide_eq_true_eq] at hx
                rcases hx with ((hx | hx) | hx) | hx
                · omega
                · exact hbc hx
                · omega
                · omega)]
              by_cases h0 : c * i.size = 0
              · have := hW0 h0
                subst this
                simp only [Sem.run_bind, run_askRoom, Result.andThen_ok, run_sizeOf hi, Int.toNat_natCast]
                rw [if_pos h0]
                simp only [Sem.run_bind, Result.andThen_ok, Sem.run_pure, hrun]
              · have := hW1 h0
                subst this
                simp only [Sem.run_bind, run_askRoom, Result.andThen_ok, run_sizeOf hi, Int.toNat_natCast]
                rw [if_neg h0]
                simp only [Sem.run_bind, Result.andThen_ok, Sem.run_pure, hZ, hrun]
            · have := VRel.slice (off := 0) (len := l) (cap := c) e'
              rw [hb', hb0] at this
              exact this
          · cases h''
        · cases h''
      · cases h''
    · cases h
  · cases h

def bytesI : Nat → Nat → List AVal
  | 0, _ => []
  | n + 1, v => .int .u8 (Int.ofNat (Nat.mod v 256)) :: bytesI n (Nat.div v 256)

theorem bytesI_rel {φ : Emb} : ∀ (n v : Nat), VRels φ (bytesI n v) ((bytesOf n v).map fun b => .int .u8 (b.toNat : Int))
  | 0, _ => .nil
  | n + 1, v => by
    simp only [bytesI, bytesOf, List.map_cons]
    refine .cons ?_ (bytesI_rel n _)
    have : (UInt8.ofNat (v % 256)).toNat = v % 256 := by simp
    rw [this]; exact .int _ _

/-- The elements of a slice, or the bytes of a string: their number, their cells. -/
def slCells (H : Heap) (s : Nat) (y : AVal) : Option (Nat × List AVal) :=
  match y with
  | .nils => some (0, [])
  | .slice id o n _ => (match H.cells id with
    | some l => (match Nat.ble (Nat.add o (Nat.mul n s)) l.length with | true => some (n, (l.drop o).take (Nat.mul n s)) | false => none)
    | none => none)
  | .sliceO id o n _ => (match H.cells id with
    | some l => (match Nat.ble (Nat.add o (Nat.mul n s)) l.length with | true => some (n, (l.drop o).take (Nat.mul n s)) | false => none)
    | none => none)
  | .str n v => (match Nat.beq s 1 with | true => some (n, bytesI n v) | false => none)
  | _ => none

theorem slCells_rel {P : Program} {φ : Emb} {H : Heap} {w : World} {s n : Nat} {y : AVal} {Y : Value} {ys : List AVal} (hh : HRel φ H w) (h : slCells H s y = some (n, ys)) (hy : VRel φ y Y) :
    ∃ zs : List Value, (Builtin.lenOf Y).run P w = .ok n w ∧ (Builtin.firstCells s n Y).run P w = .ok zs.toArray w ∧ VRels φ ys zs ∧ zs.length = n * s := by
  unfold slCells at h
  split at h
  · cases h; cases hy
    exact ⟨[], rfl, rfl, .nil, by simp⟩
  · rename_i id o m c
    split at h
    · rename_i l hl
      split at h
      · rename_i hb
        have hb : o + m * s ≤ l.length := Nat.le_of_ble_eq_true hb
        cases h
        cases hy with
        | slice e =>
          obtain ⟨cc, ty, fr, hblk, hc⟩ := hh.block e hl
          obtain ⟨hrel, hlen⟩ := cellsRel_take hc o (n * s) hb
          refine ⟨_, rfl, ?_, hrel, hlen⟩
          simp only [Builtin.firstCells]
          exact run_loadCells_block hblk (by have := hc.room; have := hc.size; omega)
      · cases h
    · cases h
  · rename_i id o m es
    split at h
    · rename_i l hl
      split at h
      · rename_i hb
        have hb : o + m * s ≤ l.length := Nat.le_of_ble_eq_true hb
        cases h
        cases hy with
        | sliceO e hcap hsz ho =>
          obtain ⟨cc, ty, fr, hblk, hc⟩ := hh.block e hl
          obtain ⟨hrel, hlen⟩ := cellsRel_take hc o (n * s) hb
          refine ⟨_, rfl, ?_, hrel, hlen⟩
          simp only [Builtin.firstCells]
          by_cases h0 : n = 0
          · subst h0
            simp [loadCells, loadCellsFrom]
          · rw [ho (by omega)]
            exact run_loadCells_block hblk (by have := hc.room; have := hc.size; omega)
      · cases h
    · cases h
  · rename_i m v
    split at h
    · rename_i hs
      have hs := Nat.eq_of_beq_eq_true hs
      subst hs
      cases h
      cases hy
      refine ⟨(bytesOf n v).map fun b => .int .u8 (b.toNat : Int), by simp [Builtin.lenOf], ?_, bytesI_rel n v, by simp⟩
      simp only [Builtin.firstCells, Sem.run_pure]
      congr 1
      rw [ByteArray.data_extract]
      show ((bytesOf n v).toArray.extract 0 n).map _ = _
      rw [List.extract_toArray, List.extract_eq_take_drop]
      simp
      exact List.take_of_length_le (by simp)
    · cases h
  · cases h

end
end Go.Proofs.YtbokoinmlbipmaaGreatDoor.Ev

-- EvAppend
namespace Go.Proofs.YtbokoinmlbipmaaGreatDoor.Ev
noncomputable section

/-- What append's types say: the element's type, its cells, its bytes. -/
def appTypes (P : Program) (ts : Array TypeId) : Option (TypeId × TypeInfo × AVal) :=
  match ts[0]? with
  | some t => (match P.underlying t with
    | some (.slice e) => (match P.info? e, zeroB P e with
      | some i, some z =>
        (match Nat.beq z.cells.length i.size && (match ts[1]? with
            | some u => (match P.underlying u with | some (.int _) => false | some _ => true | none => false)
            | none => true) with
         | true => some (e, i, z)
         | false => none)
      | _, _ => none)
    | _ => none)
  | none => none

structure AppTypes (P : Program) (ts : Array TypeId) (e : TypeId) (i : TypeInfo) (z : AVal) : Prop where
  slice : ∃ t, ts[0]? = some t ∧ P.underlying t = some (.slice e)
  info : P.info? e = some i
  zero : zeroB P e = some z
  size : z.cells.length = i.size
  zeros : ts[1]? = none ∨ ∃ u d, ts[1]? = some u ∧ P.underlying u = some d ∧ ∀ k, d ≠ .int k

theorem appTypes_some {P : Program} {ts : Array TypeId} {e : TypeId} {i : TypeInfo} {z : AVal} (h : appTypes P ts = some (e, i, z)) : AppTypes P ts e i z := by
  unfold appTypes at h
  split at h
  · rename_i t ht
    split at h
    · rename_i e' hu
      split at h
      · rename_i i' z' hi hz
        split at h
        · rename_i hb
          cases h
          simp only [Bool.and_eq_true] at hb
          refine ⟨⟨t, ht, hu⟩, hi, hz, Nat.eq_of_beq_eq_true hb.1, ?_⟩
          have h2 := hb.2
          cases h1 : ts[1]? with
          | none => exact .inl rfl
          | some u =>
            rw [h1] at h2
            simp only at h2
            cases hd : P.underlying u with
            | none => rw [hd] at h2; cases h2
            | some d =>
              rw [hd] at h2
              refine .inr ⟨u, d, rfl, hd, ?_⟩
              intro k x; subst x; cases h2
        · cases h
      · cases h
    · cases h
  · cases h

def aGrow (H : Heap) (e : TypeId) (fz : Nat) (sm : Bool) (cells : List AVal) (need s : Nat) : Option (AVal × Heap) :=
  match Nat.ble (Nat.succ H.next) Heap.lim with
  | true => some (.sliceO H.next 0 need s, H.push (.cells e cells true fz sm))
  | false => none

/-- Is what append makes small enough? -/
def fitsApp (need bytes : Nat) : Bool := Nat.ble (Nat.mul need bytes) 140737488355328 && Nat.ble need 4611686018427387904

def aAppend (P : Program) (H : Heap) (ts : Array TypeId) (x y : AVal) : Option (AVal × Heap) :=
  match appTypes P ts with
  | some (e, i, _) => (match slCells H i.size y with
    | some (n, ys) => (match x with
      | .nils => (match n with
        | 0 => some (.nils, H)
        | _ + 1 => (match fitsApp n i.bytes with | true => aGrow H e 0 false ys n i.size | false => none))
      | .slice id o m c => (match fitsApp (Nat.add m n) i.bytes with
        | true => (match Nat.ble (Nat.add m n) c with
          | true => (match aStoreCells H id (Nat.add o (Nat.mul m i.size)) ys with | some H' => some (.slice id o (Nat.add m n) c, H') | none => none)
          | false => (match slCells H i.size x with
            | some (_, xs) => aGrow H e 0 false (xs ++ ys) (Nat.add m n) i.size
            | none => none))
        | false => none)
      | .sliceO id o m es => (match Nat.beq es i.size && fitsApp (Nat.add m n) i.bytes with
        | true => (match n with
          | 0 => some (.sliceO id o m es, H)
          | _ + 1 => (match H.get id with
            | some (.cells e' l _ fz sm) => (match Nat.beq e' e && (Nat.ble fz (Nat.add o (Nat.mul m es)) && (Nat.ble (Nat.add o (Nat.mul m es)) l.length && ys.all scalarB)) with
              | true => aGrow (H.set id .dead) e (Nat.sub fz o) sm ((l.drop o).take (Nat.mul m es) ++ ys) (Nat.add m n) i.size
              | false => none)
            | _ => none))
        | false => none)
      | _ => none)
    | none => none)
  | none => none

theorem fitsApp_le {need bytes : Nat} (h : fitsApp need bytes = true) : need * bytes ≤ 140737488355328 ∧ need ≤ 4611686018427387904 := by
  simp only [fitsApp, Bool.and_eq_true] at h
  exact ⟨Nat.le_of_ble_eq_true h.1, Nat.le_of_ble_eq_true h.2⟩

section
variable {P : Program} {ts : Array TypeId} {e : TypeId} {i : TypeInfo} {z : AVal} {ty : TypeId}

/-- append where there is room. -/
theorem run_append_room (T : AppTypes P ts e i z) {base : Option Addr} {m c n : Nat} {Y : Value} {ys : Array Value} {w : World} (hn : (Builtin.lenOf Y).run P w = .ok n w)
    (hy : (Builtin.firstCells i.size n Y).run P w = .ok ys w) (hc : m + n ≤ c) :
    (Builtin.append_ ts ty #[.slice base m c, Y]).run P w = ((match base with | some a => storeCells (a.add (m * i.size)) ys.toList | none => pure () : Sem Unit).run P w).andThen fun _ w' => .ok (.slice base (m + n) c) w' := by
  obtain ⟨t, ht, hu⟩ := T.slice
  rcases T.zeros with hz | ⟨u, d, hz, hd, hdi⟩
  · simp only [Builtin.append_, ht, hz]
    simp only [List.getElem?_toArray, List.getElem?_cons_zero, List.getElem?_cons_succ, Sem.run_bind, run_underlying hu, Result.andThen_ok, run_sizeOf T.info, Sem.run_pure, Bool.false_eq_true, if_false, hn]
    rw [if_pos hc]
    simp only [Bool.not_false, if_true, Sem.run_bind, hy, Result.andThen_ok]
    cases base with
    | none => simp only [Sem.run_pure, Result.andThen_ok]
    | some a => simp only [Sem.run_bind, Sem.run_pure]
  · simp only [Builtin.append_, ht, hz]
    cases d <;> first | exact absurd rfl (hdi _) | skip
    all_goals
      simp only [List.getElem?_toArray, List.getElem?_cons_zero, List.getElem?_cons_succ, Sem.run_bind, run_underlying hu, run_underlying hd, Result.andThen_ok, run_sizeOf T.info, Sem.run_pure, Bool.false_eq_true, if_false, hn]
      rw [if_pos hc]
      simp only [Bool.not_false, if_true, Sem.run_bind, hy, Result.andThen_ok]
      cases base with
      | none => simp only [Sem.run_pure, Result.andThen_ok]
      | some a => simp only [Sem.run_bind, Sem.run_pure]

/-- append where there is no room. -/
theorem run_append_grows (T : AppTypes P ts e i z) {base : Option Addr} {m c n : Nat} {Y : Value} {xs ys : Array Value} {Z : Value} {w : World} (hn : (Builtin.lenOf Y).run P w = .ok n w)
    (hx : (Builtin.firstCells i.size m (.slice base m c)).run P { w with drawn := w.drawn + 1 } = .ok xs { w with drawn := w.drawn + 1 })
    (hy : (Builtin.firstCells i.size n Y).run P { w with drawn := w.drawn + 1 } = .ok ys { w with drawn := w.drawn + 1 })
    (hZ : (zeroValue e).run P { w with drawn := w.drawn + 1 } = .ok Z { w with drawn := w.drawn + 1 }) (hc : c < m + n) (hf : fitsApp (m + n) i.bytes = true) :
    ∃ cap, m + n ≤ cap ∧ (Builtin.append_ ts ty #[.slice base m c, Y]).run P w =
      .ok (.slice (some ⟨w.heap.size, 0, none⟩) (m + n) cap) ({ w with drawn := w.drawn + 1 }.alloc (.cells (xs ++ ys ++ Builtin.zeroCells Z.cells (cap - (m + n))) e)) := by
  obtain ⟨t, ht, hu⟩ := T.slice
  obtain ⟨hf1, hf2⟩ := fitsApp_le hf
  have hnext := growslice_fits hc hf1
  have hmax : ¬ (((m + n : Nat) : Int) > IntKind.i64.max) := by rw [IntKind.max_i64]; omega
  refine ⟨(Question.appendCap (m + n) c e).cut (w.tape w.drawn (.appendCap (m + n) c e)), by simp only [Question.cut]; omega, ?_⟩
  have hnc : ¬ (m + n ≤ c) := by omega
  have hm2 : ¬ (((m + n : Nat) : Int) > IntKind.i64.max ∧ i.bytes = 0) := fun x => hmax x.1
  have hn2 : ¬ (Builtin.nextslicecap (m + n) c * i.bytes > 2 ^ 48) := by omega
  rcases T.zeros with hz | ⟨u, d, hz, hd, hdi⟩
  · simp only [Builtin.append_, ht, hz]
    simp only [List.getElem?_toArray, List.getElem?_cons_zero, List.getElem?_cons_succ, Sem.run_bind, run_underlying hu, Result.andThen_ok, run_sizeOf T.info, Sem.run_pure, Bool.false_eq_true, if_false, hn, Bool.not_false, if_true, false_or]
    rw [if_neg hnc]
    simp only [Sem.run_bind, typeInfo, run_program, Result.andThen_ok, T.info, Sem.run_pure]
    rw [if_neg hm2]
    simp only [Sem.run_bind, run_program, Result.andThen_ok, T.info, Sem.run_pure]
    rw [if_neg hn2]
    simp only [Sem.run_bind, run_program, run_choose, Question.forced, Bool.false_eq_true, if_false, Result.andThen_ok, run_askRoom, T.info, Sem.run_pure]
    simp only [hx, hy, hZ, Result.andThen_ok, newRow, Sem.run_bind, run_newObj, Sem.run_pure, World.alloc_eq]
  · simp only [Builtin.append_, ht, hz]
    cases d <;> first | exact absurd rfl (hdi _) | skip
    all_goals (
    simp only [List.getElem?_toArray, List.getElem?_cons_zero, List.getElem?_cons_succ, Sem.run_bind, run_underlying hu, run_underlying hd, Result.andThen_ok, run_sizeOf T.info, Sem.run_pure, Bool.false_eq_true, if_false, hn, Bool.not_false, if_true, false_or]
    rw [if_neg hnc]
    simp only [Sem.run_bind, typeInfo, run_program, Result.andThen_ok, T.info, Sem.run_pure]
    rw [if_neg hm2]
    simp only [Sem.run_bind, run_program, Result.andThen_ok, T.info, Sem.run_pure]
    rw [if_neg hn2]
    simp only [Sem.run_bind, run_program, run_choose, Question.forced, Bool.false_eq_true, if_false, Result.andThen_ok, run_askRoom, T.info, Sem.run_pure]
    simp only [hx, hy, hZ, Result.andThen_ok, newRow, Sem.run_bind, run_newObj, Sem.run_pure, World.alloc_eq])

end

/-- The row that append makes anew. -/
theorem aGrow_rel {φ : Emb} {H H' : Heap} {w : World} {e : TypeId} {fz : Nat} {sm : Bool} {cells : List AVal} {need s cap : Nat} {r : AVal} {c : Array Value} (hh : HRel φ H w)
    (h : aGrow H e fz sm cells need s = some (r, H')) (hl : VRels φ cells (c.toList.take cells.length)) (hlen : cells.length ≤ c.size) (hcap : need ≤ cap) (hs : cap * s ≤ c.size) :
    ∃ φ', VRel φ' r (.slice (some ⟨w.heap.size, 0, none⟩) need cap) ∧ HRel φ' H' (w.alloc (.cells c e)) ∧ Ext φ H w φ' H' (w.alloc (.cells c e)) := by
  unfold aGrow at h
  split at h
  · rename_i hb
    have hn : H.next < Heap.lim := Nat.le_of_ble_eq_true hb
    cases h
    obtain ⟨h1, h2⟩ := hh.push (o := .cells c e) hn c.size (.cells (l := cells) (opn := true) (sm := sm) (fz := fz) (fr := (0, 0)) ⟨rfl, by simpa using hlen, fun i v hi => by
      obtain ⟨x, hx, hr⟩ := hl.get i v hi
      have hi' := (List.getElem?_eq_some_iff.1 hi).1
      rw [List.getElem?_take, if_pos hi'] at hx
      exact ⟨x, by rw [Nat.zero_add, ← Array.getElem?_toList]; exact hx, hr⟩⟩ (fun x => by cases x) (by unfold FrzOK; split <;> simp))
    refine ⟨_, ?_, h1, h2⟩
    have hsp := Emb.with_self φ H.next ⟨w.heap.size, 0, c.size⟩
    exact .sliceO (s := ⟨w.heap.size, 0, c.size⟩) (off := 0) hsp hcap (by simpa using hs) (fun _ => rfl)
  · cases h

end
end Go.Proofs.YtbokoinmlbipmaaGreatDoor.Ev

-- EvAppend2
namespace Go.Proofs.YtbokoinmlbipmaaGreatDoor.Ev
noncomputable section

/-- Growing, where the old cells and the new ones have been read. -/
theorem grows_rel {P : Program} {φ : Emb} {H H0 H' : Heap} {w : World} {ts : Array TypeId} {ty e : TypeId} {i : TypeInfo} {z : AVal} (T : AppTypes P ts e i z) {base : Option Addr} {m c n fz : Nat} {sm : Bool} {Y : Value} {r : AVal}
    {xs ys : List AVal} {zx zy : List Value} (h0 : HRel φ H0 w) (hext : Ext φ H w φ H0 w)
    (hn : (Builtin.lenOf Y).run P w = .ok n w)
    (hx : (Builtin.firstCells i.size m (.slice base m c)).run P { w with drawn := w.drawn + 1 } = .ok zx.toArray { w with drawn := w.drawn + 1 })
    (hy : (Builtin.firstCells i.size n Y).run P { w with drawn := w.drawn + 1 } = .ok zy.toArray { w with drawn := w.drawn + 1 })
    (rx : VRels φ xs zx) (ry : VRels φ ys zy) (lx : zx.length = m * i.size) (ly : zy.length = n * i.size) (hc : c < m + n) (hf : fitsApp (m + n) i.bytes = true)
    (h : aGrow H0 e fz sm (xs ++ ys) (m + n) i.size = some (r, H')) :
    MOK P φ H w (Builtin.append_ ts ty #[.slice base m c, Y]) r H' := by
  obtain ⟨Z, hZ, hr⟩ := zeroB_rel T.zero { w with drawn := w.drawn + 1 }
  obtain ⟨cap, hcap, hrun⟩ := run_append_grows (ty := ty) T hn hx hy hZ hc hf
  have hzs : Z.cells.size = i.size := by
    have := (hr φ).cells.length
    have := T.size
    simp only [Array.length_toList] at *
    omega
  have hzc := zeroCells_rep Z.cells (cap - (m + n))
  have hlz : (Builtin.zeroCells Z.cells (cap - (m + n))).size = (cap - (m + n)) * i.size := by
    have := congrArg List.length hzc
    rw [repL_length] at this
    simp only [Array.length_toList] at this
    rw [this, hzs]
  have hlc : (xs ++ ys).length = (m + n) * i.size := by
    rw [List.length_append, rx.length, ry.length, lx, ly, Nat.add_mul]
  have hsz : (zx.toArray ++ zy.toArray ++ Builtin.zeroCells Z.cells (cap - (m + n))).size = cap * i.size := by
    simp only [Array.size_append, List.size_toArray, hlz, lx, ly]
    rw [← Nat.add_mul, ← Nat.add_mul]
    congr 1; omega
  obtain ⟨φ', hv, h1, h2⟩ := aGrow_rel (c := zx.toArray ++ zy.toArray ++ Builtin.zeroCells Z.cells (cap - (m + n))) (cap := cap) h0.drew h (by
      have : (zx.toArray ++ zy.toArray ++ Builtin.zeroCells Z.cells (cap - (m + n))).toList.take (xs ++ ys).length = zx ++ zy := by
        simp only [Array.toList_append]
        rw [List.take_append_of_le_length (by rw [hlc]; simp [lx, ly, Nat.add_mul])]
        rw [List.take_of_length_le (by rw [hlc]; simp [lx, ly, Nat.add_mul])]
      rw [this]
      exact rx.append ry) (by rw [hlc, hsz]; exact Nat.mul_le_mul_right _ hcap) hcap (by rw [hsz]; exact Nat.le_refl _)
  refine ⟨φ', _, _, hrun, hv, h1, ?_⟩
  exact (hext.drew).trans h2

theorem aAppend_rel {P : Program} {φ : Emb} {H H' : Heap} {w : World} {ts : Array TypeId} {ty : TypeId} {x y r : AVal} {X Y : Value} (hh : HRel φ H w)
    (h : aAppend P H ts x y = some (r, H')) (hx : VRel φ x X) (hy : VRel φ y Y) : MOK P φ H w (Builtin.append_ ts ty #[X, Y]) r H' := by
  unfold aAppend at h
  split at h
  · rename_i e i z hT
    have T := appTypes_some hT
    split at h
    · rename_i n ys hys
      obtain ⟨zy, hn, hfy, ry, ly⟩ := slCells_rel (P := P) hh hys hy
      obtain ⟨zy', hn', hfy', ry', ly'⟩ := slCells_rel (P := P) hh.drew hys hy
      split at h
      · -- nil
        cases hx
        split at h
        · cases h
          refine ⟨φ, w, .slice none 0 0, ?_, .nils, hh, .refl _ _ _⟩
          rw [run_append_room T hn hfy (Nat.le_refl _)]
          rfl
        · rename_i n' 
          split at h
          · rename_i hf
            have h' : aGrow H e 0 false ([] ++ ys) (0 + (n' + 1)) i.size = some (r, H') := by simpa using h
            exact grows_rel (zx := []) T hh (.refl _ _ _) hn (by simp [Builtin.firstCells]) hfy' .nil ry' (by simp) ly' (by omega) (by simpa using hf) h'
          · cases h
      · rename_i id o m c
        split at h
        · rename_i hf
          have hf' : fitsApp (m + n) i.bytes = true := hf
          cases hx with
          | slice ex =>
            rename_i sp
            split at h
            · rename_i hroom
              have hroom : m + n ≤ c := Nat.le_of_ble_eq_true hroom
              split at h
              · rename_i H2 hst
                cases h
                obtain ⟨w', hrun, h1, h2⟩ := aStoreCells_rel (P := P) hh ex hst ry
                refine ⟨φ, w', .slice (some ⟨sp.block, sp.base + o, none⟩) (m + n) c, ?_, .slice ex, h1, h2⟩
                rw [run_append_room T hn hfy hroom]
                simp only [Addr.add_lit, Nat.add_assoc]
                have hrun' : (storeCells ⟨sp.block, sp.base + (o + m * i.size), none⟩ zy).run P w = .ok () w' := hrun
                rw [hrun']; rfl
              · cases h
            · rename_i hroom
              have hroom : ¬ (m + n ≤ c) := by
                intro x
                have : Nat.ble (m + n) c = true := Nat.ble_eq_true_of_le x
                rw [show Nat.add m n = m + n from rfl] at hroom
                rw [this] at hroom; cases hroom
              split at h
              · rename_i m' xs hxs
                obtain ⟨zx, hm, hfx, rx, lx⟩ := slCells_rel (P := P) hh.drew hxs (VRel.slice ex)
                have hmm : m' = m := by
                  simp only [Builtin.lenOf, Sem.run_pure, Result.ok.injEq, and_true] at hm; exact hm.symm
                subst hmm
                exact grows_rel T hh (.refl _ _ _) hn hfx hfy' rx ry' lx ly' (by omega) hf' h
              · cases h
        · cases h
      · rename_i id o m es
        split at h
        · rename_i hb
          simp only [Bool.and_eq_true] at hb
          have hes := Nat.eq_of_beq_eq_true hb.1
          subst hes
          have hf' : fitsApp (m + n) i.bytes = true := hb.2
          cases hx with
          | sliceO ex hcap hsz ho =>
            rename_i c a sp
            split at h
            · cases h
              have : zy = [] := List.length_eq_zero_iff.1 (by rw [ly]; simp)
              subst this
              refine ⟨φ, w, .slice (some ⟨sp.block, a, none⟩) (m + 0) c, ?_, .sliceO ex hcap hsz ho, hh, .refl _ _ _⟩
              rw [run_append_room T hn hfy (by omega)]
              rfl
            · rename_i n'
              split at h
              · rename_i e' l opn fz sm hg
                split at h
                · rename_i hbb
                  simp only [Bool.and_eq_true] at hbb
                  obtain ⟨b1, b2, b3, b4⟩ := hbb
                  have b1 := Nat.eq_of_beq_eq_true b1
                  subst b1
                  have b2 : fz ≤ o + m * i.size := Nat.le_of_ble_eq_true b2
                  have b3 : o + m * i.size ≤ l.length := Nat.le_of_ble_eq_true b3
                  have hcells : H.cells id = some l := by simp [Heap.cells_def, hg, rowCells]
                  obtain ⟨ob, hob, hrel⟩ := hh.rows id sp _ ex hg (by simp)
                  by_cases hroom : m + (n' + 1) ≤ c
                  · -- in place
                    cases hrel with
                    | cells hc hclosed hfr =>
                      rename_i cc fr
                      have hca : a = sp.base + o := ho (by omega)
                      subst hca
                      have hpos : sp.base + o + m * i.size + zy.length ≤ sp.size := by
                        rw [ly, Nat.add_assoc, ← Nat.add_mul]
                        have h3 : (m + n'.succ) * i.size ≤ c * i.size := Nat.mul_le_mul_right i.size hroom
                        omega
                      have hpos' : sp.base + o + m * i.size + (n' + 1) * i.size ≤ sp.size := by
                        have h4 := hpos
                        rw [ly] at h4
                        exact h4
                      have hsize := hc.size
                      obtain ⟨w', c', hrun, ht, hc'⟩ := run_storeCells_block (P := P) (p := sp.base + o + m * i.size) zy 0 w cc hob (scalars_rel ry b4) (by omega) (by
                        intro j hj1 hj2
                        unfold FrzOK at hfr
                        split at hfr
                        · intro hj3
                          rcases hfr j hj3.1 hj3.2 with hj | hj <;> omega
                        · intro hj3
                          rcases hfr with hj | hj <;> omega)
                      simp only [Nat.add_zero] at hc'
                      unfold aGrow at h
                      split at h
                      · rename_i hbn
                        have hnx : H.next < Heap.lim := Nat.le_of_ble_eq_true hbn
                        cases h
                        have htk : ((l.drop o).take (m * i.size)).length = m * i.size := by simp; omega
                        have hyl : ys.length = (n' + 1) * i.size := by rw [ry.length, ly]
                        have hc'l : c'.toList.length = cc.toList.length := by rw [hc']; simp; omega
                        have hc'l' : c'.size = cc.size := by simpa using hc'l
                        obtain ⟨g1, g2⟩ := hh.move hnx ex hg rfl (sp.base + o) ht (r' := .cells e' ((l.drop o).take (m * i.size) ++ ys) true (Nat.sub fz o) sm) (.cells ⟨by show c'.size = sp.size; omega, by
                            show sp.base + o + ((l.drop o).take (m * i.size) ++ ys).length ≤ sp.size
                            rw [List.length_append, htk, hyl]; omega, by
                            intro q v hq
                            show ∃ x, c'[sp.base + o + q]? = some x ∧ _
                            rw [← Array.getElem?_toList, hc']
                            have htc : (cc.toList.take (sp.base + o + m * i.size)).length = sp.base + o + m * i.size := by simp; omega
                            by_cases hqm : q < m * i.size
                            · rw [List.getElem?_append_left (by omega), List.getElem?_take, if_pos hqm, List.getElem?_drop] at hq
                              obtain ⟨x, hx, hr⟩ := hc.at_ _ v hq
                              refine ⟨x, ?_, hr⟩
                              rw [List.getElem?_append_left (by omega), List.getElem?_take, if_pos (by omega), show sp.base + o + q = sp.base + (o + q) by omega]
                              rw [← Array.getElem?_toList] at hx; exact hx
                            · rw [List.getElem?_append_right (by omega), htk] at hq
                              obtain ⟨x, hx, hr⟩ := ry.get _ v hq
                              refine ⟨x, ?_, hr⟩
                              have hqy := (List.getElem?_eq_some_iff.1 hx).1
                              rw [List.getElem?_append_right (by omega), htc, show sp.base + o + q - (sp.base + o + m * i.size) = q - m * i.size by omega, List.getElem?_append_left hqy]
                              exact hx⟩ (fun x => by cases x) (by
                            unfold FrzOK at hfr ⊢
                            split
                            · rename_i hsm
                              rw [if_pos hsm] at hfr
                              intro q hq1 hq2
                              rcases hfr q hq1 hq2 with hj | hj
                              · left; show q < sp.base + o + (fz - o); omega
                              · right; exact hj
                            · rename_i hsm
                              rw [if_neg hsm] at hfr
                              rcases hfr with hj | hj
                              · left; exact hj
                              · right; show fr.2 ≤ sp.base + o + (fz - o); omega))
                        refine ⟨_, w', .slice (some ⟨sp.block, sp.base + o, none⟩) (m + (n' + 1)) c, ?_, ?_, g1, g2⟩
                        · rw [run_append_room T hn hfy hroom]
                          simp only [Addr.add_lit]
                          have hrun' : (storeCells ⟨sp.block, sp.base + o + m * i.size, none⟩ zy).run P w = .ok () w' := hrun
                          rw [hrun']; rfl
                        · have hsp := Emb.with_self φ H.next ⟨sp.block, sp.base + o, sp.size⟩
                          exact .sliceO (s := ⟨sp.block, sp.base + o, sp.size⟩) (off := 0) hsp hroom (by simpa using hsz) (fun _ => rfl)
                      · cases h
                  · -- grows
                    obtain ⟨hk, hke⟩ := hh.kill ex
                    have hxs : slCells H i.size (.sliceO id o m i.size) = some (m, (l.drop o).take (m * i.size)) := by
                      have : Nat.ble (Nat.add o (Nat.mul m i.size)) l.length = true := Nat.ble_eq_true_of_le b3
                      simp only [slCells, hcells, this]; rfl
                    obtain ⟨zx, hm, hfx, rx, lx⟩ := slCells_rel (P := P) hh.drew hxs (VRel.sliceO ex hcap hsz ho)
                    exact grows_rel T hk hke hn hfx hfy' rx ry' lx ly' (by omega) hf' h
                · cases h
              · cases h
        · cases h
      · cases h
    · cases h
  · cases h

end
end Go.Proofs.YtbokoinmlbipmaaGreatDoor.Ev

-- EvMap
namespace Go.Proofs.YtbokoinmlbipmaaGreatDoor.Ev
noncomputable section

/-- May a value be a key? -/
def aCheck (P : Program) : Nat → TypeId → AVal → Bool
  | 0 => fun _ _ => false
  | d + 1 => fun t v =>
    match P.underlying t with
    | some (.int _) => true
    | some .string => true
    | some .bool => true
    | some (.array n e) => (match v with
      | .agg l => (match sizeB P e with | some s => aCheckElems P (aCheck P d) e s l n 0 | none => false)
      | _ => false)
    | some (.struct fs) => (match v with
      | .agg l => aCheckFields P (aCheck P d) l fs.toList
      | _ => false)
    | _ => false
where
  aCheckElems (P : Program) (ck : TypeId → AVal → Bool) (e : TypeId) (s : Nat) (l : List AVal) : Nat → Nat → Bool
    | 0, _ => true
    | n + 1, i => (match aPart P e l (i * s) with
      | some a => ck e a && aCheckElems P ck e s l n (i + 1)
      | none => false)
  aCheckFields (P : Program) (ck : TypeId → AVal → Bool) (l : List AVal) : List Field → Bool
    | [] => true
    | f :: fs => if f.name ≠ "_" then (match aPart P f.type l f.offset with
        | some a => ck f.type a && aCheckFields P ck l fs
        | none => false)
      else aCheckFields P ck l fs

section
variable {P : Program} {φ : Emb}

def CheckOK (P : Program) (φ : Emb) (d : Nat) : Prop := ∀ t v V, aCheck P d t v = true → VRel φ v V → ∀ empty w, (Instr.checkKey empty d t V).run P w = .ok () w

theorem aCheckElems_rel {d : Nat} (ih : CheckOK P φ d) {e : TypeId} {s : Nat} {l : List AVal} {m : List Value} (hl : VRels φ l m) (hs : sizeB P e = some s) (empty : Bool) (w : World) :
    ∀ (n i : Nat), aCheck.aCheckElems P (aCheck P d) e s l n i = true →
      (forIn (List.range' i n) PUnit.unit fun i _ => do
        Instr.checkKey empty d e (← part e m.toArray (i * (← sizeOf e)))
        pure (ForInStep.yield PUnit.unit) : Sem PUnit).run P w = .ok PUnit.unit w
  | 0, i, _ => rfl
  | n + 1, i, h => by
    simp only [aCheck.aCheckElems] at h
    split at h
    · rename_i a ha
      simp only [Bool.and_eq_true] at h
      obtain ⟨A, hA, hr⟩ := aPart_rel ha hl w
      simp only [List.range'_succ, List.forIn_cons, Sem.run_bind, run_sizeB hs, hA, Result.andThen_ok, ih _ _ _ h.1 hr empty w, Sem.run_pure]
      exact aCheckElems_rel ih hl hs empty w n (i + 1) h.2
    · cases h

theorem aCheckFields_rel {d : Nat} (ih : CheckOK P φ d) {l : List AVal} {m : List Value} (hl : VRels φ l m) (empty : Bool) (w : World) :
    ∀ (fs : List Field), aCheck.aCheckFields P (aCheck P d) l fs = true →
      (forIn fs PUnit.unit fun f _ => do
        if f.name ≠ "_" then
          Instr.checkKey empty d f.type (← part f.type m.toArray f.offset)
        pure (ForInStep.yield PUnit.unit) : Sem PUnit).run P w = .ok PUnit.unit w
  | [], _ => rfl
  | f :: fs, h => by
    simp only [aCheck.aCheckFields] at h
    simp only [List.forIn_cons, Sem.run_bind, Sem.run_ite]
    split at h
    · rename_i hn
      split at h
      · rename_i a ha
        simp only [Bool.and_eq_true] at h
        obtain ⟨A, hA, hr⟩ := aPart_rel ha hl w
        rw [if_pos hn]
        simp only [hA, Result.andThen_ok, ih _ _ _ h.1 hr empty w, Sem.run_pure]
        exact aCheckFields_rel ih hl empty w fs h.2
      · cases h
    · rename_i hn
      rw [if_neg hn]
      simp only [Sem.run_pure, Result.andThen_ok]
      exact aCheckFields_rel ih hl empty w fs h

theorem aCheck_ok : ∀ d, CheckOK P φ d := by
  intro d
  induction d with
  | zero => intro t v V h; cases h
  | succ d ih =>
    intro t v V h hv empty w
    unfold aCheck at h
    split at h
    · rename_i k hu; simp [Instr.checkKey, run_underlying hu]
    · rename_i hu; simp [Instr.checkKey, run_underlying hu]
    · rename_i hu; simp [Instr.checkKey, run_underlying hu]
    · rename_i n e hu
      split at h
      · cases hv with
        | agg hl =>
          split at h
          · rename_i s hs
            have key := aCheckElems_rel ih hl hs empty w n 0 h
            simp only [Instr.checkKey, Sem.run_bind, run_underlying hu, Result.andThen_ok]
            simp only [Std.Legacy.Range.forIn_eq_forIn_range', Std.Legacy.Range.size, Nat.sub_zero, Nat.add_sub_cancel, Nat.div_one]
            rw [key]; rfl
          · cases h
      · cases h
    · rename_i fs hu
      split at h
      · cases hv with
        | agg hl =>
          have key := aCheckFields_rel ih hl empty w fs.toList h
          simp only [Instr.checkKey, Sem.run_bind, run_underlying hu, Result.andThen_ok]
          rw [← Array.forIn_toList, key]; rfl
      · cases h
    · cases h

/-- Where a key lies among entries: none, or its place. -/
def aFind (P : Program) (kt : TypeId) (k : AVal) : List (AVal × AVal × Nat) → Nat → Option (Option (Nat × AVal))
  | [], _ => some none
  | e :: es, i => (match aEqIn P 10000 kt k e.1 with
    | some true => some (some (i, e.2.1))
    | some false => aFind P kt k es (i + 1)
    | none => none)

theorem findAsking_rel {kt : TypeId} {k : AVal} {K : Value} (hk : VRel φ k K) (w : World) : ∀ {es : List (AVal × AVal × Nat)} {ms : List MapEntry} {i : Nat} {r : Option (Nat × AVal)},
    All2 (EntryRel φ) es ms → aFind P kt k es i = some r →
    ∃ R, (Instr.findAsking kt K ms i).run P w = .ok R w ∧ ((r = none ∧ R = none) ∨ ∃ j v V, r = some (j, v) ∧ R = some (j, V) ∧ VRel φ v V)
  | _, _, i, r, .nil, h => by simp only [aFind] at h; cases h; exact ⟨none, rfl, .inl ⟨rfl, rfl⟩⟩
  | _, _, i, r, .cons (a := e) (b := m) he t, h => by
    simp only [aFind] at h
    simp only [Instr.findAsking, Sem.run_bind]
    split at h
    · rename_i heq
      cases h
      have h1 := aEqIn_ok 10000 kt k e.1 true K m.key heq hk he.1 w
      refine ⟨some (i, m.val), ?_, .inr ⟨i, e.2.1, m.val, rfl, rfl, he.2.1⟩⟩
      simp only [Op.equal, Op.maxDepth, h1, Result.andThen_ok, if_true, Sem.run_pure]
    · rename_i heq
      have h1 := aEqIn_ok 10000 kt k e.1 false K m.key heq hk he.1 w
      simp only [Op.equal, Op.maxDepth, h1, Result.andThen_ok, Bool.false_eq_true, if_false]
      exact findAsking_rel hk w t h
    · cases h

/-- Looking at once finds what asking finds. -/
theorem findNow_eq {kt : TypeId} {d : TypeDesc} (hu : P.underlying kt = some d) (K : Value) (w : World) : ∀ (ms : List MapEntry) (i : Nat) (r : Option (Nat × Value)), Instr.findNow d K ms i = some r →
    (Instr.findAsking kt K ms i).run P w = .ok r w
  | [], i, r, h => by simp only [Instr.findNow] at h; cases h; rfl
  | m :: ms, i, r, h => by
    have key : ∀ (kk : Value) (b : Bool), Instr.sameNow d K kk = some b → (Op.equalIn 10000 kt K kk).run P w = .ok b w := by
      intro kk b hb
      unfold Instr.sameNow at hb
      split at hb
      · split at hb
        · rename_i hk; cases hb; subst hk; exact run_equalIn_int w _ kt _ _ _ _ hu
        · cases hb
      · cases hb
        rw [run_equalIn_string w _ kt _ _ hu, beq_toListBytes]
      · cases hb
        exact run_equalIn_bool' w _ kt _ _ hu
      · cases hb
    simp only [Instr.findNow] at h
    simp only [Instr.findAsking, Sem.run_bind, Op.equal, Op.maxDepth]
    split at h
    · rename_i hs; cases h
      simp only [key _ true hs, Result.andThen_ok, if_true, Sem.run_pure]
    · rename_i hs
      simp only [key _ false hs, Result.andThen_ok, Bool.false_eq_true, if_false]
      exact findNow_eq hu K w ms (i + 1) r h
    · cases h

theorem aFind_rel {kt : TypeId} {k : AVal} {K : Value} (hk : VRel φ k K) (w : World) {es : List (AVal × AVal × Nat)} {ms : List MapEntry} {r : Option (Nat × AVal)} {d : TypeDesc} (hu : P.underlying kt = some d)
    (he : All2 (EntryRel φ) es ms) (h : aFind P kt k es 0 = some r) :
    ∃ R, (Instr.findKey kt K ms).run P w = .ok R w ∧ ((r = none ∧ R = none) ∨ ∃ j v V, r = some (j, v) ∧ R = some (j, V) ∧ VRel φ v V) := by
  obtain ⟨R, hR, hr⟩ := findAsking_rel hk w he h
  refine ⟨R, ?_, hr⟩
  simp only [Instr.findKey, Sem.run_bind, run_underlying hu, Result.andThen_ok]
  split
  · rename_i r' hn
    have := findNow_eq hu K w ms 0 r' hn
    rw [this] at hR
    simp only [Result.ok.injEq, and_true] at hR
    subst hR; rfl
  · exact hR
end

end
end Go.Proofs.YtbokoinmlbipmaaGreatDoor.Ev

-- EvMapOps
namespace Go.Proofs.YtbokoinmlbipmaaGreatDoor.Ev
noncomputable section

theorem All2.get {α β : Type} {R : α → β → Prop} : ∀ {l : List α} {m : List β}, All2 R l m → ∀ (i : Nat) a, l[i]? = some a → ∃ b, m[i]? = some b ∧ R a b
  | _, _, .nil, _, _, h => by simp at h
  | _, _, .cons h t, 0, a, e => by simp at e; subst e; exact ⟨_, rfl, h⟩
  | _, _, .cons h t, i + 1, a, e => by simp at e; simpa using All2.get t i a e

theorem All2.push {α β : Type} {R : α → β → Prop} {a : α} {b : β} (k : R a b) : ∀ {l : List α} {m : List β}, All2 R l m → All2 R (l ++ [a]) (m ++ [b])
  | _, _, .nil => .cons k .nil
  | _, _, .cons h t => .cons h (All2.push k t)

theorem All2.modify {α β : Type} {R : α → β → Prop} {f : α → α} {g : β → β} (k : ∀ a b, R a b → R (f a) (g b)) : ∀ {l : List α} {m : List β}, All2 R l m → ∀ i, All2 R (l.modify i f) (m.modify i g)
  | _, _, .nil, i => by cases i <;> exact .nil
  | _, _, .cons h t, 0 => by simp only [List.modify_zero_cons]; exact .cons (k _ _ h) t
  | _, _, .cons h t, i + 1 => by simp only [List.modify_succ_cons]; exact .cons h (All2.modify k t i)

def Heap.mapAt (H : Heap) (x : AVal) : Option (Nat × List (AVal × AVal × Nat) × Nat) :=
  match x with
  | .map id => (match H.get id with | some (.map es c) => some (id, es, c) | _ => none)
  | _ => none

theorem mapAt_rel {φ : Emb} {H : Heap} {w : World} {x : AVal} {X : Value} {id c : Nat} {es : List (AVal × AVal × Nat)} (hh : HRel φ H w) (h : H.mapAt x = some (id, es, c)) (hx : VRel φ x X) :
    ∃ s ms, φ id = some s ∧ X = .map (some s.block) ∧ H.get id = some (.map es c) ∧ w.heap[s.block]? = some (.map ms c) ∧ All2 (EntryRel φ) es ms.toList := by
  unfold Heap.mapAt at h
  split at h
  · split at h
    · rename_i hg
      cases h
      cases hx with
      | map e =>
        obtain ⟨o, ho, hr⟩ := hh.rows _ _ _ e hg (by simp)
        cases hr with
        | map h => exact ⟨_, _, e, rfl, hg, ho, h⟩
    · cases h
  · cases h

theorem run_getMap {P : Program} {w : World} {b c : Nat} {ms : Array MapEntry} (h : w.heap[b]? = some (.map ms c)) : (getObj b).run P w = .ok (.map ms c) w := by
  simp [getObj, Sem.run, h]

theorem run_setMap {P : Program} {w : World} {b c c' : Nat} {ms ms' : Array MapEntry} (h : w.heap[b]? = some (.map ms c)) :
    ∃ w', (setObj b (.map ms' c')).run P w = .ok () w' ∧ Turned w w' b (.map ms' c') := by
  have hlt : b < w.heap.size := by
    rcases Nat.lt_or_ge b w.heap.size with hb | hb
    · exact hb
    · rw [Array.getElem?_eq_none hb] at h; cases h
  refine ⟨{ w with heap := w.heap.setIfInBounds b (.map ms' c') }, by simp only [setObj, Sem.run, h], ⟨by simp, by simp [hlt], fun j hj => ?_, rfl, rfl, rfl⟩⟩
  show (w.heap.setIfInBounds b _)[j]? = _
  rw [Array.getElem?_setIfInBounds_ne (by omega)]

/-- The row of a map, written. -/
theorem mapSet_rel {P : Program} {φ : Emb} {H : Heap} {w : World} {id c c' : Nat} {s : Spot} {es es' : List (AVal × AVal × Nat)} {ms ms' : Array MapEntry} (hh : HRel φ H w) (e : φ id = some s)
    (hg : H.get id = some (.map es c)) (hb : w.heap[s.block]? = some (.map ms c)) (hr : All2 (EntryRel φ) es' ms'.toList) :
    ∃ w', (setObj s.block (.map ms' c')).run P w = .ok () w' ∧ HRel φ (H.set id (.map es' c')) w' ∧ Ext φ H w φ (H.set id (.map es' c')) w' := by
  obtain ⟨w', hrun, ht⟩ := run_setMap (P := P) (ms' := ms') (c' := c') hb
  exact ⟨w', hrun, hh.turn e hg rfl ht (.map hr)⟩

def aMakeMap (H : Heap) : Option (AVal × Heap) :=
  match Nat.ble (Nat.succ H.next) Heap.lim with
  | true => some (.map H.next, H.push (.map [] 0))
  | false => none

theorem aMakeMap_rel {P : Program} {φ : Emb} {H H' : Heap} {w : World} {t : TypeId} {r : AVal} (hh : HRel φ H w) (h : aMakeMap H = some (r, H')) :
    MOK P φ H w (Instr.makeMap t none) r H' := by
  unfold aMakeMap at h
  split at h
  · rename_i hb
    have hn : H.next < Heap.lim := Nat.le_of_ble_eq_true hb
    cases h
    obtain ⟨h1, h2⟩ := hh.push (o := .map #[] 0) (r := .map [] 0) hn 0 (.map .nil)
    exact ⟨_, _, _, rfl, .map (Emb.with_self φ H.next ⟨w.heap.size, 0, 0⟩), h1, h2⟩
  · cases h

def mapTypes (P : Program) (t : TypeId) : Option (TypeId × TypeId) := match P.underlying t with
  | some (.map k e) => (match P.underlying k with | some _ => some (k, e) | none => none)
  | _ => none

theorem mapTypes_some {P : Program} {t k e : TypeId} (h : mapTypes P t = some (k, e)) : P.underlying t = some (.map k e) ∧ ∃ d, P.underlying k = some d := by
  unfold mapTypes at h
  split at h
  · rename_i hu
    split at h
    · rename_i d hd; cases h; exact ⟨hu, d, hd⟩
    · cases h
  · cases h

def entriesOf (H : Heap) (x : AVal) : Option (List (AVal × AVal × Nat)) :=
  match x with
  | .nilm => some []
  | _ => (match H.mapAt x with | some p => some p.2.1 | none => none)

def aLookup (P : Program) (H : Heap) (t : TypeId) (x k : AVal) (ok : Bool) : Option AVal :=
  match mapTypes P t with
  | some (kt, et) => (match entriesOf H x with
    | some es => (match aCheck P 10000 kt k with
      | true => (match aFind P kt k es 0 with
        | some (some p) => some (match ok with | true => .tup [p.2, .bool true] | false => p.2)
        | some none => (match zeroB P et with
          | some z => some (match ok with | true => .tup [z, .bool false] | false => z)
          | none => none)
        | none => none)
      | false => none)
    | none => none)
  | none => none

theorem run_lookup_of {P : Program} {w : World} {t kt et : TypeId} {X K : Value} {ok : Bool} {ms : Array MapEntry} {R : Option (Nat × Value)} (hu : P.underlying t = some (.map kt et))
    (hX : (X = .map none ∧ ms = #[]) ∨ ∃ b c, X = .map (some b) ∧ w.heap[b]? = some (.map ms c)) (hc : (Instr.checkKey ms.isEmpty 10000 kt K).run P w = .ok () w)
    (hR : (Instr.findKey kt K ms.toList).run P w = .ok R w) (V : Value) (b : Bool) (hV : (∃ j, R = some (j, V) ∧ b = true) ∨ (R = none ∧ (zeroValue et).run P w = .ok V w ∧ b = false)) :
    (Instr.lookup t X K ok).run P w = .ok (if ok then .tuple #[V, .bool b] else V) w := by
  rcases hX with ⟨rfl, rfl⟩ | ⟨bl, c, rfl, hb⟩
  · simp only [Instr.lookup, Sem.run_bind, run_underlying hu, Result.andThen_ok, Sem.run_pure, hc, hR]
    rcases hV with ⟨j, rfl, rfl⟩ | ⟨rfl, hz, rfl⟩
    · simp only [Sem.run_bind, Sem.run_pure, Result.andThen_ok]
    · simp only [Sem.run_bind, hz, Sem.run_pure, Result.andThen_ok]
  · simp only [Instr.lookup, Sem.run_bind, run_underlying hu, run_getMap hb, Result.andThen_ok, Sem.run_pure, hc, hR]
    rcases hV with ⟨j, rfl, rfl⟩ | ⟨rfl, hz, rfl⟩
    · simp only [Sem.run_bind, Sem.run_pure, Result.andThen_ok]
    · simp only [Sem.run_bind, hz, Sem.run_pure, Result.andThen_ok]

theorem aLookup_rel {P : Program} {φ : Emb} {H : Heap} {w : World} {t : TypeId} {x k r : AVal} {X K : Value} {ok : Bool} (hh : HRel φ H w) (h : aLookup P H t x k ok = some r) (hx : VRel φ x X) (hk : VRel φ k K) :
    ∃ R, (Instr.lookup t X K ok).run P w = .ok R w ∧ VRel φ r R := by
  unfold aLookup at h
  split at h
  · rename_i kt et hT
    obtain ⟨hu, d, hd⟩ := mapTypes_some hT
    split at h
    · rename_i es hes
      split at h
      · rename_i hck
        have hent : ∃ ms : Array MapEntry, ((X = .map none ∧ ms = #[]) ∨ ∃ b c, X = .map (some b) ∧ w.heap[b]? = some (.map ms c)) ∧ All2 (EntryRel φ) es ms.toList := by
          unfold entriesOf at hes
          split at hes
          · cases hes; cases hx; exact ⟨#[], .inl ⟨rfl, rfl⟩, .nil⟩
          · split at hes
            · rename_i p hp
              obtain ⟨id, es', c⟩ := p
              cases hes
              obtain ⟨s, ms, e, rfl, hg, hb, hr⟩ := mapAt_rel hh hp hx
              exact ⟨ms, .inr ⟨_, _, rfl, hb⟩, hr⟩
            · cases hes
        obtain ⟨ms, hms, hall⟩ := hent
        have hchk := aCheck_ok 10000 kt k K hck hk ms.isEmpty w
        split at h
        · rename_i p hf
          obtain ⟨R, hR, hrr⟩ := aFind_rel hk w hd hall hf
          rcases hrr with ⟨h1, _⟩ | ⟨j, v, V, h1, rfl, hv⟩
          · cases h1
          · cases h1
            cases h
            refine ⟨_, run_lookup_of hu hms hchk hR V true (.inl ⟨j, rfl, rfl⟩), ?_⟩
            cases ok
            · exact hv
            · exact .tup (vs := [V, .bool true]) (.cons hv (.cons (.bool _) .nil))
        · rename_i hf
          obtain ⟨R, hR, hrr⟩ := aFind_rel hk w hd hall hf
          rcases hrr with ⟨_, rfl⟩ | ⟨j, v, V, h1, _⟩
          · split at h
            · rename_i z hz
              obtain ⟨Z, hZ, hzr⟩ := zeroB_rel hz w
              cases h
              refine ⟨_, run_lookup_of hu hms hchk hR Z false (.inr ⟨rfl, hZ, rfl⟩), ?_⟩
              cases ok
              · exact hzr φ
              · exact .tup (vs := [Z, .bool false]) (.cons (hzr φ) (.cons (.bool _) .nil))
            · cases h
          · cases h1
        · cases h
      · cases h
    · cases h
  · cases h

/-- Two keys whose bits are the same. -/
def aSame : Nat → AVal → AVal → Bool
  | 0 => fun _ _ => false
  | n + 1 => fun x y =>
    match x with
    | .bool a => (match y with | .bool b => a == b | _ => false)
    | .int j a => (match y with | .int k b => sameK j k && eqZ a b | _ => false)
    | .str m u => (match y with | .str k v => eqStr m u k v | _ => false)
    | .agg l => (match y with | .agg m => aSameL (aSame n) l m | _ => false)
    | _ => false
where
  aSameL (f : AVal → AVal → Bool) : List AVal → List AVal → Bool
    | [], [] => true
    | x :: l, y :: m => f x y && aSameL f l m
    | _, _ => false

theorem aSame_rel {φ : Emb} : ∀ (n : Nat) (x y : AVal) (X Y : Value), aSame n x y = true → VRel φ x X → VRel φ y Y → Instr.sameBits n X Y = true := by
  intro n
  induction n with
  | zero => intro x y X Y h; cases h
  | succ n ih =>
    intro x y X Y h hx hy
    unfold aSame at h
    split at h
    · split at h
      · cases hx; cases hy; simpa [Instr.sameBits] using h
      · cases h
    · split at h
      · cases hx; cases hy
        simp only [Bool.and_eq_true, eqZ_eq, beq_iff_eq] at h
        have := sameK_eq h.1
        subst this
        simp [Instr.sameBits, h.2]
      · cases h
    · split at h
      · cases hx; cases hy
        rw [eqStr_iff, ← beq_toListBytes] at h
        simpa [Instr.sameBits] using h
      · cases h
    · split at h
      · cases hx with
        | agg hl => cases hy with
          | agg hm =>
            rename_i l m vs us
            have key : ∀ {l m : List AVal} {vs us : List Value}, aSame.aSameL (aSame n) l m = true → VRels φ l vs → VRels φ m us → vs.length = us.length ∧ ((vs.zip us).all fun (x, y) => Instr.sameBits n x y) = true := by
              intro l
              induction l with
              | nil => intro m vs us h hl hm; cases m with
                | nil => cases hl; cases hm; exact ⟨rfl, rfl⟩
                | cons a m => cases h
              | cons a l ihl => intro m vs us h hl hm; cases m with
                | nil => cases h
                | cons b m =>
                  simp only [aSame.aSameL, Bool.and_eq_true] at h
                  cases hl with
                  | cons ha hl => cases hm with
                    | cons hb hm =>
                      obtain ⟨h1, h2⟩ := ihl h.2 hl hm
                      exact ⟨by simp [h1], by simp only [List.zip_cons_cons, List.all_cons, ih _ _ _ _ h.1 ha hb, Bool.true_and]; exact h2⟩
            obtain ⟨h1, h2⟩ := key h hl hm
            simp only [Instr.sameBits, Bool.and_eq_true]
            exact ⟨by simpa using h1, by simpa using h2⟩
      · cases h
    · cases h

end
end Go.Proofs.YtbokoinmlbipmaaGreatDoor.Ev

-- EvMapW
namespace Go.Proofs.YtbokoinmlbipmaaGreatDoor.Ev
noncomputable section

/-- The place of a key among entries, with the key and value there. -/
def aMapUpdate (P : Program) (H : Heap) (t : TypeId) (x k v : AVal) : Option Heap :=
  match mapTypes P t, H.mapAt x with
  | some (kt, _), some (id, es, c) => (match aCheck P 10000 kt k with
    | true => (match aFind P kt k es 0 with
      | some (some p) => (match es[p.1]? with
        | some old => (match aSame 10000 old.1 k with
          | true => some (H.set id (.map (es.modify p.1 fun e => (k, v, e.2.2)) c))
          | false => none)
        | none => none)
      | some none => some (H.set id (.map (es ++ [(k, v, c)]) (Nat.succ c)))
      | none => none)
    | false => none)
  | _, _ => none

theorem run_keyThatStays {P : Program} {w : World} {old new : Value} (h : Instr.sameBits 10000 old new = true) : (Instr.keyThatStays old new).run P w = .ok new w := by
  simp [Instr.keyThatStays, h]

theorem aMapUpdate_rel {P : Program} {φ : Emb} {H H' : Heap} {w : World} {t : TypeId} {x k v : AVal} {X K V : Value} (hh : HRel φ H w) (h : aMapUpdate P H t x k v = some H')
    (hx : VRel φ x X) (hk : VRel φ k K) (hv : VRel φ v V) : UOK P φ H w (Instr.mapUpdate t X K V) H' := by
  unfold aMapUpdate at h
  split at h
  · rename_i kt et id es c hT hM
    obtain ⟨hu, d, hd⟩ := mapTypes_some hT
    obtain ⟨s, ms, e, rfl, hg, hb, hr⟩ := mapAt_rel hh hM hx
    split at h
    · rename_i hck
      have hchk := aCheck_ok 10000 kt k K hck hk false w
      split at h
      · rename_i p hf
        obtain ⟨R, hR, hrr⟩ := aFind_rel hk w hd hr hf
        rcases hrr with ⟨h1, _⟩ | ⟨j, v', V', h1, rfl, hv'⟩
        · cases h1
        · cases h1
          split at h
          · rename_i old ho
            split at h
            · rename_i hs
              cases h
              obtain ⟨m, hm, he⟩ := hr.get _ _ ho
              have hbits := aSame_rel 10000 _ _ _ _ hs he.1 hk
              have hm' : ms[j]? = some m := by rw [← Array.getElem?_toList]; exact hm
              obtain ⟨w', hrun, h1, h2⟩ := mapSet_rel (P := P) (es' := es.modify j fun e => (k, v, e.2.2)) (ms' := ms.modify j fun e => { e with key := K, val := V }) (c' := c) hh e hg hb (by
                rw [Array.toList_modify]
                exact hr.modify (fun a b hab => ⟨hk, hv, hab.2.2⟩) j)
              refine ⟨φ, w', ?_, h1, h2⟩
              simp only [Instr.mapUpdate, Sem.run_bind, run_underlying hu, Result.andThen_ok, run_getMap hb, hchk, hR, hm', Option.map_some, Option.getD_some, run_keyThatStays hbits]
              exact hrun
            · cases h
          · cases h
      · rename_i hf
        obtain ⟨R, hR, hrr⟩ := aFind_rel hk w hd hr hf
        rcases hrr with ⟨_, rfl⟩ | ⟨j, v', V', h1, _⟩
        · cases h
          obtain ⟨w', hrun, h1, h2⟩ := mapSet_rel (P := P) (es' := es ++ [(k, v, c)]) (ms' := ms.push { key := K, val := V, born := c }) (c' := c + 1) hh e hg hb (by
            rw [Array.toList_push]
            exact hr.push ⟨hk, hv, rfl⟩)
          refine ⟨φ, w', ?_, h1, h2⟩
          simp only [Instr.mapUpdate, Sem.run_bind, run_underlying hu, Result.andThen_ok, run_getMap hb, hchk, hR]
          exact hrun
        · cases h1
      · cases h
    · cases h
  · cases h

def aMapEntry (P : Program) (H : Heap) (t : TypeId) (x k : AVal) : Option (AVal × Heap) :=
  match mapTypes P t, H.mapAt x with
  | some (kt, et), some (id, es, c) => (match aCheck P 10000 kt k with
    | true => (match aFind P kt k es 0 with
      | some (some p) => (match es[p.1]? with
        | some old => (match aSame 10000 old.1 k with
          | true => some (.tup [p.2, .int .i64 (Int.ofNat old.2.2)], H.set id (.map (es.modify p.1 fun e => (k, e.2)) c))
          | false => none)
        | none => none)
      | some none => (match zeroB P et with
        | some z => some (.tup [z, .int .i64 (Int.ofNat c)], H.set id (.map (es ++ [(k, z, c)]) (Nat.succ c)))
        | none => none)
      | none => none)
    | false => none)
  | _, _ => none

theorem aMapEntry_rel {P : Program} {φ : Emb} {H H' : Heap} {w : World} {t : TypeId} {x k r : AVal} {X K : Value} (hh : HRel φ H w) (h : aMapEntry P H t x k = some (r, H'))
    (hx : VRel φ x X) (hk : VRel φ k K) : MOK P φ H w (Instr.mapEntry t X K) r H' := by
  unfold aMapEntry at h
  split at h
  · rename_i kt et id es c hT hM
    obtain ⟨hu, d, hd⟩ := mapTypes_some hT
    obtain ⟨s, ms, e, rfl, hg, hb, hr⟩ := mapAt_rel hh hM hx
    split at h
    · rename_i hck
      have hchk := aCheck_ok 10000 kt k K hck hk false w
      split at h
      · rename_i p hf
        obtain ⟨R, hR, hrr⟩ := aFind_rel hk w hd hr hf
        rcases hrr with ⟨h1, _⟩ | ⟨j, v', V', h1, rfl, hv'⟩
        · cases h1
        · cases h1
          split at h
          · rename_i old ho
            split at h
            · rename_i hs
              cases h
              obtain ⟨m, hm, he⟩ := hr.get _ _ ho
              have hbits := aSame_rel 10000 _ _ _ _ hs he.1 hk
              have hm' : ms[j]? = some m := by rw [← Array.getElem?_toList]; exact hm
              obtain ⟨w', hrun, h1, h2⟩ := mapSet_rel (P := P) (es' := es.modify j fun e => (k, e.2)) (ms' := ms.modify j fun e => { e with key := K }) (c' := c) hh e hg hb (by
                rw [Array.toList_modify]
                exact hr.modify (fun a b hab => ⟨hk, hab.2⟩) j)
              refine ⟨φ, w', .tuple #[V', .int .i64 (m.born : Int)], ?_, ?_, h1, h2⟩
              · simp only [Instr.mapEntry, Sem.run_bind, run_underlying hu, Result.andThen_ok, run_getMap hb, hchk, hR, hm', Option.map_some, Option.getD_some, run_keyThatStays hbits]
                rw [hrun]; rfl
              · rw [← he.2.2]
                exact .tup (vs := [V', .int .i64 (old.2.2 : Int)]) (.cons hv' (.cons (.int _ _) .nil))
            · cases h
          · cases h
      · rename_i hf
        obtain ⟨R, hR, hrr⟩ := aFind_rel hk w hd hr hf
        rcases hrr with ⟨_, rfl⟩ | ⟨j, v', V', h1, _⟩
        · split at h
          · rename_i z hz
            cases h
            obtain ⟨Z, hZ, hzr⟩ := zeroB_rel hz w
            obtain ⟨w', hrun, h1, h2⟩ := mapSet_rel (P := P) (es' := es ++ [(k, z, c)]) (ms' := ms.push { key := K, val := Z, born := c }) (c' := c + 1) hh e hg hb (by
              rw [Array.toList_push]
              exact hr.push ⟨hk, hzr φ, rfl⟩)
            refine ⟨φ, w', .tuple #[Z, .int .i64 (c : Int)], ?_, .tup (vs := [Z, .int .i64 (c : Int)]) (.cons (hzr φ) (.cons (.int _ _) .nil)), h1, h2⟩
            simp only [Instr.mapEntry, Sem.run_bind, run_underlying hu, Result.andThen_ok, run_getMap hb, hchk, hR, hZ]
            rw [hrun]; rfl
          · cases h
        · cases h1
      · cases h
    · cases h
  · cases h

def bornAt (n : Nat) : List (AVal × AVal × Nat) → Nat → Option Nat
  | [], _ => none
  | e :: es, i => (match Nat.beq e.2.2 n with | true => some i | false => bornAt n es (Nat.succ i))

theorem bornAt_rel {φ : Emb} {n : Nat} : ∀ {es : List (AVal × AVal × Nat)} {ms : List MapEntry} {i j : Nat}, All2 (EntryRel φ) es ms → bornAt n es i = some j →
    ∃ q, j = i + q ∧ ms.findIdx? (fun e => (e.born : Int) == (n : Int)) = some q
  | _, _, i, j, .nil, h => by cases h
  | _, _, i, j, .cons (a := e) (b := m) he t, h => by
    simp only [bornAt] at h
    split at h
    · rename_i hb
      have hb := Nat.eq_of_beq_eq_true hb
      cases h
      refine ⟨0, by omega, ?_⟩
      rw [List.findIdx?_cons]
      simp [← he.2.2, hb]
    · rename_i hb
      have hb := Nat.ne_of_beq_eq_false hb
      obtain ⟨q, hq, hf⟩ := bornAt_rel t h
      refine ⟨q + 1, by omega, ?_⟩
      rw [List.findIdx?_cons, hf]
      have : ((m.born : Int) == (n : Int)) = false := by
        rw [← he.2.2]; simpa using fun x => hb (by exact_mod_cast x)
      simp [this]

def aEntryStore (H : Heap) (x st v : AVal) : Option Heap :=
  match H.mapAt x with
  | some (id, es, c) => onInt st fun _ z => (match natOf z with
    | some n => (match bornAt n es 0 with
      | some j => some (H.set id (.map (es.modify j fun e => (e.1, v, e.2.2)) c))
      | none => none)
    | none => none)
  | none => none

theorem aEntryStore_rel {P : Program} {φ : Emb} {H H' : Heap} {w : World} {t : TypeId} {x st v : AVal} {X S V : Value} (hh : HRel φ H w) (h : aEntryStore H x st v = some H')
    (hx : VRel φ x X) (hs : VRel φ st S) (hv : VRel φ v V) : UOK P φ H w (Instr.entryStore t X S V) H' := by
  unfold aEntryStore at h
  split at h
  · rename_i id es c hM
    obtain ⟨s, ms, e, rfl, hg, hb, hr⟩ := mapAt_rel hh hM hx
    obtain ⟨k, z, rfl, h'⟩ := onInt_some h
    cases hs
    split at h'
    · rename_i n hn
      have := natOf_some hn
      subst this
      split at h'
      · rename_i j hj
        cases h'
        obtain ⟨q, hq, hfi⟩ := bornAt_rel hr hj
        have : j = q := by omega
        subst this
        obtain ⟨w', hrun, h1, h2⟩ := mapSet_rel (P := P) (es' := es.modify j fun e => (e.1, v, e.2.2)) (ms' := ms.modify j fun e => { e with val := V }) (c' := c) hh e hg hb (by
          rw [Array.toList_modify]
          exact hr.modify (fun a b hab => ⟨hab.1, hv, hab.2.2⟩) j)
        refine ⟨φ, w', ?_, h1, h2⟩
        have hfa : ms.findIdx? (fun e => (e.born : Int) == (n : Int)) = some j := by
          rcases ms with ⟨ml⟩
          rw [List.findIdx?_toArray]; exact hfi
        simp only [Instr.entryStore, Sem.run_bind, run_getMap hb, Result.andThen_ok, asInt, asIntOf, Sem.run_pure, hfa]
        exact hrun
      · cases h'
    · cases h'
  · cases h

def aLenMap (P : Program) (H : Heap) (t : TypeId) (x : AVal) : Option AVal :=
  match P.underlying t with
  | some (.map _ _) => (match H.mapAt x with
    | some p => mkI .i64 (Int.ofNat p.2.1.length)
    | none => none)
  | _ => none

theorem aLenMap_rel {P : Program} {φ : Emb} {H : Heap} {w : World} {t ty : TypeId} {ts : Array TypeId} {x r : AVal} {X : Value} (hh : HRel φ H w) (ht : ts[0]? = some t) (h : aLenMap P H t x = some r) (hx : VRel φ x X) :
    ∃ R, (Builtin.len_ ts ty #[X]).run P w = .ok R w ∧ VRel φ r R := by
  unfold aLenMap at h
  have h0 : (#[X] : Array Value)[0]? = some X := rfl
  split at h
  · rename_i k e hu
    split at h
    · rename_i p hM
      obtain ⟨id, es, c⟩ := p
      obtain ⟨s, ms, e, rfl, hg, hb, hr⟩ := mapAt_rel hh hM hx
      rw [mkI_eq] at h; cases h
      refine ⟨.int .i64 (ms.size : Int), ?_, ?_⟩
      · simp only [Builtin.len_, ht, h0, Sem.run_bind, run_underlying hu, Result.andThen_ok, run_getMap hb]; rfl
      · have := hr.length
        simp only [Array.length_toList] at this
        rw [← this]; exact .int _ _
    · cases h
  · cases h

end
end Go.Proofs.YtbokoinmlbipmaaGreatDoor.Ev

-- EvIter
namespace Go.Proofs.YtbokoinmlbipmaaGreatDoor.Ev
noncomputable section

theorem All2.filter {φ : Emb} (p : Nat → Bool) : ∀ {es : List (AVal × AVal × Nat)} {ms : List MapEntry}, All2 (EntryRel φ) es ms →
    All2 (EntryRel φ) (es.filter fun e => p e.2.2) (ms.filter fun m => p m.born)
  | _, _, .nil => .nil
  | _, _, .cons (a := a) (b := b) h t => by
    simp only [List.filter_cons, ← h.2.2]
    split
    · exact .cons h (All2.filter p t)
    · exact All2.filter p t

theorem All2.all {φ : Emb} (p : Nat → Bool) : ∀ {es : List (AVal × AVal × Nat)} {ms : List MapEntry}, All2 (EntryRel φ) es ms →
    (es.all fun e => p e.2.2) = (ms.all fun m => p m.born)
  | _, _, .nil => rfl
  | _, _, .cons (a := a) (b := b) h t => by
    simp only [List.all_cons, ← h.2.2, All2.all p t]

def aRange (P : Program) (H : Heap) (t : TypeId) (x : AVal) : Option (AVal × Heap) :=
  match P.underlying t with
  | some (.map _ _) => (match Nat.ble (Nat.succ H.next) Heap.lim with
    | true => (match x with
      | .nilm => some (.ptr H.next 0, H.push (.mapIter none 0 [] 0))
      | _ => (match H.mapAt x with
        | some p => some (.ptr H.next 0, H.push (.mapIter (some p.1) p.2.2 [] p.2.2))
        | none => none))
    | false => none)
  | _ => none

theorem aRange_rel {P : Program} {φ : Emb} {H H' : Heap} {w : World} {t : TypeId} {x r : AVal} {X : Value} (hh : HRel φ H w) (h : aRange P H t x = some (r, H')) (hx : VRel φ x X) :
    MOK P φ H w (Instr.range t X) r H' := by
  unfold aRange at h
  split at h
  · rename_i k e hu
    split at h
    · rename_i hb
      have hn : H.next < Heap.lim := Nat.le_of_ble_eq_true hb
      split at h
      · cases h; cases hx
        obtain ⟨h1, h2⟩ := hh.push (o := .mapIter none 0 #[] 0) (r := .mapIter none 0 [] 0) hn 0 (.mapIterNil rfl)
        refine ⟨_, _, .pointer (some ⟨w.heap.size, 0, none⟩), ?_, ?_, h1, h2⟩
        · simp only [Instr.range, Sem.run_bind, run_underlying hu, Result.andThen_ok, Sem.run_pure, run_newObj, World.alloc_eq]
        · exact VRel.ptr (off := 0) (Emb.with_self φ H.next ⟨w.heap.size, 0, 0⟩)
      · split at h
        · rename_i p hM
          obtain ⟨id, es, c⟩ := p
          cases h
          obtain ⟨s, ms, e', rfl, hg, hbk, hr⟩ := mapAt_rel hh hM hx
          obtain ⟨h1, h2⟩ := hh.push (o := .mapIter (some s.block) c #[] c) (r := .mapIter (some id) c [] c) hn 0 (.mapIter e' rfl)
          refine ⟨_, _, .pointer (some ⟨w.heap.size, 0, none⟩), ?_, ?_, h1, h2⟩
          · simp only [Instr.range, Sem.run_bind, run_underlying hu, Result.andThen_ok, Sem.run_pure, run_getMap hbk, run_newObj, World.alloc_eq]
          · exact VRel.ptr (off := 0) (Emb.with_self φ H.next ⟨w.heap.size, 0, 0⟩)
        · cases h
    · cases h
  · cases h

def aNext (H : Heap) (x : AVal) : Option (AVal × Heap) :=
  match x with
  | .ptr id 0 => (match H.get id with
    | some (.mapIter none _ _ _) => some (.tup [.bool false], H)
    | some (.mapIter (some m) since seen last) => (match H.get m with
      | some (.map es c) =>
        (match !seen.isEmpty && (!es.isEmpty && es.all fun e => Nat.ble last e.2.2) with
         | true => none
         | false => (match es.filter fun e => !(seen.contains e.2.2) with
           | [] => some (.tup [.bool false], H)
           | [e] => (match Nat.ble since e.2.2 with
             | true => none
             | false => some (.tup [.bool true, e.1, e.2.1], H.set id (.mapIter (some m) since (seen ++ [e.2.2]) c)))
           | _ => none))
      | _ => none)
    | _ => none)
  | _ => none

theorem run_getObj_of {P : Program} {w : World} {b : Nat} {o : Obj} (h : w.heap[b]? = some o) (hc : ∀ c t f, o ≠ .cells c t f) : (getObj b).run P w = .ok o w := by
  cases o <;> first | (exact absurd rfl (hc _ _ _)) | simp only [getObj, Sem.run, h]

theorem run_setObj_of {P : Program} {w : World} {b : Nat} {o o' : Obj} (h : w.heap[b]? = some o) (hc : ∀ c t f, o ≠ .cells c t f) :
    ∃ w', (setObj b o').run P w = .ok () w' ∧ Turned w w' b o' := by
  have hlt : b < w.heap.size := by
    rcases Nat.lt_or_ge b w.heap.size with hb | hb
    · exact hb
    · rw [Array.getElem?_eq_none hb] at h; cases h
  refine ⟨{ w with heap := w.heap.setIfInBounds b o' }, ?_, ⟨by simp, by simp [hlt], fun j hj => ?_, rfl, rfl, rfl⟩⟩
  · cases o <;> first | (exact absurd rfl (hc _ _ _)) | simp only [setObj, Sem.run, h]
  · show (w.heap.setIfInBounds b _)[j]? = _
    rw [Array.getElem?_setIfInBounds_ne (by omega)]

theorem aNext_rel {P : Program} {φ : Emb} {H H' : Heap} {w : World} {t : TypeId} {x r : AVal} {X : Value} (hh : HRel φ H w) (h : aNext H x = some (r, H')) (hx : VRel φ x X) :
    MOK P φ H w (Instr.next X false t) r H' := by
  unfold aNext at h
  split at h
  · rename_i id
    cases hx with
    | ptr e =>
      rename_i s
      split at h
      · rename_i hg
        cases h
        obtain ⟨o, ho, hr⟩ := hh.rows _ _ _ e hg (by simp)
        cases hr with
        | mapIterNil hbase =>
          refine ⟨φ, w, .tuple #[.bool false], ?_, .tup (vs := [.bool false]) (.cons (.bool _) .nil), hh, .refl _ _ _⟩
          simp only [hbase, Nat.add_zero, Instr.next, Sem.run_bind, run_getObj_of ho (by simp), Result.andThen_ok, Sem.run_pure]
      · rename_i m since seen last hg
        obtain ⟨o, ho, hr⟩ := hh.rows _ _ _ e hg (by simp)
        cases hr with
        | mapIter em hbase =>
          rename_i sm
          split at h
          · rename_i es c hgm
            obtain ⟨om, hom, hrm⟩ := hh.rows _ _ _ em hgm (by simp)
            cases hrm with
            | map hall =>
              rename_i ms
              split at h
              · cases h
              · rename_i hcond
                have hcond' : (!seen.toArray.isEmpty && !ms.isEmpty && ms.all (·.born ≥ last)) = false := by
                  have h1 := hall.all (fun b => Nat.ble last b)
                  have h2 := hall.length
                  rw [Bool.and_assoc]
                  have e1 : seen.toArray.isEmpty = seen.isEmpty := by simp
                  have e2 : ms.isEmpty = es.isEmpty := by
                    rw [Bool.eq_iff_iff, Array.isEmpty_iff_size_eq_zero, List.isEmpty_iff_length_eq_zero]
                    simp only [Array.length_toList] at h2; omega
                  have e3 : ms.all (·.born ≥ last) = es.all fun e => Nat.ble last e.2.2 := by
                    rw [h1, ← Array.all_toList]
                    congr 1
                    funext m
                    rw [Bool.eq_iff_iff]; simp [Nat.ble_eq]
                  rw [e1, e2, e3]; exact hcond
                have hleft := hall.filter (fun b => !(seen.contains b))
                have hla : (ms.filter fun e => !seen.toArray.contains e.born).toList = ms.toList.filter fun m => !(seen.contains m.born) := by
                  rw [Array.toList_filter]; congr 1; funext m; simp
                rw [← hla] at hleft
                have hob := run_getObj_of (P := P) ho (by simp)
                have hobm := run_getMap (P := P) hom
                generalize hL : (ms.filter fun e => !seen.toArray.contains e.born) = L at hleft
                split at h
                · rename_i hnil
                  rw [hnil] at hleft
                  cases h
                  have hL0 : L = #[] := by
                    cases hLl : L.toList with
                    | nil => simpa using hLl
                    | cons a l => rw [hLl] at hleft; cases hleft
                  refine ⟨φ, w, .tuple #[.bool false], ?_, .tup (vs := [.bool false]) (.cons (.bool _) .nil), hh, .refl _ _ _⟩
                  simp only [hbase, Nat.add_zero, Instr.next, Sem.run_bind, hob, hobm, Result.andThen_ok, hcond', Bool.false_eq_true, if_false, hL, hL0]
                  simp only [run_choose, Question.forced]
                  simp
                · rename_i en hone
                  rw [hone] at hleft
                  split at h
                  · cases h
                  · rename_i hs
                    cases h
                    have hlt : ¬ since ≤ en.2.2 := by
                      intro x
                      have := Nat.ble_eq_true_of_le x
                      rw [this] at hs; cases hs
                    obtain ⟨me, hme, hL1⟩ : ∃ me, EntryRel φ en me ∧ L = #[me] := by
                      cases hLl : L.toList with
                      | nil => rw [hLl] at hleft; cases hleft
                      | cons a l =>
                        rw [hLl] at hleft
                        cases hleft with
                        | cons ha t => cases t with
                          | nil => exact ⟨a, ha, by rw [← Array.toList_inj]; simpa using hLl⟩
                    have hborn : me.born < since := by rw [← hme.2.2]; omega
                    obtain ⟨w', hset, hturn⟩ := run_setObj_of (P := P) (o' := .mapIter (some sm.block) since (seen ++ [me.born]).toArray c) ho (by simp)
                    have hrow : RowRel φ s (.mapIter (some m) since (seen ++ [en.2.2]) c) (.mapIter (some sm.block) since (seen ++ [me.born]).toArray c) := by
                      have := RowRel.mapIter (φ := φ) (s := s) (since := since) (stepped := c) (seen := seen ++ [en.2.2]) em hbase
                      rw [show me.born = en.2.2 from hme.2.2.symm]
                      exact this
                    obtain ⟨g1, g2⟩ := hh.turn e hg rfl hturn hrow
                    refine ⟨φ, w', .tuple #[.bool true, me.key, me.val], ?_, .tup (vs := [.bool true, me.key, me.val]) (.cons (.bool _) (.cons hme.1 (.cons hme.2.1 .nil))), g1, g2⟩
                    simp only [hbase, Nat.add_zero, Instr.next, Sem.run_bind, hob, hobm, Result.andThen_ok, hcond', Bool.false_eq_true, if_false, hL, hL1]
                    have ho1 : (#[me].filter fun e => decide (e.born < since)) = #[me] := by simp [hborn]
                    have hn1 : (#[me].filter fun e => decide (e.born ≥ since)) = #[] := by
                      have : ¬ since ≤ me.born := by omega
                      simp [this]
                    rw [ho1, hn1]
                    simp only [run_choose, Question.forced]
                    simp [hset]
                · cases h
          · cases h
      · cases h
  · cases h

def bornGet (n : Nat) : List (AVal × AVal × Nat) → Option (AVal × AVal)
  | [] => none
  | e :: es => (match Nat.beq e.2.2 n with | true => some (e.1, e.2.1) | false => bornGet n es)

theorem bornGet_rel {φ : Emb} {n : Nat} {p : AVal × AVal} : ∀ {es : List (AVal × AVal × Nat)} {ms : List MapEntry}, All2 (EntryRel φ) es ms → bornGet n es = some p →
    ∃ m, ms.find? (fun e => e.born == n) = some m ∧ VRel φ p.1 m.key ∧ VRel φ p.2 m.val
  | _, _, .nil, h => by cases h
  | _, _, .cons (a := e) (b := m) he t, h => by
    simp only [bornGet] at h
    split at h
    · rename_i hb
      have hb := Nat.eq_of_beq_eq_true hb
      cases h
      exact ⟨m, by rw [List.find?_cons]; simp [← he.2.2, hb], he.1, he.2.1⟩
    · rename_i hb
      have hb := Nat.ne_of_beq_eq_false hb
      obtain ⟨q, hq, hr⟩ := bornGet_rel t h
      refine ⟨q, ?_, hr⟩
      rw [List.find?_cons]
      have : (m.born == n) = false := by rw [← he.2.2]; simpa using hb
      rw [this]; exact hq

def aEntry (H : Heap) (x : AVal) : Option AVal :=
  match x with
  | .ptr id 0 => (match H.get id with
    | some (.mapIter (some m) _ seen last) => (match H.get m, seen.getLast? with
      | some (.map es c), some n => (match Nat.beq c last with
        | true => (match bornGet n es with | some p => some (.tup [p.1, p.2]) | none => none)
        | false => none)
      | _, _ => none)
    | _ => none)
  | _ => none

theorem aEntry_rel {P : Program} {φ : Emb} {H : Heap} {w : World} {x r : AVal} {X : Value} (hh : HRel φ H w) (h : aEntry H x = some r) (hx : VRel φ x X) :
    ∃ R, (Instr.entry X).run P w = .ok R w ∧ VRel φ r R := by
  unfold aEntry at h
  split at h
  · rename_i id
    cases hx with
    | ptr e =>
      rename_i s
      split at h
      · rename_i m since seen last hg
        obtain ⟨o, ho, hr⟩ := hh.rows _ _ _ e hg (by simp)
        cases hr with
        | mapIter em hbase =>
          rename_i sm
          split at h
          · rename_i es c n hgm hlast
            obtain ⟨om, hom, hrm⟩ := hh.rows _ _ _ em hgm (by simp)
            cases hrm with
            | map hall =>
              rename_i ms
              split at h
              · rename_i hc
                have hc := Nat.eq_of_beq_eq_true hc
                subst hc
                split at h
                · rename_i p hp
                  cases h
                  obtain ⟨me, hf, h1, h2⟩ := bornGet_rel hall hp
                  refine ⟨.tuple #[me.key, me.val], ?_, .tup (vs := [me.key, me.val]) (.cons h1 (.cons h2 .nil))⟩
                  have hob := run_getObj_of (P := P) ho (by simp)
                  have hobm := run_getMap (P := P) hom
                  have hback : seen.toArray.back? = some n := by rw [List.back?_toArray]; exact hlast
                  have hfa : ms.find? (fun e => e.born == n) = some me := by
                    rcases ms with ⟨ml⟩
                    rw [List.find?_toArray]; exact hf
                  simp only [hbase, Nat.add_zero, Instr.entry, Sem.run_bind, hob, hobm, Result.andThen_ok, hback, bne_self_eq_false, Bool.false_eq_true, if_false, hfa, Sem.run_pure]
                · cases h
              · cases h
          · cases h
      · cases h
  · cases h

end
end Go.Proofs.YtbokoinmlbipmaaGreatDoor.Ev

-- EvStage
namespace Go.Proofs.YtbokoinmlbipmaaGreatDoor.Ev
noncomputable section

/-! ### Lists -/

def nthL (o : Nat) : List AVal → Option AVal := o.rec (motive := fun _ => List AVal → Option AVal) (fun l => List.rec (motive := fun _ => Option AVal) none (fun x _ _ => some x) l) (fun _ ih l => List.rec (motive := fun _ => Option AVal) none (fun _ t _ => ih t) l)
theorem nthL_eq : ∀ (o : Nat) (l : List AVal), nthL o l = l[o]?
  | 0, [] => rfl
  | 0, _ :: _ => rfl
  | o + 1, [] => rfl
  | o + 1, _ :: t => by show nthL o t = _; rw [nthL_eq o t]; rfl

def dropR (o : Nat) : List AVal → List AVal := o.rec (motive := fun _ => List AVal → List AVal) (fun l => l) (fun _ ih l => List.rec (motive := fun _ => List AVal) [] (fun _ t _ => ih t) l)
theorem dropR_eq : ∀ (o : Nat) (l : List AVal), dropR o l = l.drop o
  | 0, _ => rfl
  | o + 1, [] => rfl
  | o + 1, _ :: t => by show dropR o t = _; rw [dropR_eq o t]; rfl

def takeO (n : Nat) : List AVal → (List AVal → Option AVal) → Option AVal :=
  n.rec (motive := fun _ => List AVal → (List AVal → Option AVal) → Option AVal) (fun _ k => k []) (fun _ ih l k => List.rec (motive := fun _ => Option AVal) none (fun x t _ => ih t fun r => k (x :: r)) l)
theorem takeO_eq : ∀ (n : Nat) (l : List AVal) (k : List AVal → Option AVal), takeO n l k = if n ≤ l.length then k (l.take n) else none
  | 0, l, k => by
    show k [] = _
    simp
  | n + 1, [], k => by
    show none = _
    simp
  | n + 1, x :: t, k => by
    show takeO n t (fun r => k (x :: r)) = _
    rw [takeO_eq n t]
    simp

def putO (o : Nat) (v : AVal) : List AVal → (List AVal → Option Heap) → Option Heap :=
  o.rec (motive := fun _ => List AVal → (List AVal → Option Heap) → Option Heap) (fun l k => List.rec (motive := fun _ => Option Heap) none (fun _ t _ => k (v :: t)) l) (fun _ ih l k => List.rec (motive := fun _ => Option Heap) none (fun x t _ => ih t fun r => k (x :: r)) l)
theorem putO_eq (v : AVal) : ∀ (o : Nat) (l : List AVal) (k : List AVal → Option Heap), putO o v l k = if o < l.length then k (splice l o [v]) else none
  | 0, [], k => rfl
  | 0, x :: t, k => by
    show k (v :: t) = _
    simp [splice]
  | o + 1, [], k => rfl
  | o + 1, x :: t, k => by
    show putO o v t (fun r => k (x :: r)) = _
    rw [putO_eq v o t]
    by_cases h : o < t.length
    · have h2 : o + 1 < (x :: t).length := by simp; omega
      rw [if_pos h, if_pos h2]
      simp [splice]
    · have h2 : ¬ o + 1 < (x :: t).length := by simp; omega
      rw [if_neg h, if_neg h2]

/-! ### Whole numbers -/

def okN64 (r : Nat) : Option AVal := Bool.rec (motive := fun _ => Option AVal) (mkI .i64 (wrapF .i64 (.ofNat r))) (forceN r fun r => some (.int .i64 (.ofNat r))) (Nat.ble r 9223372036854775807)
def okNU (k : IntKind) (r : Nat) : Option AVal := mkI k (wrapF k (.ofNat r))
def okN (k : IntKind) (r : Nat) : Option AVal := IntKind.rec (motive := fun _ => Option AVal) (okNU .i8 r) (okNU .i16 r) (okNU .i32 r) (okN64 r) (okNU .u8 r) (okNU .u16 r) (okNU .u32 r) (okNU .u64 r) k
theorem okN_eq (k : IntKind) (r : Nat) : okN k r = mkI k (wrapF k (.ofNat r)) := by
  cases k <;> try rfl
  show okN64 r = _
  unfold okN64
  cases h : Nat.ble r 9223372036854775807 with
  | false => rfl
  | true =>
    have : wrapF .i64 (.ofNat r) = .ofNat r := by unfold wrapF fitsB; simp only [h]
    simp only [this, mkI_eq, forceN_eq]

/-- Two whole numbers, where both are from 0 on; else the other way. -/
def nat2 (a b : Int) (f : Nat → Nat → Option AVal) (g : Option AVal) : Option AVal :=
  Int.rec (motive := fun _ => Option AVal) (fun m => Int.rec (motive := fun _ => Option AVal) (fun n => f m n) (fun _ => g) b) (fun _ => g) a
def addI (k : IntKind) (a b : Int) : Option AVal := nat2 a b (fun m n => okN k (Nat.add m n)) (aArith .add k a b)
theorem addI_eq (k : IntKind) (a b : Int) : addI k a b = aArith .add k a b := by
  cases a <;> cases b <;> simp only [addI, nat2] <;> first | rfl | (rw [okN_eq]; rfl)

def subI (k : IntKind) (a b : Int) : Option AVal := nat2 a b (fun m n => Bool.rec (motive := fun _ => Option AVal) (aArith .sub k a b) (okN k (Nat.sub m n)) (Nat.ble n m)) (aArith .sub k a b)
theorem subI_eq (k : IntKind) (a b : Int) : subI k a b = aArith .sub k a b := by
  cases a with
  | negSucc m => rfl
  | ofNat m =>
    cases b with
    | negSucc n => rfl
    | ofNat n =>
      simp only [subI, nat2]
      cases h : Nat.ble n m with
      | false => rfl
      | true =>
        simp only [okN_eq]
        have h := Nat.le_of_ble_eq_true h
        have e : Int.sub (Int.ofNat m) (Int.ofNat n) = Int.ofNat (Nat.sub m n) := by
          show (m : Int) - (n : Int) = ((m - n : Nat) : Int)
          omega
        simp only [aArith, e]

def mulI (k : IntKind) (a b : Int) : Option AVal := nat2 a b (fun m n => okN k (Nat.mul m n)) (aArith .mul k a b)
theorem mulI_eq (k : IntKind) (a b : Int) : mulI k a b = aArith .mul k a b := by
  cases a <;> cases b <;> simp only [mulI, nat2] <;> first | rfl | (rw [okN_eq]; rfl)

def quoI (k : IntKind) (a b : Int) : Option AVal := nat2 a b (fun m n => Bool.rec (motive := fun _ => Option AVal) (okN k (Nat.div m n)) none (Nat.beq n 0)) (aArith .quo k a b)
theorem quoI_eq (k : IntKind) (a b : Int) : quoI k a b = aArith .quo k a b := by
  cases a with
  | negSucc m => rfl
  | ofNat m =>
    cases b with
    | negSucc n => rfl
    | ofNat n =>
      have h : eqZ (Int.ofNat n) 0 = Nat.beq n 0 := rfl
      simp only [quoI, nat2, aArith, h]
      cases Nat.beq n 0 with
      | true => rfl
      | false => simp only [okN_eq]; rfl

def remI (k : IntKind) (a b : Int) : Option AVal := nat2 a b (fun m n => Bool.rec (motive := fun _ => Option AVal) (forceN (Nat.mod m n) fun r => some (.int k (.ofNat r))) none (Nat.beq n 0)) (aArith .rem k a b)
theorem remI_eq (k : IntKind) (a b : Int) : remI k a b = aArith .rem k a b := by
  cases a with
  | negSucc m => rfl
  | ofNat m =>
    cases b with
    | negSucc n => rfl
    | ofNat n =>
      have h : eqZ (Int.ofNat n) 0 = Nat.beq n 0 := rfl
      simp only [remI, nat2, aArith, h]
      cases Nat.beq n 0 with
      | true => rfl
      | false => simp only [forceN_eq, mkI_eq]; rfl

theorem ble_of_le {m n : Nat} (h : m ≤ n) : Nat.ble m n = true := by rw [Nat.ble_eq]; exact h

theorem ble_succ (m n : Nat) : Nat.ble (Nat.succ m) n = !(Nat.ble n m) := by
  rw [Bool.eq_iff_iff]
  simp only [Bool.not_eq_true', Nat.ble_eq]
  constructor
  · intro h
    cases e : Nat.ble n m with
    | false => rfl
    | true => have := Nat.le_of_ble_eq_true e; omega
  · intro h
    apply Classical.byContradiction
    intro hn
    have : Nat.ble n m = true := ble_of_le (by omega)
    rw [h] at this; cases this

def ltI (k : IntKind) (a b : Int) : Option AVal := nat2 a b (fun m n => mkB (Nat.ble (Nat.succ m) n)) (aArith .lss k a b)
theorem ltI_eq (k : IntKind) (a b : Int) : ltI k a b = aArith .lss k a b := by
  cases a <;> cases b <;> simp only [ltI, nat2] <;> first | rfl | simp only [aArith, leZ, ble_succ]
def leI (k : IntKind) (a b : Int) : Option AVal := nat2 a b (fun m n => mkB (Nat.ble m n)) (aArith .leq k a b)
theorem leI_eq (k : IntKind) (a b : Int) : leI k a b = aArith .leq k a b := by
  cases a <;> cases b <;> simp only [leI, nat2] <;> first | rfl | simp only [aArith, leZ]
def gtI (k : IntKind) (a b : Int) : Option AVal := nat2 a b (fun m n => mkB (Nat.ble (Nat.succ n) m)) (aArith .gtr k a b)
theorem gtI_eq (k : IntKind) (a b : Int) : gtI k a b = aArith .gtr k a b := by
  cases a <;> cases b <;> simp only [gtI, nat2] <;> first | rfl | simp only [aArith, leZ, ble_succ]
def geI (k : IntKind) (a b : Int) : Option AVal := nat2 a b (fun m n => mkB (Nat.ble n m)) (aArith .geq k a b)
theorem geI_eq (k : IntKind) (a b : Int) : geI k a b = aArith .geq k a b := by
  cases a <;> cases b <;> simp only [geI, nat2] <;> first | rfl | simp only [aArith, leZ]
def eqI (k : IntKind) (a b : Int) : Option AVal := nat2 a b (fun m n => mkB (Nat.beq m n)) (aArith .eql k a b)
theorem eqI_eq (k : IntKind) (a b : Int) : eqI k a b = aArith .eql k a b := by
  cases a <;> cases b <;> rfl
def neI (k : IntKind) (a b : Int) : Option AVal := nat2 a b (fun m n => mkB (!(Nat.beq m n))) (aArith .neq k a b)
theorem neI_eq (k : IntKind) (a b : Int) : neI k a b = aArith .neq k a b := by
  cases a <;> cases b <;> rfl

abbrev BinB := Box (AVal → AVal → Option AVal)

def binI (f : IntKind → Int → Int → Option AVal) (g : AVal → AVal → Option AVal) : BinB :=
  ⟨fun x y => onIntD x (fun k a => onIntD y (fun k' b => Bool.rec (motive := fun _ => Option AVal) none (f k a b) (sameK k k')) none) (g x y)⟩

def binB (P : Program) (op : BinOp) (t : TypeId) (c : Bool) : BinB := match op with
  | .add => binI addI (aBin P .add t c)
  | .sub => binI subI (aBin P .sub t c)
  | .mul => binI mulI (aBin P .mul t c)
  | .quo => binI quoI (aBin P .quo t c)
  | .rem => binI remI (aBin P .rem t c)
  | .lss => binI ltI (aBin P .lss t c)
  | .leq => binI leI (aBin P .leq t c)
  | .gtr => binI gtI (aBin P .gtr t c)
  | .geq => binI geI (aBin P .geq t c)
  | .eql => binI eqI (aBin P .eql t c)
  | .neq => binI neI (aBin P .neq t c)
  | op => ⟨aBin P op t c⟩

theorem binI_eq {P : Program} {op : BinOp} {t : TypeId} {c : Bool} {f : IntKind → Int → Int → Option AVal} (hs : isShift op = false) (hf : ∀ k a b, f k a b = aArith op k a b) (x y : AVal) :
    (binI f (aBin P op t c)).val x y = aBin P op t c x y := by
  unfold binI
  cases x <;> try rfl
  rename_i k a
  simp only [aBin, hs]
  cases y <;> try rfl
  rename_i k' b
  show Bool.rec (motive := fun _ => Option AVal) none (f k a b) (sameK k k') = (match sameK k k' with | true => aArith op k a b | false => none)
  cases sameK k k' with
  | true => exact hf k a b
  | false => rfl

theorem binB_eq (P : Program) (op : BinOp) (t : TypeId) (c : Bool) (x y : AVal) : (binB P op t c).val x y = aBin P op t c x y := by
  cases op
  case add => exact binI_eq rfl addI_eq x y
  case sub => exact binI_eq rfl subI_eq x y
  case mul => exact binI_eq rfl mulI_eq x y
  case quo => exact binI_eq rfl quoI_eq x y
  case rem => exact binI_eq rfl remI_eq x y
  case lss => exact binI_eq rfl ltI_eq x y
  case leq => exact binI_eq rfl leI_eq x y
  case gtr => exact binI_eq rfl gtI_eq x y
  case geq => exact binI_eq rfl geI_eq x y
  case eql => exact binI_eq rfl eqI_eq x y
  case neq => exact binI_eq rfl neI_eq x y
  all_goals rfl

/-! ### Memory -/

def loadB (P : Program) (t : TypeId) : Box (Heap → AVal → Option AVal) := match aggB P t with
  | some b => (match b with
    | false => ⟨fun H x => onPtr x fun id o => Option.rec (motive := fun _ => Option AVal) none (fun l => nthL o l) (H.cells id)⟩
    | true => (match sizeB P t with
      | some (n + 1) => ⟨fun H x => onPtr x fun id o => Option.rec (motive := fun _ => Option AVal) none (fun l => takeO (Nat.succ n) (dropR o l) fun c => some (.agg c)) (H.cells id)⟩
      | _ => ⟨fun H x => aLoad P H t x⟩))
  | none => ⟨fun H x => aLoad P H t x⟩

theorem loadB_eq (P : Program) (t : TypeId) (H : Heap) (x : AVal) : (loadB P t).val H x = aLoad P H t x := by
  unfold loadB
  cases ha : aggB P t with
  | none => rfl
  | some b =>
    cases b with
    | false =>
      simp only
      unfold aLoad
      congr 1
      funext id o
      cases H.cells id with
      | none => rfl
      | some l => simp only [ha, nthL_eq]
    | true =>
      simp only
      cases hs : sizeB P t with
      | none => rfl
      | some n =>
        cases n with
        | zero => rfl
        | succ n =>
          simp only
          unfold aLoad
          congr 1
          funext id o
          cases H.cells id with
          | none => rfl
          | some l =>
            simp only [ha, hs, takeO_eq, dropR_eq, List.length_drop]
            cases hb : Nat.ble (Nat.add o (n + 1)) l.length with
            | true =>
              have h : o + (n + 1) ≤ l.length := Nat.le_of_ble_eq_true hb
              rw [if_pos (by omega)]
            | false =>
              rw [if_neg ?_]
              intro h
              have : Nat.ble (Nat.add o (n + 1)) l.length = true := ble_of_le (by show o + (n + 1) ≤ _; omega)
              rw [hb] at this; cases this

def onPtrH (x : AVal) (f : Nat → Nat → Option Heap) : Option Heap := match x with | .ptr i o => f i o | _ => none

def storeB (P : Program) (t : TypeId) : Box (Heap → AVal → AVal → Option Heap) := match sizeB P t with
  | some 1 => ⟨fun H x v => onPtrH x fun id o => (match scalarB v with
      | true => (match H.get id with
        | some r => (match r with
          | .cells e l opn fz sm => (match Nat.ble fz o with
            | true => putO o v l fun l' => some (H.set id (.cells e l' opn fz sm))
            | false => none)
          | _ => none)
        | none => none)
      | false => aStore P H t (.ptr id o) v)⟩
  | _ => ⟨fun H x v => aStore P H t x v⟩

theorem storeB_eq (P : Program) (t : TypeId) (H : Heap) (x v : AVal) : (storeB P t).val H x v = aStore P H t x v := by
  unfold storeB
  split
  · rename_i hs
    simp only
    cases x <;> try rfl
    rename_i id o
    simp only [onPtrH]
    split
    · rename_i hv
      have hc : v.cells = [v] := by cases v <;> first | rfl | cases hv
      simp only [aStore, hs, hc, List.length_cons, List.length_nil]
      simp only [aStoreCells]
      cases hg : H.get id with
      | none => rfl
      | some r =>
        cases r <;> try rfl
        rename_i e l opn fz sm
        simp only [List.length_cons, List.length_nil, List.all_cons, List.all_nil, hv, Bool.and_true]
        cases hf : Nat.ble fz o with
        | false => simp
        | true =>
          simp only [putO_eq, Bool.true_and]
          cases hb : Nat.ble (Nat.add o (0 + 1)) l.length with
          | true =>
            have h : o < l.length := Nat.le_of_ble_eq_true hb
            rw [if_pos h]
          | false =>
            rw [if_neg ?_]
            intro h
            have : Nat.ble (Nat.add o (0 + 1)) l.length = true := ble_of_le h
            rw [hb] at this; cases this
    · rfl
  · rfl

/-! ### Places -/

def addrO (off : Nat) : Box (AVal → Option AVal) := ⟨fun x => onPtr x fun i o => forceN (Nat.add o off) fun q => some (.ptr i q)⟩

def fieldAddrB (P : Program) (t : TypeId) (f : Nat) : Box (AVal → Option AVal) := match P.underlying t with
  | some (.struct fs) => (match fs[f]? with
    | some fd => (match sizeB P fd.type with
      | some (_ + 1) => addrO fd.offset
      | _ => ⟨fun _ => none⟩)
    | none => ⟨fun _ => none⟩)
  | _ => ⟨fun _ => none⟩

theorem fieldAddrB_eq (P : Program) (t : TypeId) (f : Nat) (x : AVal) : (fieldAddrB P t f).val x = aFieldAddr P t f x := by
  unfold fieldAddrB aFieldAddr
  cases hu : P.underlying t with
  | none => rfl
  | some u =>
    cases u <;> try rfl
    rename_i fs
    simp only
    cases hf : fs[f]? with
    | none => rfl
    | some fd =>
      simp only
      cases hs : sizeB P fd.type with
      | none => rfl
      | some n => cases n <;> rfl

def partB (P : Program) (t : TypeId) (off : Nat) : Box (List AVal → Option AVal) := match aggB P t with
  | some b => (match b with
    | true => (match sizeB P t with | some n => ⟨fun l => some (.agg ((dropR off l).take n))⟩ | none => ⟨fun _ => none⟩)
    | false => ⟨fun l => nthL off l⟩)
  | none => ⟨fun _ => none⟩

theorem partB_eq (P : Program) (t : TypeId) (off : Nat) (l : List AVal) : (partB P t off).val l = aPart P t l off := by
  unfold partB aPart
  cases aggB P t with
  | none => rfl
  | some b =>
    cases b with
    | true =>
      simp only
      cases sizeB P t with
      | none => rfl
      | some n => simp only [dropR_eq]
    | false => simp only [nthL_eq]

def fieldB (P : Program) (t : TypeId) (f : Nat) : Box (AVal → Option AVal) := match P.underlying t with
  | some (.struct fs) => (match fs[f]? with
    | some fd => ⟨fun x => onAgg x (partB P fd.type fd.offset).val⟩
    | none => ⟨fun _ => none⟩)
  | _ => ⟨fun _ => none⟩

theorem fieldB_eq (P : Program) (t : TypeId) (f : Nat) (x : AVal) : (fieldB P t f).val x = aField P t x f := by
  unfold fieldB aField
  cases hu : P.underlying t with
  | none => rfl
  | some u =>
    cases u <;> try rfl
    rename_i fs
    simp only
    cases hf : fs[f]? with
    | none => rfl
    | some fd =>
      simp only
      congr 1
      funext l
      exact partB_eq P _ _ l

def natI (i : AVal) (f : Nat → Option AVal) : Option AVal := match i with
  | .int _ z => (match z with | .ofNat j => f j | .negSucc _ => none)
  | _ => none

theorem natI_eq (i : AVal) (f : Nat → Option AVal) : natI i f = onInt i fun _ z => match natOf z with | some j => f j | none => none := by
  cases i <;> try rfl
  rename_i k z
  cases z <;> rfl

def idxSlice (s : Nat) : BinB := ⟨fun x i => natI i fun j => onSl x fun id o n => (match Nat.ble (Nat.succ j) n with
  | true => forceN (Nat.add o (Nat.mul j s)) fun q => some (.ptr id q)
  | false => none)⟩

def indexAddrB (P : Program) (t : TypeId) : BinB := match P.underlying t with
  | some (.slice e) => (match sizeB P e with
    | some s => idxSlice s
    | none => ⟨fun _ _ => none⟩)
  | _ => ⟨fun x i => aIndexAddr P t x i⟩

theorem indexAddrB_eq (P : Program) (t : TypeId) (x i : AVal) : (indexAddrB P t).val x i = aIndexAddr P t x i := by
  unfold indexAddrB
  split
  · rename_i e hu
    unfold aIndexAddr
    simp only [hu]
    cases sizeB P e with
    | none => rfl
    | some s =>
      simp only [idxSlice, natI_eq]
      rfl
  · rfl

def lenB (P : Program) (t : TypeId) : Box (AVal → Option AVal) := match P.underlying t with
  | some (.slice _) => ⟨fun x => (match x with
    | .slice _ _ n _ => forceN n fun n => some (.int .i64 (.ofNat n))
    | .sliceO _ _ n _ => forceN n fun n => some (.int .i64 (.ofNat n))
    | .nils => some (.int .i64 (.ofNat 0))
    | _ => none)⟩
  | _ => ⟨fun x => aLen P t x⟩

theorem lenB_eq (P : Program) (t : TypeId) (x : AVal) : (lenB P t).val x = aLen P t x := by
  unfold lenB
  split
  · rename_i e hu
    unfold aLen
    simp only [hu]
    cases x <;> simp only [forceN_eq, mkI_eq] <;> rfl
  · rfl

/-! ### Conversions between whole numbers -/

def convI (k : IntKind) : Box (AVal → Option AVal) := ⟨fun x => (match x with
  | .int _ z => (match z with | .ofNat n => okN k n | .negSucc n => mkI k (wrapF k (.negSucc n)))
  | _ => none)⟩

theorem convI_eq {P : Program} {s d : TypeId} {k : IntKind} {u : TypeDesc} (hs : P.underlying s = some u) (hd : P.underlying d = some (.int k)) (x : AVal) : (convI k).val x = aConv P s d x := by
  unfold convI aConv
  simp only [hs, hd]
  cases x <;> try rfl
  rename_i k' z
  cases z <;> simp only [onInt, okN_eq]

end
end Go.Proofs.YtbokoinmlbipmaaGreatDoor.Ev

-- EvStage2
namespace Go.Proofs.YtbokoinmlbipmaaGreatDoor.Ev
noncomputable section

/-! ### Lists, straight by the recursor; what is built is handed on whole -/

def lenR (l : List AVal) : Nat := List.rec (motive := fun _ => Nat) 0 (fun _ _ ih => Nat.succ ih) l
theorem lenR_eq : ∀ l : List AVal, lenR l = l.length
  | [] => rfl
  | _ :: t => by show Nat.succ (lenR t) = _; rw [lenR_eq t]; rfl

def takeP {β : Type} (n : Nat) : List AVal → (List AVal → Option β) → Option β :=
  n.rec (motive := fun _ => List AVal → (List AVal → Option β) → Option β) (fun _ k => k []) (fun _ ih l k => List.rec (motive := fun _ => Option β) none (fun x t _ => ih t fun r => k (x :: r)) l)
theorem takeP_eq {β : Type} : ∀ (n : Nat) (l : List AVal) (k : List AVal → Option β), takeP n l k = if n ≤ l.length then k (l.take n) else none
  | 0, l, k => by
    show k [] = _
    simp
  | n + 1, [], k => by
    show none = _
    simp
  | n + 1, x :: t, k => by
    show takeP n t (fun r => k (x :: r)) = _
    rw [takeP_eq n t]
    simp

def takeK (n : Nat) : List AVal → (List AVal → Option AVal) → Option AVal :=
  n.rec (motive := fun _ => List AVal → (List AVal → Option AVal) → Option AVal) (fun _ k => k []) (fun _ ih l k => List.rec (motive := fun _ => Option AVal) (k []) (fun x t _ => ih t fun r => k (x :: r)) l)
theorem takeK_eq : ∀ (n : Nat) (l : List AVal) (k : List AVal → Option AVal), takeK n l k = k (l.take n)
  | 0, l, k => by
    show k [] = _
    simp
  | n + 1, [], k => by
    show k [] = _
    simp
  | n + 1, x :: t, k => by
    show takeK n t (fun r => k (x :: r)) = _
    rw [takeK_eq n t]
    simp

def appO {β : Type} (xs ys : List AVal) (k : List AVal → Option β) : Option β :=
  List.rec (motive := fun _ => (List AVal → Option β) → Option β) (fun k => k ys) (fun x _ ih k => ih fun r => k (x :: r)) xs k
theorem appO_eq {β : Type} : ∀ (xs ys : List AVal) (k : List AVal → Option β), appO xs ys k = k (xs ++ ys)
  | [], _, _ => rfl
  | x :: t, ys, k => by
    show appO t ys (fun r => k (x :: r)) = _
    rw [appO_eq t ys]; rfl

/-- The list's beginning turned into other cells. -/
def overO {β : Type} (vs : List AVal) : List AVal → (List AVal → Option β) → Option β :=
  List.rec (motive := fun _ => List AVal → (List AVal → Option β) → Option β) (fun l k => k l) (fun v _ ih l k => List.rec (motive := fun _ => Option β) none (fun _ t _ => ih t fun r => k (v :: r)) l) vs
theorem overO_eq {β : Type} : ∀ (vs l : List AVal) (k : List AVal → Option β), overO vs l k = if vs.length ≤ l.length then k (vs ++ l.drop vs.length) else none
  | [], l, k => by
    show k l = _
    simp
  | v :: vs, [], k => by
    show none = _
    simp
  | v :: vs, x :: t, k => by
    show overO vs t (fun r => k (v :: r)) = _
    rw [overO_eq vs t]
    simp

def putsO {β : Type} (o : Nat) (vs : List AVal) : List AVal → (List AVal → Option β) → Option β :=
  o.rec (motive := fun _ => List AVal → (List AVal → Option β) → Option β) (fun l k => overO vs l k) (fun _ ih l k => List.rec (motive := fun _ => Option β) none (fun x t _ => ih t fun r => k (x :: r)) l)
theorem putsO_eq {β : Type} (v : AVal) (vs : List AVal) : ∀ (o : Nat) (l : List AVal) (k : List AVal → Option β), putsO o (v :: vs) l k = if o + (v :: vs).length ≤ l.length then k (splice l o (v :: vs)) else none
  | 0, l, k => by
    show overO (v :: vs) l k = _
    rw [overO_eq]
    simp [splice]
  | o + 1, [], k => by
    show none = _
    simp
  | o + 1, x :: t, k => by
    show putsO o (v :: vs) t (fun r => k (x :: r)) = _
    rw [putsO_eq v vs o t]
    by_cases h : o + (v :: vs).length ≤ t.length
    · rw [if_pos h, if_pos (by simp at h ⊢; omega)]
      congr 1
      have e : o + 1 + (v :: vs).length = (o + (v :: vs).length) + 1 := by omega
      simp only [splice, e, List.take_succ_cons, List.drop_succ_cons, List.cons_append]
    · rw [if_neg h, if_neg (by simp at h ⊢; omega)]

def scalarR (x : AVal) : Bool := AVal.rec (motive_1 := fun _ => Bool) (motive_2 := fun _ => Unit) (fun _ => true) (fun _ _ => true) (fun _ _ => true) (fun _ _ => true) true (fun _ _ _ _ => true) (fun _ _ _ _ => true) true (fun _ => true) true (fun _ _ _ _ _ => true) (fun _ => true) true (fun _ _ _ => true) true (fun _ _ => false) (fun _ _ => false) () (fun _ _ _ _ => ()) x
theorem scalarR_eq (x : AVal) : scalarR x = scalarB x := by cases x <;> rfl

def allR (l : List AVal) : Bool := List.rec (motive := fun _ => Bool) true (fun x _ ih => Bool.rec (motive := fun _ => Bool) false ih (scalarR x)) l
theorem allR_eq : ∀ l : List AVal, allR l = l.all scalarB
  | [] => rfl
  | x :: t => by
    show Bool.rec (motive := fun _ => Bool) false (allR t) (scalarR x) = _
    rw [scalarR_eq, allR_eq t, List.all_cons]
    cases scalarB x <;> rfl

def cellsR (x : AVal) : List AVal := AVal.rec (motive_1 := fun _ => List AVal) (motive_2 := fun _ => Unit) (fun _ => [x]) (fun _ _ => [x]) (fun _ _ => [x]) (fun _ _ => [x]) [x] (fun _ _ _ _ => [x]) (fun _ _ _ _ => [x]) [x] (fun _ => [x]) [x] (fun _ _ _ _ _ => [x]) (fun _ => [x]) [x] (fun _ _ _ => [x]) [x] (fun l _ => l) (fun _ _ => [x]) () (fun _ _ _ _ => ()) x
theorem cellsR_eq (x : AVal) : cellsR x = x.cells := by cases x <;> rfl

def guardH (b : Bool) (x : Option Heap) : Option Heap := Bool.rec (motive := fun _ => Option Heap) none x b

/-! ### Stores of structs -/

def rowStore (H : Heap) (id o : Nat) (vs : List AVal) (r : Row) : Option Heap := Row.rec (motive := fun _ => Option Heap)
  (fun e l opn fz sm => guardH (Nat.ble fz o) (putsO o vs l fun l' => some (H.set id (.cells e l' opn fz sm))))
  (fun _ => none) (fun _ _ => none) (fun _ _ _ _ => none) (fun _ _ _ => none) (fun _ _ _ _ _ _ _ _ _ => none) (fun _ => none) none r

def storeB2 (P : Program) (t : TypeId) : Box (Heap → AVal → AVal → Option Heap) := match sizeB P t with
  | some (n + 1) => ⟨fun H x v => onPtrH x fun id o => guardH (Nat.beq (lenR (cellsR v)) (Nat.succ n)) (guardH (allR (cellsR v)) (Option.rec (motive := fun _ => Option Heap) none (fun r => rowStore H id o (cellsR v) r) (H.get id)))⟩
  | _ => ⟨fun H x v => aStore P H t x v⟩

theorem storeB2_eq (P : Program) (t : TypeId) (H : Heap) (x v : AVal) : (storeB2 P t).val H x v = aStore P H t x v := by
  unfold storeB2
  split
  · rename_i n hs
    cases x <;> try rfl
    rename_i id o
    simp only [onPtrH, aStore, hs, cellsR_eq, lenR_eq, allR_eq]
    cases hb : Nat.beq v.cells.length (n + 1) with
    | false => rfl
    | true =>
      have hlen := Nat.eq_of_beq_eq_true hb
      generalize hvs : v.cells = vs at *
      cases vs with
      | nil => simp at hlen
      | cons v0 vs =>
        simp only [guardH, aStoreCells]
        cases ha : (v0 :: vs).all scalarB with
        | false =>
          simp only [Bool.and_false]
          cases H.get id with
          | none => rfl
          | some r => cases r <;> rfl
        | true =>
          simp only [Bool.and_true]
          cases H.get id with
          | none => rfl
          | some r =>
            cases r <;> try rfl
            rename_i e l opn fz sm
            simp only [rowStore, guardH, putsO_eq]
            cases hf : Nat.ble fz o with
            | false => simp
            | true =>
              simp only [Bool.true_and]
              cases hc : Nat.ble (Nat.add o (v0 :: vs).length) l.length with
              | true =>
                have h : o + (v0 :: vs).length ≤ l.length := Nat.le_of_ble_eq_true hc
                rw [if_pos h]
              | false =>
                rw [if_neg ?_]
                intro h
                have : Nat.ble (Nat.add o (v0 :: vs).length) l.length = true := ble_of_le h
                rw [hc] at this; cases this
  · rfl

/-! ### Parts of structs -/

def partB2 (P : Program) (t : TypeId) (off : Nat) : Box (List AVal → Option AVal) := match aggB P t with
  | some b => (match b with
    | true => (match sizeB P t with | some n => ⟨fun l => takeK n (dropR off l) fun c => some (.agg c)⟩ | none => ⟨fun _ => none⟩)
    | false => ⟨fun l => nthL off l⟩)
  | none => ⟨fun _ => none⟩

theorem partB2_eq (P : Program) (t : TypeId) (off : Nat) (l : List AVal) : (partB2 P t off).val l = aPart P t l off := by
  unfold partB2 aPart
  cases aggB P t with
  | none => rfl
  | some b =>
    cases b with
    | true =>
      simp only
      cases sizeB P t with
      | none => rfl
      | some n => simp only [dropR_eq, takeK_eq]
    | false => simp only [nthL_eq]

def fieldB2 (P : Program) (t : TypeId) (f : Nat) : Box (AVal → Option AVal) := match P.underlying t with
  | some (.struct fs) => (match fs[f]? with
    | some fd => ⟨fun x => onAgg x (partB2 P fd.type fd.offset).val⟩
    | none => ⟨fun _ => none⟩)
  | _ => ⟨fun _ => none⟩

theorem fieldB2_eq (P : Program) (t : TypeId) (f : Nat) (x : AVal) : (fieldB2 P t f).val x = aField P t x f := by
  unfold fieldB2 aField
  cases hu : P.underlying t with
  | none => rfl
  | some u =>
    cases u <;> try rfl
    rename_i fs
    simp only
    cases hf : fs[f]? with
    | none => rfl
    | some fd =>
      simp only
      congr 1
      funext l
      exact partB2_eq P _ _ l

/-! ### Structs built -/

def nthP (l : List (Nat × Nat)) (o : Nat) : Option (Nat × Nat) := o.rec (motive := fun _ => List (Nat × Nat) → Option (Nat × Nat)) (fun l => List.rec (motive := fun _ => Option (Nat × Nat)) none (fun x _ _ => some x) l) (fun _ ih l => List.rec (motive := fun _ => Option (Nat × Nat)) none (fun _ t _ => ih t) l) l
theorem nthP_eq : ∀ (o : Nat) (l : List (Nat × Nat)), nthP l o = l[o]?
  | 0, [] => rfl
  | 0, _ :: _ => rfl
  | o + 1, [] => rfl
  | o + 1, _ :: t => by show nthP t o = _; rw [nthP_eq o t]; rfl

def fillO (place : Nat → Option (Nat × Nat)) (ps : List (Nat × AVal)) (k : List AVal → Option AVal) : List AVal → Option AVal :=
  List.rec (motive := fun _ => List AVal → Option AVal) (fun cells => k cells) (fun p _ ih cells => Option.rec (motive := fun _ => Option AVal) none (fun q =>
    Bool.rec (motive := fun _ => Option AVal) (Option.rec (motive := fun _ => Option AVal) none (fun c => ih c) (aFill place cells [p]))
      (Bool.rec (motive := fun _ => Option AVal) none (putsO q.1 (cellsR p.2) cells fun c => ih c) (Nat.beq (lenR (cellsR p.2)) q.2)) (Nat.blt 0 (lenR (cellsR p.2)))) (place p.1)) ps

theorem fillO_eq (place : Nat → Option (Nat × Nat)) (k : List AVal → Option AVal) : ∀ (ps : List (Nat × AVal)) (cells : List AVal), fillO place ps k cells = match aFill place cells ps with | some out => k out | none => none
  | [], cells => rfl
  | p :: rest, cells => by
    show Option.rec (motive := fun _ => Option AVal) none (fun q =>
      Bool.rec (motive := fun _ => Option AVal) (Option.rec (motive := fun _ => Option AVal) none (fun c => fillO place rest k c) (aFill place cells [p]))
        (Bool.rec (motive := fun _ => Option AVal) none (putsO q.1 (cellsR p.2) cells fun c => fillO place rest k c) (Nat.beq (lenR (cellsR p.2)) q.2)) (Nat.blt 0 (lenR (cellsR p.2)))) (place p.1) = _
    simp only [aFill, lenR_eq, cellsR_eq]
    cases hp : place p.1 with
    | none => rfl
    | some q =>
      simp only
      cases hz : Nat.blt 0 p.2.cells.length with
      | false =>
        simp only
        cases hb : (Nat.beq p.2.cells.length q.2 && Nat.ble (q.1 + p.2.cells.length) cells.length) with
        | false => rfl
        | true => exact fillO_eq place k rest _
      | true =>
        simp only
        generalize hvs : p.2.cells = vs at *
        cases vs with
        | nil => cases hz
        | cons v vs =>
          cases hb : Nat.beq (v :: vs).length q.2 with
          | false => rfl
          | true =>
            simp only [putsO_eq, Bool.true_and]
            cases hc : Nat.ble (q.1 + (v :: vs).length) cells.length with
            | true =>
              have h : q.1 + (v :: vs).length ≤ cells.length := Nat.le_of_ble_eq_true hc
              rw [if_pos h]
              exact fillO_eq place k rest _
            | false =>
              rw [if_neg ?_]
              intro h
              have := ble_of_le h
              rw [hc] at this; cases this

def buildB (P : Program) (t : TypeId) : Box (List (Nat × AVal) → Option AVal) := match zeroB P t with
  | some z => (match P.underlying t with
    | some (.struct fs) => (match fieldPlaces P fs.toList with
      | some l => ⟨fun ps => fillO (fun i => nthP l i) ps (fun out => some (.agg out)) (cellsR z)⟩
      | none => ⟨fun _ => none⟩)
    | _ => ⟨fun ps => aBuild P t ps⟩)
  | none => ⟨fun _ => none⟩

theorem buildB_eq (P : Program) (t : TypeId) (ps : List (Nat × AVal)) : (buildB P t).val ps = aBuild P t ps := by
  unfold buildB
  cases hz : zeroB P t with
  | none => unfold aBuild; rw [hz]
  | some z =>
    simp only
    split
    · rename_i fs hu
      unfold aBuild
      simp only [hz, hu]
      cases hf : fieldPlaces P fs.toList with
      | none => rfl
      | some l =>
        simp only [fillO_eq, cellsR_eq]
        have : (fun i => nthP l i) = (fun i => l[i]?) := funext fun i => nthP_eq i l
        rw [this]
        try (cases aFill (fun i => l[i]?) z.cells ps <;> rfl)
    · rfl

/-! ### Bytes of strings -/

def indexB (P : Program) (t : TypeId) : BinB := match P.underlying t with
  | some .string => ⟨fun x i => natI i fun j => onStr x fun n v => Bool.rec (motive := fun _ => Option AVal) none (mkI .u8 (Int.ofNat (byteAt v j))) (inB j n)⟩
  | _ => ⟨fun x i => aIndex P t x i⟩

theorem indexB_eq (P : Program) (t : TypeId) (x i : AVal) : (indexB P t).val x i = aIndex P t x i := by
  unfold indexB
  split
  · rename_i hu
    unfold aIndex
    simp only [hu, natI_eq]
    congr 1
    funext k z
    cases natOf z with
    | none => rfl
    | some j =>
      simp only
      congr 1
      funext n v
      cases inB j n <;> rfl
  · rfl

/-! ### append -/

/-- A slice's cells, handed on whole. -/
def slCellsO {β : Type} (H : Heap) (s : Nat) (y : AVal) (k : Nat → List AVal → Option β) : Option β :=
  match slCells H s y with
  | some p => k p.1 p.2
  | none => none

end
end Go.Proofs.YtbokoinmlbipmaaGreatDoor.Ev

-- EvDefs
namespace Go.Proofs.YtbokoinmlbipmaaGreatDoor.Ev
noncomputable section

/-! ### Bytes and strings -/

def packI : List AVal → Option Nat
  | [] => some 0
  | v :: l => (match v with
    | .int .u8 (.ofNat b) => (match inB b 256, packI l with
      | true, some r => some (Nat.add b (Nat.mul 256 r))
      | _, _ => none)
    | _ => none)

def isStr : AVal → Bool
  | .str _ _ => true
  | _ => false

/-- Conversions that touch memory. -/
def aConvM (P : Program) (H : Heap) (src dst : TypeId) (x : AVal) : Option (AVal × Heap) :=
  match P.underlying src with
  | some .string => (match P.underlying dst with
    | some (.slice e) => (match P.underlying e with
      | some (.int .u8) => (match x with
        | .str n v => (match Nat.ble (Nat.succ H.next) Heap.lim && Nat.ble n 4611686018427387904 with
          | true => some (.sliceO H.next 0 n 1, H.push (.cells e (bytesI n v) true 0 true))
          | false => none)
        | _ => none)
      | _ => none)
    | _ => none)
  | some (.slice e) => (match P.underlying dst with
    | some .string => (match P.underlying e with
      | some (.int .u8) => (match isStr x with
        | true => none
        | false => (match slCells H 1 x with
          | some (n, ys) => (match packI ys with
            | some v => forceN v fun v => some (.str n v, H)
            | none => none)
          | none => none))
      | _ => none)
    | _ => none)
  | some (.pointer t) => (match P.underlying dst with
    | some .unsafePointer => (match x with
      | .nilp => some (.nilp, H)
      | .ptr id o => (match H.cells id with
        | some l => (match sizeB P t with
          | some (_ + 1) => (match inB o l.length with | true => some (.ptr id o, H) | false => none)
          | _ => none)
        | none => none)
      | _ => none)
    | _ => none)
  | some .unsafePointer => (match P.underlying dst with
    | some (.pointer u) => (match x with
      | .nilp => some (.nilp, H)
      | .ptr id o => (match H.get id with
        | some (.cells e l false _ _) => (match sizeB P u with
          | some (_ + 1) => (match liesAt P P.depth e (l.length / P.cellsOf e) o u 1 with
            | true => some (.ptr id o, H)
            | false => none)
          | _ => none)
        | _ => none)
      | _ => none)
    | _ => none)
  | _ => none

def aCopy (P : Program) (H : Heap) (ts : Array TypeId) (x y : AVal) : Option (AVal × Heap) :=
  match ts[0]? with
  | some t => (match P.underlying t with
    | some (.slice e) => (match sizeB P e with
      | some s => (match slCells H s y with
        | some (n, ys) => (match x with
          | .nils => some (.int .i64 0, H)
          | .slice id o m _ => (match aStoreCells H id o (ys.take (Nat.mul (Nat.min n m) s)) with
            | some H' => some (.int .i64 (Int.ofNat (Nat.min n m)), H')
            | none => none)
          | .sliceO id o m _ => (match Nat.min n m with
            | 0 => some (.int .i64 0, H)
            | k + 1 => (match aStoreCells H id o (ys.take (Nat.mul (Nat.succ k) s)) with
              | some H' => some (.int .i64 (Int.ofNat (Nat.succ k)), H')
              | none => none))
          | _ => none)
        | none => none)
      | none => none)
    | _ => none)
  | none => none

def aSliceData (x : AVal) : Option AVal :=
  match x with
  | .nils => some .nilp
  | .slice id o _ (_ + 1) => some (.ptr id o)
  | .sliceO id o (_ + 1) _ => some (.ptr id o)
  | _ => none

def aUnsafeString (P : Program) (H : Heap) (ts : Array TypeId) (x y : AVal) : Option (AVal × Heap) :=
  match ts[0]? with
  | some t => (match P.underlying t with
    | some (.pointer u) => onInt y fun _ z => (match natOf z with
      | some 0 => (match x with
        | .nilp => some (.str 0 0, H)
        | .ptr _ _ => some (.str 0 0, H)
        | _ => none)
      | some (n + 1) => (match Nat.ble n 9223372036854775806 with
        | true => (match x with
          | .ptr id o => (match H.get id with
            | some (.cells e l opn fz false) => (match Nat.beq e u && (Nat.ble (Nat.add o (Nat.succ n)) l.length && (match P.info? u with | some i => Nat.beq i.size 1 | none => false)) with
              | true => (match packI ((l.drop o).take (Nat.succ n)) with
                | some v => forceN v fun v => some (.str (Nat.succ n) v, H.set id (.cells e l opn (Nat.max fz (Nat.add o (Nat.succ n))) false))
                | none => none)
              | false => none)
            | _ => none)
          | _ => none)
        | false => none)
      | none => none)
    | _ => none)
  | none => none

/-! ### One operation -/

def optOpd (K : Ctx) (x : Option Operand) : Box (Env → Option AVal) := match x with
  | some y => ⟨fun e => some ((opdB K y).val e)⟩
  | none => ⟨fun _ => none⟩

def opds (K : Ctx) : List Operand → Box (Env → List AVal)
  | [] => ⟨fun _ => []⟩
  | x :: l => ⟨fun e => (opdB K x).val e :: (opds K l).val e⟩

def parts (K : Ctx) : List (Nat × Operand) → Box (Env → List (Nat × AVal))
  | [] => ⟨fun _ => []⟩
  | x :: l => ⟨fun e => (x.1, (opdB K x.2).val e) :: (parts K l).val e⟩

def lift (H : Heap) (x : Option AVal) : Option (AVal × Heap) := Option.rec (motive := fun _ => Option (AVal × Heap)) none (fun v => some (v, H)) x
def liftU (x : Option Heap) : Option (AVal × Heap) := Option.rec (motive := fun _ => Option (AVal × Heap)) none (fun H => some (.tup [], H)) x
theorem lift_def (H : Heap) (x : Option AVal) : lift H x = match x with | some v => some (v, H) | none => none := by cases x <;> rfl
theorem liftU_def (x : Option Heap) : liftU x = match x with | some H => some (.tup [], H) | none => none := by cases x <;> rfl

def isConstB : Operand → Bool
  | .const _ => true
  | _ => false

def orElseM (x : Option AVal) (H : Heap) (y : Option (AVal × Heap)) : Option (AVal × Heap) := match x with | some v => some (v, H) | none => y

def aLen1 (P : Program) (t : TypeId) (xs : List AVal) (H : Heap) : Option (AVal × Heap) :=
  match xs with
  | [x] => orElseM ((lenB P t).val x) H (lift H (aLenMap P H t x))
  | _ => none

def aBuiltin (K : Ctx) (b : Builtin) (ts : Array TypeId) : Box (List AVal → Heap → Option (AVal × Heap)) :=
  match b with
  | .len => (match ts[0]? with | some t => ⟨fun xs H => aLen1 K.P t xs H⟩ | none => ⟨fun _ _ => none⟩)
  | .cap => (match ts[0]? with | some t => ⟨fun xs H => (match xs with | [x] => lift H (aCap K.P t x) | _ => none)⟩ | none => ⟨fun _ _ => none⟩)
  | .append => ⟨fun xs H => (match xs with | [x, y] => aAppend K.P H ts x y | _ => none)⟩
  | .copy => ⟨fun xs H => (match xs with | [x, y] => aCopy K.P H ts x y | _ => none)⟩
  | .max => ⟨fun xs H => lift H (aMinMax true xs)⟩
  | .min => ⟨fun xs H => lift H (aMinMax false xs)⟩
  | .unsafeSliceData => ⟨fun xs H => (match xs with | [x] => lift H (aSliceData x) | _ => none)⟩
  | .unsafeString => ⟨fun xs H => (match xs with | [x, y] => aUnsafeString K.P H ts x y | _ => none)⟩
  | _ => ⟨fun _ _ => none⟩

def aNilCheck (x : AVal) : Option AVal :=
  match x with
  | .ptr _ _ => some x
  | .func .. => some x
  | .iface .. => some x
  | _ => none

def aPick (c a b : AVal) (H : Heap) : Option (AVal × Heap) := onBool c fun t => (match t with | true => some (a, H) | false => some (b, H))

/-- Conversions between whole numbers. -/
def convK (P : Program) (s d : TypeId) : Option IntKind := match P.underlying s with
  | some _ => (match P.underlying d with | some (.int k) => some k | _ => none)
  | none => none

theorem convK_some {P : Program} {s d : TypeId} {k : IntKind} (h : convK P s d = some k) : (∃ u, P.underlying s = some u) ∧ P.underlying d = some (.int k) := by
  unfold convK at h
  split at h
  · rename_i u hu
    split at h
    · rename_i k' hd
      cases h
      exact ⟨⟨u, hu⟩, hd⟩
    · cases h
  · cases h

abbrev OpB := Box (Env → Heap → Option (AVal × Heap))
def failB : OpB := ⟨fun _ _ => none⟩

/-- An operation that is no call of a function. -/
def aOp (K : Ctx) (o : Oper) : OpB :=
  match o.op with
  | .move x => ⟨fun e H => some ((opdB K x).val e, H)⟩
  | .assign x => ⟨fun e H => some ((opdB K x).val e, H)⟩
  | .pick c a b => ⟨fun e H => aPick ((opdB K c).val e) ((opdB K a).val e) ((opdB K b).val e) H⟩
  | .alloc t => ⟨fun _ H => aAlloc K.P H t⟩
  | .box t x => ⟨fun e H => aBox H t ((opdB K x).val e)⟩
  | .build t ps => ⟨fun e H => lift H ((buildB K.P t).val ((parts K ps.toList).val e))⟩
  | .buildSlice t n ps => ⟨fun e H => aBuildSlice K.P H t n ((parts K ps.toList).val e)⟩
  | .load t x => ⟨fun e H => lift H ((loadB K.P t).val H ((opdB K x).val e))⟩
  | .store t x v => ⟨fun e H => liftU ((storeB2 K.P t).val H ((opdB K x).val e) ((opdB K v).val e))⟩
  | .nilCheck x => ⟨fun e H => lift H (aNilCheck ((opdB K x).val e))⟩
  | .binOp op t x y _ => ⟨fun e H => lift H ((binB K.P op t (isConstB x || isConstB y)).val ((opdB K x).val e) ((opdB K y).val e))⟩
  | .unOp op _ x => ⟨fun e H => lift H (aUn op ((opdB K x).val e))⟩
  | .convert s d x => (match convK K.P s d with
    | some k => ⟨fun e H => lift H ((convI k).val ((opdB K x).val e))⟩
    | none => ⟨fun e H => orElseM (aConv K.P s d ((opdB K x).val e)) H (aConvM K.P H s d ((opdB K x).val e))⟩)
  | .makeInterface t x => ⟨fun e H => lift H (aMkIface K.P t ((opdB K x).val e))⟩
  | .makeFunc fn a c => (match fn with
    | .func i => ⟨fun e H => some (.func i ((opds K a.toList).val e) ((opds K c.toList).val e), H)⟩
    | _ => failB)
  | .makeMap _ r => (match r with | none => ⟨fun _ H => aMakeMap H⟩ | some _ => failB)
  | .makeSlice t l c => ⟨fun e H => aMakeSlice K.P H t ((opdB K l).val e) ((opdB K c).val e)⟩
  | .slice t x lo hi mx => (match mx with
    | none => ⟨fun e H => lift H (aSlice K.P t ((opdB K x).val e) ((optOpd K lo).val e) ((optOpd K hi).val e))⟩
    | some _ => failB)
  | .fieldAddr t x i => ⟨fun e H => lift H ((fieldAddrB K.P t i).val ((opdB K x).val e))⟩
  | .field t x i => ⟨fun e H => lift H ((fieldB2 K.P t i).val ((opdB K x).val e))⟩
  | .indexAddr t x i => ⟨fun e H => lift H ((indexAddrB K.P t).val ((opdB K x).val e) ((opdB K i).val e))⟩
  | .index t x i => ⟨fun e H => lift H ((indexB K.P t).val ((opdB K x).val e) ((opdB K i).val e))⟩
  | .lookup t x k ok => ⟨fun e H => lift H (aLookup K.P H t ((opdB K x).val e) ((opdB K k).val e) ok)⟩
  | .mapUpdate t m k v => ⟨fun e H => liftU (aMapUpdate K.P H t ((opdB K m).val e) ((opdB K k).val e) ((opdB K v).val e))⟩
  | .insert t m k v => ⟨fun e H => liftU (aMapUpdate K.P H t ((opdB K m).val e) ((opdB K k).val e) ((opdB K v).val e))⟩
  | .mapEntry t m k => ⟨fun e H => aMapEntry K.P H t ((opdB K m).val e) ((opdB K k).val e)⟩
  | .entryStore _ m s v => ⟨fun e H => liftU (aEntryStore H ((opdB K m).val e) ((opdB K s).val e) ((opdB K v).val e))⟩
  | .range t x => ⟨fun e H => aRange K.P H t ((opdB K x).val e)⟩
  | .next x s => (match s with | false => ⟨fun e H => aNext H ((opdB K x).val e)⟩ | true => failB)
  | .entry x => ⟨fun e H => lift H (aEntry H ((opdB K x).val e))⟩
  | .typeAssert x _ t ok => ⟨fun e H => lift H (aAssert K.P ((opdB K x).val e) t ok)⟩
  | .extract x i => ⟨fun e H => lift H (aExtract ((opdB K x).val e) i)⟩
  | .call c => (match c.callee with
    | .builtin b => ⟨fun e H => (aBuiltin K b c.argTypes).val ((opds K c.args.toList).val e) H⟩
    | _ => failB)
  | _ => failB

/-! ### Calls -/

abbrev Res := Option (AVal × Heap)

/-- What runs functions and rounds. -/
structure Caller where
  func : FuncId → List AVal → Heap → Res
  yld : Nat → List AVal → Heap → Res

def aCallee (C : Caller) (f : AVal) (args : List AVal) (H : Heap) : Res :=
  match f with
  | .func i first captured => C.func i (first ++ (args ++ captured)) H
  | .yld id => C.yld id args H
  | _ => none

abbrev CallB := Box (Caller → Env → Heap → Res)
def failK : CallB := ⟨fun _ _ _ => none⟩

/-- A call of a function that is written out. -/
def aCallB (K : Ctx) (f : Operand) (args : List Operand) : CallB :=
  match f with
  | .func i => ⟨fun C e H => C.func i ((opds K args).val e) H⟩
  | f => ⟨fun C e H => aCallee C ((opdB K f).val e) ((opds K args).val e) H⟩

/-- Any operation but a defer. -/
def aOper (K : Ctx) (o : Oper) : CallB :=
  match o.op with
  | .call c => (match c.callee with
    | .value f => aCallB K f c.args.toList
    | .builtin b => ⟨fun _ e H => (aBuiltin K b c.argTypes).val ((opds K c.args.toList).val e) H⟩
    | _ => failK)
  | _ => ⟨fun _ e H => (aOp K o).val e H⟩

/-! ### Regions -/

inductive ADef where
  | call (f : AVal) (args : List AVal)
  | coll (id : Nat)

/-- A state of an activation: temporaries, deferred calls, heap. -/
structure ASt where
  env : Env
  defers : List ADef
  H : Heap

def putDst (K : Ctx) (dst : Option Tmp) : Box (AVal → Env → Env) := match dst with
  | some d => ⟨fun v e => (T8.setB (path K.d d)).val v e⟩
  | none => ⟨fun _ e => e⟩

/-- The guard of an operation: the temporary that it asks, and the answer that it wants. -/
def guardOf (ops : Array Oper) (o : Oper) : Option (Option Tmp × Bool) := match o.guard with
  | none => none
  | some (j, want) => some ((ops[j]?).bind (·.dst), want)

def isYes (x : Option AVal) (want : Bool) : Bool := Option.rec (motive := fun _ => Bool) false (fun v => yesV want v) x
theorem isYes_def (x : Option AVal) (want : Bool) : isYes x want = match x with
  | some v => (match v with | .bool b => b == want | _ => false)
  | none => false := by
  cases x with
  | none => rfl
  | some v =>
    cases v <;> try rfl
    rename_i b
    cases b <;> cases want <;> rfl

abbrev StB := Box (Caller → ASt → Option ASt)
def failS : StB := ⟨fun _ _ => none⟩

def putRes (p : Box (AVal → Env → Env)) (s : ASt) (r : Option (AVal × Heap)) : Option ASt := Option.rec (motive := fun _ => Option ASt) none (fun q => some ⟨p.val q.1 s.env, s.defers, q.2⟩) r
theorem putRes_def (p : Box (AVal → Env → Env)) (s : ASt) (r : Option (AVal × Heap)) : putRes p s r = match r with
  | some q => some ⟨p.val q.1 s.env, s.defers, q.2⟩
  | none => none := by cases r <;> rfl

def ifB (b : Bool) (x y : Option ASt) : Option ASt := Bool.rec (motive := fun _ => Option ASt) y x b
theorem ifB_def (b : Bool) (x y : Option ASt) : ifB b x y = match b with | true => x | false => y := by cases b <;> rfl

/-- A step under a guard: where it isn't wanted, its temporary is undefined. -/
def guarded (K : Ctx) (g : Option (Option Tmp × Bool)) (dst : Option Tmp) (f : StB) : StB := match g with
  | none => f
  | some (some t, want) => ⟨fun C s => ifB (isYes ((T8.getB (path K.d t)).val s.env) want) (f.val C s) (some ⟨(putDst K dst).val (.tup []) s.env, s.defers, s.H⟩)⟩
  | some (none, _) => ⟨fun _ s => some ⟨(putDst K dst).val (.tup []) s.env, s.defers, s.H⟩⟩

def deferS (e : Env) (s : ASt) (f : AVal) (args : List AVal) : Option ASt := match f with
  | .func i fi ca => some ⟨e, ADef.call (.func i fi ca) args :: s.defers, s.H⟩
  | _ => none

def bareStep (K : Ctx) (o : Oper) : StB :=
  match o.op with
  | .defer c => (match K.inRound with
    | true => failS
    | false => (match c.callee with
      | .value f => ⟨fun _ s => deferS ((putDst K o.dst).val (.tup []) s.env) s ((opdB K f).val s.env) ((opds K c.args.toList).val s.env)⟩
      | _ => failS))
  | _ => ⟨fun C s => putRes (putDst K o.dst) s ((aOper K o).val C s.env s.H)⟩

def okTmp (K : Ctx) (t : Option Tmp) : Bool := match t with
  | some t => Nat.blt t (8 ^ K.d)
  | none => true

/-- The places that an operation names lie within its frame. -/
def okOper (K : Ctx) (ops : Array Oper) (o : Oper) : Bool :=
  o.op.operands.toList.all (okOpd K) && (match o.dst with | some d => Nat.blt d K.nt && Nat.blt d (8 ^ K.d) | none => true) &&
    (match guardOf ops o with | some (t, _) => okTmp K t | none => true)

/-- One operation of a region, in its turn. -/
def aStep (K : Ctx) (ops : Array Oper) (o : Oper) : StB := match okOper K ops o with
  | true => guarded K (guardOf ops o) o.dst (bareStep K o)
  | false => failS

def andThenS (C : Caller) (x : Option ASt) (g : StB) : Option ASt := Option.rec (motive := fun _ => Option ASt) none (fun s => g.val C s) x
theorem andThenS_def (C : Caller) (x : Option ASt) (g : StB) : andThenS C x g = match x with | some s => g.val C s | none => none := by cases x <;> rfl

def aRegion (K : Ctx) (ops : Array Oper) : List Oper → StB
  | [] => ⟨fun _ s => some s⟩
  | o :: l => ⟨fun C s => andThenS C ((aStep K ops o).val C s) (aRegion K ops l)⟩

/-! ### Code -/

inductive AExit where
  | normal
  | exit (id : Nat)
  | ret

abbrev Out := Option (AExit × ASt)
abbrev CodeB := Box (Caller → ASt → Out)
def failC : CodeB := ⟨fun _ _ => none⟩

def thenC (C : Caller) (x : Out) (g : CodeB) : Out := Option.rec (motive := fun _ => Out) none (fun q => AExit.rec (motive := fun _ => Out) (g.val C q.2) (fun id => some (.exit id, q.2)) (some (.ret, q.2)) q.1) x
theorem thenC_def (C : Caller) (x : Out) (g : CodeB) : thenC C x g = match x with
  | some q => (match q.1 with
    | .normal => g.val C q.2
    | .exit id => some (.exit id, q.2)
    | .ret => some (.ret, q.2))
  | none => none := by
  cases x with
  | none => rfl
  | some q => obtain ⟨e, s⟩ := q; cases e <;> rfl

def iter (fuel : Nat) : CodeB → Caller → ASt → Out :=
  fuel.rec (motive := fun _ => CodeB → Caller → ASt → Out) (fun _ _ _ => none) (fun _ ih f C s => match f.val C s with
    | some q => (match q.1 with
      | .normal => ih f C q.2
      | .exit id => some (.exit id, q.2)
      | .ret => some (.ret, q.2))
    | none => none)

def regionC (x : Option ASt) : Out := Option.rec (motive := fun _ => Out) none (fun s => some (.normal, s)) x
theorem regionC_def (x : Option ASt) : regionC x = match x with | some s => some (.normal, s) | none => none := by cases x <;> rfl

def blockC (id : Nat) (x : Out) : Out := match x with
  | some q => (match q.1 with
    | .normal => some (.normal, q.2)
    | .exit j => (match Nat.beq j id with | true => some (.normal, q.2) | false => some (.exit j, q.2))
    | .ret => some (.ret, q.2))
  | none => none

def condC (x : AVal) (f g : CodeB) (C : Caller) (s : ASt) : Out := onBool x fun t => Bool.rec (motive := fun _ => Out) (g.val C s) (f.val C s) t

/-- 'drawn' runs a region that draws its order. -/
def aCode (K : Ctx) (drawn : Ctx → Array Oper → StB) (rf : Operand → Array Tmp → Code → Code → CodeB) (fuel : Nat) : Code → CodeB
  | .skip => ⟨fun _ s => some (.normal, s)⟩
  | .label _ => ⟨fun _ s => some (.normal, s)⟩
  | .region _ ops draw => (match draw with
    | false => ⟨fun C s => regionC ((aRegion K ops ops.toList).val C s)⟩
    | true => ⟨fun C s => regionC ((drawn K ops).val C s)⟩)
  | .seq a b => ⟨fun C s => thenC C ((aCode K drawn rf fuel a).val C s) (aCode K drawn rf fuel b)⟩
  | .cond c a b => (match okOpd K c with
    | true => ⟨fun C s => condC ((opdB K c).val s.env) (aCode K drawn rf fuel a) (aCode K drawn rf fuel b) C s⟩
    | false => failC)
  | .block id c => ⟨fun C s => blockC id ((aCode K drawn rf fuel c).val C s)⟩
  | .loop c => ⟨fun C s => iter fuel (aCode K drawn rf fuel c) C s⟩
  | .scope c => aCode K drawn rf fuel c
  | .exit id => ⟨fun _ s => some (.exit id, s)⟩
  | .ret => ⟨fun _ s => some (.ret, s)⟩
  | .rangeFunc g ps a b => rf g ps a b
  | _ => failC

end
end Go.Proofs.YtbokoinmlbipmaaGreatDoor.Ev

-- EvRun
namespace Go.Proofs.YtbokoinmlbipmaaGreatDoor.Ev
noncomputable section

def setArgs (d : Nat) : List AVal → Nat → Env → Env
  | [], _, e => e
  | v :: l, i, e => setArgs d l (Nat.succ i) (e.set (path d i) v)

def setParams (d : Nat) : List Tmp → List AVal → Env → Env
  | t :: ts, v :: l, e => setParams d ts l (e.set (path d t) v)
  | _, _, e => e

def depthOf (n : Nat) : Nat := match Nat.ble n 64 with | true => 2 | false => 3

/-- Does a call of the function enter it? -/
def enters (P : Program) (i : FuncId) : Bool := match P.funcs[i]? with
  | some fn => (match fn.name == "runtime.NumGoroutine" with | true => false | false => fn.body.isSome)
  | none => false

def ctxOf (P : Program) (globs : List Nat) (nt : Nat) : Ctx := { P, d := depthOf nt, nt, globs }

/-- The end of a range over a function. -/
def endLoopA (l : Nat) (env : Env) (ds : List ADef) (H : Heap) : Out :=
  match H.get l with
  | some (.loop st pe d nt env' ps a b r) => (match st with
    | .busy => none
    | _ => (match pe with
      | none => some (.normal, ⟨env, ds, H.set l (.loop .exhausted pe d nt env' ps a b r)⟩)
      | some (.exit id) => some (.exit id, ⟨env, ds, H.set l (.loop .exhausted pe d nt env' ps a b r)⟩)
      | some .ret => some (.ret, ⟨env, ds, H.set l (.loop .exhausted pe d nt env' ps a b r)⟩)
      | some _ => none))
  | _ => none

/-- A range over a function, outside every round. -/
def aRangeFunc (K : Ctx) (g : Operand) (ps : Array Tmp) (a b : Code) : CodeB :=
  match !K.inRound && (okOpd K g && ps.toList.all fun t => Nat.blt t K.nt && Nat.blt t (8 ^ K.d)) with
  | false => failC
  | true => ⟨fun C s => (match Nat.ble (Nat.add s.H.next 2) Heap.lim with
    | true =>
      let r := s.H.next
      let H1 := s.H.push (.defr false)
      let l := H1.next
      let H2 := H1.push (.loop .ready none K.d K.nt s.env ps.toList a b r)
      (match (opdB K g).val s.env with
        | .func i first captured => (match enters K.P i with
          | true => (match C.func i (first ++ (.yld l :: captured)) H2 with
            | some q => endLoopA l s.env (ADef.coll r :: s.defers) q.2
            | none => none)
          | false => none)
        | _ => none)
    | false => none)⟩

/-- The context of a round's code. -/
def roundCtx (P : Program) (globs : List Nat) (d nt : Nat) : Ctx := { P, d, nt, globs, inRound := true }

/-- The end of a round. -/
def endRoundA (id : Nat) (x : Out) : Res := match x with
  | some q => (match q.2.H.get id with
    | some (.loop _ _ d nt env ps a b r) => (match q.1 with
      | .normal => some (.bool true, q.2.H.set id (.loop .ready none d nt env ps a b r))
      | .exit j => some (.bool false, q.2.H.set id (.loop .done (some (.exit j)) d nt env ps a b r))
      | .ret => some (.bool false, q.2.H.set id (.loop .done (some .ret) d nt env ps a b r)))
    | _ => none)
  | none => none

/-- A round behind its assignments. -/
def midRound (id : Nat) (C : Caller) (body : CodeB) (x : Out) : Res := match x with
  | some q => (match q.1 with
    | .normal => (match q.2.H.get id with
      | some (.loop st pe d nt env ps a b r) => (match st with
        | .ready => endRoundA id (body.val C ⟨q.2.env, q.2.defers, q.2.H.set id (.loop .busy pe d nt env ps a b r)⟩)
        | _ => none)
      | _ => none)
    | _ => none)
  | none => none

def noRange : Operand → Array Tmp → Code → Code → CodeB := fun _ _ _ _ => failC

def aYield (P : Program) (globs : List Nat) (drawn : Ctx → Array Oper → StB) (fuel : Nat) (C : Caller) (id : Nat) (args : List AVal) (H : Heap) : Res :=
  match H.get id with
  | some (.loop _ _ d nt env ps a b _) => (match Nat.beq ps.length args.length with
    | true => midRound id C (aCode (roundCtx P globs d nt) drawn noRange fuel b) ((aCode (roundCtx P globs d nt) drawn noRange fuel a).val C ⟨setParams d ps args env, [], H⟩)
    | false => none)
  | _ => none

def aResult (K : Ctx) : ResultVar → Box (Env → Heap → Option AVal)
  | .tmp t => (match okOpd K (.tmp t) with | true => ⟨fun e _ => some ((opdB K (.tmp t)).val e)⟩ | false => ⟨fun _ _ => none⟩)
  | .cell a t => (match okOpd K (.tmp a) with | true => ⟨fun e H => aLoad K.P H t ((opdB K (.tmp a)).val e)⟩ | false => ⟨fun _ _ => none⟩)

def consR (x : Option AVal) (y : Option (List AVal)) : Option (List AVal) := match x with
  | some v => (match y with | some m => some (v :: m) | none => none)
  | none => none

def aResults (K : Ctx) : List ResultVar → Box (Env → Heap → Option (List AVal))
  | [] => ⟨fun _ _ => some []⟩
  | r :: l => ⟨fun e H => consR ((aResult K r).val e H) ((aResults K l).val e H)⟩

/-- How a function that is called as a deferred call runs. -/
abbrev DeferB := FuncId → Box (Caller → List AVal → Heap → Res)

def aLeave (D : DeferB) (C : Caller) : List ADef → Heap → Option Heap
  | [], H => some H
  | .call f args :: l, H => (match f with
    | .func i first captured => (match (D i).val C (first ++ (args ++ captured)) H with | some (_, H) => aLeave D C l H | none => none)
    | _ => none)
  | .coll id :: l, H => (match H.get id with
    | some (.defr false) => aLeave D C l (H.set id (.defr true))
    | _ => none)

def one (H : Heap) (x : Option (List AVal)) : Res := match x with
  | some l => (match l with
    | [v] => some (v, H)
    | l => some (.tup l, H))
  | none => none

abbrev LeaveB := Caller → List ADef → Heap → Option Heap

/-- The end of an activation. -/
def aEnd (L : LeaveB) (C : Caller) (res : Box (Env → Heap → Option (List AVal))) (x : Out) : Res := match x with
  | some q => (match q.1 with
    | .exit _ => none
    | _ => (match L C q.2.defers q.2.H with
      | some H' => one H' (res.val q.2.env H')
      | none => none))
  | none => none

def aBody (L : LeaveB) (K : Ctx) (drawn : Ctx → Array Oper → StB) (fuel : Nat) (c : Code) (rs : List ResultVar) : Box (Caller → List AVal → Heap → Res) :=
  ⟨fun C args H => (match Nat.ble args.length K.nt with
    | true => aEnd L C (aResults K rs) ((aCode K drawn (aRangeFunc K) fuel c).val C ⟨setArgs K.d args 0 .nil, [], H⟩)
    | false => none)⟩

def aExtern (P : Program) (fn : Func) : Box (Caller → List AVal → Heap → Res) :=
  match fn.name with
  | "internal/abi.NoEscape" => ⟨fun _ args H => (match args with | [x] => some (x, H) | _ => none)⟩
  | "internal/bytealg.MakeNoZero" => ⟨fun _ args H => (match args with
    | [x] => onInt x fun k z => (match natOf z with
      | some n => (match decide (k = .i64) with
       | true => (match fn.resultTypes.toList with
        | [t] => (match P.underlying t with
          | some (.slice e) => (match Nat.ble (Nat.succ H.next) Heap.lim && Nat.ble n 281474976710656 with
            | true => some (.sliceO H.next 0 n 1, H.push (.cells e [] true 0 false))
            | false => none)
          | _ => none)
        | _ => none)
       | false => none)
      | none => none)
    | _ => none)⟩
  | _ => ⟨fun _ _ _ => none⟩

/-- A deferred function may not defer in its turn. -/
def noLeave : LeaveB := fun _ l H => match l with
  | [] => some H
  | _ => none

/-! ### Deferred functions that may call recover: nothing is panicking -/

def isRecover (o : Oper) : Bool := match o.op with
  | .call c => (match c.callee with
    | .builtin b => (match b with | .recover => true | _ => false)
    | _ => false)
  | _ => false

def bareR (K : Ctx) (o : Oper) : StB := match isRecover o with
  | true => ⟨fun _ s => some ⟨(putDst K o.dst).val .niliface s.env, s.defers, s.H⟩⟩
  | false => ⟨fun _ s => putRes (putDst K o.dst) s ((aOp K o).val s.env s.H)⟩

def aStepR (K : Ctx) (ops : Array Oper) (o : Oper) : StB := match okOper K ops o with
  | true => guarded K (guardOf ops o) o.dst (bareR K o)
  | false => failS

def aRegionR (K : Ctx) (ops : Array Oper) : List Oper → StB
  | [] => ⟨fun _ s => some s⟩
  | o :: l => ⟨fun C s => andThenS C ((aStepR K ops o).val C s) (aRegionR K ops l)⟩

def aDCode (K : Ctx) (drawn : Ctx → Array Oper → StB) (rf : Operand → Array Tmp → Code → Code → CodeB) (fuel : Nat) : Code → CodeB
  | .seq a b => ⟨fun C s => thenC C ((aDCode K drawn rf fuel a).val C s) (aDCode K drawn rf fuel b)⟩
  | .region id ops draw => (match !draw && ops.toList.any isRecover with
    | true => ⟨fun C s => regionC ((aRegionR K ops ops.toList).val C s)⟩
    | false => aCode K drawn rf fuel (.region id ops draw))
  | c => aCode K drawn rf fuel c

def aBodyD (K : Ctx) (drawn : Ctx → Array Oper → StB) (fuel : Nat) (c : Code) (rs : List ResultVar) : Box (Caller → List AVal → Heap → Res) :=
  ⟨fun C args H => (match Nat.ble args.length K.nt with
    | true => aEnd noLeave C (aResults K rs) ((aDCode K drawn (aRangeFunc K) fuel c).val C ⟨setArgs K.d args 0 .nil, [], H⟩)
    | false => none)⟩

def aDeferred (P : Program) (globs : List Nat) (drawn : Ctx → Array Oper → StB) (fuel : Nat) (f : FuncId) : Box (Caller → List AVal → Heap → Res) :=
  match P.funcs[f]? with
  | some fn => (match fn.body with
    | some c => (match Nat.ble fn.ntmps 512 && enters P f with
      | true => aBodyD (ctxOf P globs fn.ntmps) drawn fuel c fn.results.toList
      | false => ⟨fun _ _ _ => none⟩)
    | none => ⟨fun _ _ _ => none⟩)
  | none => ⟨fun _ _ _ => none⟩

def aFunc (P : Program) (globs : List Nat) (drawn : Ctx → Array Oper → StB) (fuel : Nat) (f : FuncId) : Box (Caller → List AVal → Heap → Res) :=
  match P.funcs[f]? with
  | some fn => (match fn.body with
    | some c => (match Nat.ble fn.ntmps 512 && enters P f with
      | true => aBody (aLeave (aDeferred P globs drawn fuel)) (ctxOf P globs fn.ntmps) drawn fuel c fn.results.toList
      | false => ⟨fun _ _ _ => none⟩)
    | none => (match fn.origin == "" with | true => aExtern P fn | false => ⟨fun _ _ _ => none⟩))
  | none => ⟨fun _ _ _ => none⟩

/-- A run with calls at most n deep. -/
def run (P : Program) (globs : List Nat) (drawn : Ctx → Array Oper → StB) (fuel : Nat) : Nat → Caller :=
  fun n => n.rec (motive := fun _ => Caller) ⟨fun _ _ _ => none, fun _ _ _ => none⟩
    (fun _ C => ⟨fun f args H => (aFunc P globs drawn fuel f).val C args H, fun id args H => aYield P globs drawn fuel C id args H⟩)

end
end Go.Proofs.YtbokoinmlbipmaaGreatDoor.Ev
