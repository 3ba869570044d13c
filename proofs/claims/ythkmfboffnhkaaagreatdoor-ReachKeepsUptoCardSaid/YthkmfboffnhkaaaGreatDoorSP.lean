/-
  The program's data in plain Lean, and as cells.
-/
import Derived.Test.YthkmfboffnhkaaaGreatDoorTY
set_option linter.all false
namespace Go.Proofs.YthkmfboffnhkaaaGreatDoor
open Go Go.L1
set_option maxRecDepth 100000

structure Box where
  nonce : List UInt8
  data : List UInt8
  tag : List UInt8
structure Wrap where
  to : Int
  eph : Int
  box : Box
structure Act where
  author : List UInt8
  seq : Int
  prev : List UInt8
  kind : Int
  time : Int
  object : List UInt8
  target : List UInt8
  scope : Int
  group : List UInt8
  to : List (List UInt8)
  text : List UInt8
  body : Box
  epoch : Int
  wraps : List Wrap
  n : Int
  m : Int
  sigE : Int
  sigS : Int
structure KeyAt where
  from_ : Int
  pub : Int
  home : Int
structure Chain where
  id : List UInt8
  acts : List Act
  keys : List KeyAt
  prev : List UInt8
  gen : Int
  fork : Bool
structure Listing where
  actor : List UInt8
  reason : List UInt8
  by_ : List UInt8
  until_ : Int

def noListing : Listing := ⟨[], [], [], 0⟩
abbrev I (n : Int) : C := .int .i64 n
def Wrap.cells (w : Wrap) : List C := [I w.to, I w.eph, .str w.box.nonce, .str w.box.data, .str w.box.tag]
def texts (l : List (List UInt8)) : C := .sl (l.map fun s => [.str s])
def Act.cells (a : Act) : List C := [.str a.author, I a.seq, .str a.prev, I a.kind, I a.time, .str a.object, .str a.target, I a.scope, .str a.group, texts a.to, .str a.text,
  .str a.body.nonce, .str a.body.data, .str a.body.tag, I a.epoch, .sl (a.wraps.map Wrap.cells), I a.n, I a.m, I a.sigE, I a.sigS]
def KeyAt.cells (k : KeyAt) : List C := [I k.from_, I k.pub, I k.home]
def Chain.cells (c : Chain) : List C := [.str c.id, .sl (c.acts.map Act.cells), .sl (c.keys.map KeyAt.cells), .str c.prev, I c.gen, .bool c.fork]
def Listing.cells (l : Listing) : List C := [.str l.actor, .str l.reason, .str l.by_, I l.until_]
/-- A struct's value. -/
def agg (cs : List C) : V := .agg (cs.map .c)
def chains (cs : List Chain) : V := .c (.sl (cs.map Chain.cells))

theorem all_take {α : Type} {p : α → Bool} {l : List α} {i : Nat} {x : α} (h : (l.take i).all p = true) (hx : l[i]? = some x) (hp : p x = true) : (l.take (i + 1)).all p = true := by
  rw [List.take_add_one, List.all_append, h, hx]; simp [-getElem?_pos, hp]
theorem all_of_take {α : Type} {p : α → Bool} {l : List α} {i : Nat} (h : (l.take i).all p = true) (hi : l.length ≤ i) : l.all p = true := by
  rwa [List.take_of_length_le hi] at h
theorem all_false {α : Type} {p : α → Bool} {l : List α} {i : Nat} {x : α} (hx : l[i]? = some x) (hp : p x = false) : l.all p = false := by
  cases h : l.all p with
  | false => rfl
  | true => have := List.all_eq_true.1 h x (List.mem_of_getElem? hx); rw [hp] at this; cases this
theorem get_of_lt {α : Type} {l : List α} {i : Nat} (h : i < l.length) : ∃ x, l[i]? = some x := ⟨_, List.getElem?_eq_getElem h⟩
theorem wrap_succ {i n : Nat} (h : i < n) (hn : n ≤ 9223372036854775807) : IntKind.i64.wrap ((i : Int) + 1) = ((i + 1 : Nat) : Int) := by rw [IntWalk.i64_in _ (by omega)]; rfl

@[simp] theorem nat_neg (n : Nat) : ((n : Int) < 0) = False := by simp [-getElem?_pos]
/-- The first index at which p holds, or -1. -/
def idx {α : Type} (p : α → Bool) (l : List α) : Int := match l.findIdx? p with
  | some i => i
  | none => -1
theorem idx_found {α : Type} {p : α → Bool} {l : List α} {i : Nat} {x : α} (h : (l.take i).all (fun x => !p x) = true) (hx : l[i]? = some x) (hp : p x = true) : idx p l = i := by
  have : l.findIdx? p = some i := by
    rw [List.findIdx?_eq_some_iff_getElem]
    have hi := lt_of_some hx
    refine ⟨hi, ?_, fun j hj => ?_⟩
    · rw [List.getElem?_eq_getElem hi] at hx; injection hx with hx; rw [hx]; exact hp
    · have := List.all_eq_true.1 h l[j] (List.mem_iff_getElem.2 ⟨j, by simp [-getElem?_pos]; omega, by simp [-getElem?_pos]⟩)
      simpa [-getElem?_pos] using this
  simp [-getElem?_pos, idx, this]
theorem idx_none {α : Type} {p : α → Bool} {l : List α} {i : Nat} (h : (l.take i).all (fun x => !p x) = true) (hi : l.length ≤ i) : idx p l = -1 := by
  have : l.findIdx? p = none := by
    rw [List.findIdx?_eq_none_iff]
    intro x hx
    have := List.all_eq_true.1 (all_of_take h hi) x hx
    simpa [-getElem?_pos] using this
  simp [-getElem?_pos, idx, this]
theorem idx_spec {α : Type} (p : α → Bool) (l : List α) : (idx p l = -1 ∧ ∀ x ∈ l, p x = false) ∨ ∃ i x, idx p l = (i : Nat) ∧ l[i]? = some x ∧ p x = true := by
  unfold idx
  cases h : l.findIdx? p with
  | none => exact .inl ⟨rfl, List.findIdx?_eq_none_iff.1 h⟩
  | some i =>
    obtain ⟨hi, h1, _⟩ := List.findIdx?_eq_some_iff_getElem.1 h
    exact .inr ⟨i, l[i], rfl, List.getElem?_eq_getElem hi, h1⟩
end Go.Proofs.YthkmfboffnhkaaaGreatDoor
