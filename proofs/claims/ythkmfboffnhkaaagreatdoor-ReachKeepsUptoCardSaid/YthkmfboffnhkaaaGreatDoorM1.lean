/-
  L1, part a: abstract values, their relation to the model's values and worlds, and how that relation is kept. Generic in the program.
  L1, part b: states, triples, the rules of control. Generic in the program.
  L1, part c: what an operation does on abstract states; regions, in whatever order. Generic in the program.
  L1, part d: a region that draws its order: the text's order serves every order. Generic in the program.
  L1, part e: light code, contracts of functions. Generic in the program.
  L1, part f: what single operations do. Generic in the program.
-/
import Derived.Maps.AppendAt
import Derived.OrdersIn
import Derived.Sort.LoopGhostIn
import Derived.ControlIn
import Derived.CallsIn
import Derived.RangeFuncCalls
import Derived.RangeFuncNested
import Derived.RangeFuncRecord
import Derived.TacticsIn
import Derived.Deep.AppendLies
import Derived.Still
import Derived.Below
import Derived.Laws.Cells
import Derived.Laws.CopyRow
import Derived.Laws.Tables
import Derived.Laws.Strings
import Derived.Laws.StructEq
set_option linter.all false
namespace Go.L1
open Go

/-- One abstract cell of plain data. -/
inductive C where
  | bool (b : Bool)
  | int (k : IntKind) (n : Int)
  | str (s : List UInt8)
  | sl (xs : List (List C))
  | fn (f : FuncId)
  | nilfn
  | nilp
  | nilm
  deriving Inhabited

/-- An abstract value of a slot. -/
inductive V where
  | undef
  | c (x : C)
  | agg (cs : List V)
  | tup (vs : List V)
  | box (cs : List V)
  | lp (d off : Nat)
  | ptr (id off : Nat)
  | ep (cells : List C) (off : Nat)
  | own (id e : Nat)
  | odp (id e : Nat)
  | psl (id off len : Nat)
  | mref (id : Nat)
  | clo (f : FuncId) (caps : List V)
  | gp (g : Nat)
  | gv (g : Nat)
  | anyb
  deriving Inhabited

/-- An object of the store. -/
inductive SO where
  | dead
  | box (cs : List V)
  | arr (ety : TypeId) (esz : Nat) (e : Nat) (xs : List (List C))
  | map (kagg vagg : Bool) (es : List (List C × List C))
  | tbox (T : TypeId) (cs : List V)
  | siter (l : List UInt8) (pos : Nat)
  deriving Inhabited

/-- Where a store object lies: the value that leads to it, a second block, and how often it may have moved. -/
structure Loc where
  hdr : Value
  blk2 : Option Nat
  epoch : Nat

def blkOf : Value → Option Nat
  | .pointer (some a) => some a.block
  | .slice (some a) _ _ => some a.block
  | .map (some r) => some r
  | _ => none

def Loc.blks (l : Loc) : List Nat := (blkOf l.hdr).toList ++ l.blk2.toList

def Loc.fix (l : Loc) : Bool :=
  match l.hdr with
  | .pointer _ | .map _ => true
  | _ => false

structure Gh where
  base : World
  pers : Nat → Prop
  locs : List Loc

def Gh.owns (γ : Gh) (b : Nat) : Prop := ∃ (id : Nat) (l : Loc), γ.locs[id]? = some l ∧ b ∈ l.blks

inductive RelC (pers : Nat → Prop) (w : World) : C → Value → Prop
  | bool (b : Bool) : RelC pers w (.bool b) (.bool b)
  | int (k : IntKind) (n : Int) : RelC pers w (.int k n) (.int k n)
  | str (s : ByteArray) (h : s.size ≤ maxLen) : RelC pers w (.str s.data.toList) (.string s)
  | nilsl : RelC pers w (.sl []) (.slice none 0 0)
  | sl (xs : List (List C)) (esz : Nat) (a : Addr) (len cap : Nat) (f : Nat → Nat → Value) (hp : xs ≠ [] → pers a.block) (hs : xs ≠ [] → a.spot = none)
      (hl : xs.length = len) (hc : len ≤ cap) (hm : cap ≤ maxLen) (hz : ∀ (i : Nat) x, xs[i]? = some x → x.length = esz)
      (hcell : ∀ (i : Nat) x (j : Nat) c, xs[i]? = some x → x[j]? = some c → w.cell? (a.add (i * esz + j)) = some (f i j))
      (hr : ∀ (i : Nat) x (j : Nat) c, xs[i]? = some x → x[j]? = some c → RelC pers w c (f i j)) :
      RelC pers w (.sl xs) (.slice (some a) len cap)
  | fn (f : FuncId) : RelC pers w (.fn f) (.func (.func f) #[] #[])
  | nilfn : RelC pers w .nilfn .nilFunc
  | nilp : RelC pers w .nilp (.pointer none)
  | nilm : RelC pers w .nilm (.map none)

theorem block_add (a : Addr) (n : Nat) : (a.add n).block = a.block := by unfold Addr.add; split <;> rfl
theorem spot_add (a : Addr) (n : Nat) (h : a.spot = none) : (a.add n).spot = none := by unfold Addr.add; split <;> simp [h]
theorem add_add (a : Addr) (i j : Nat) : (a.add i).add j = a.add (i + j) := by
  unfold Addr.add
  by_cases hi : i = 0 <;> by_cases hj : j = 0 <;> simp [hi, hj, Nat.add_assoc]
theorem add_mk (b o n : Nat) : (⟨b, o, none⟩ : Addr).add n = ⟨b, o + n, none⟩ := by
  unfold Addr.add; split
  · next h => simp [h]
  · rfl

theorem cell_of_heap {w w' : World} {a : Addr} (h : w'.heap[a.block]? = w.heap[a.block]?) : w'.cell? a = w.cell? a := by
  unfold World.cell?; rw [h]
theorem frozen_of_heap {w w' : World} {a : Addr} (h : w'.heap[a.block]? = w.heap[a.block]?) : w'.frozen? a = w.frozen? a := by
  unfold World.frozen?; rw [h]

theorem RelC.one {pers : Nat → Prop} {w : World} {c : C} {v : Value} (h : RelC pers w c v) : v.oneCell' = true := by
  cases h <;> rfl

theorem RelC.mono {pers pers' : Nat → Prop} {w w' : World} (hp : ∀ b, pers b → pers' b) (hw : ∀ b, pers b → w'.heap[b]? = w.heap[b]?)
    {c : C} {v : Value} (h : RelC pers w c v) : RelC pers' w' c v := by
  induction h with
  | bool b => exact .bool b
  | int k n => exact .int k n
  | str s h => exact .str s h
  | nilsl => exact .nilsl
  | sl xs esz a len cap f hpp hs hl hc hm hz hcell _ ih =>
    refine .sl xs esz a len cap f (fun hne => hp _ (hpp hne)) hs hl hc hm hz (fun i x j c hi hj => ?_) ih
    rw [cell_of_heap (w := w) (by rw [block_add]; exact hw _ (hpp (by intro h; rw [h] at hi; cases hi)))]
    exact hcell i x j c hi hj
  | fn f => exact .fn f
  | nilfn => exact .nilfn
  | nilp => exact .nilp
  | nilm => exact .nilm

inductive RelV (γ : Gh) (w : World) : V → Value → Prop
  | undef (x : Value) : RelV γ w .undef x
  | c (x : C) (v : Value) (h : RelC γ.pers w x v) : RelV γ w (.c x) v
  | agg (cs : List V) (vs : Array Value) (hl : vs.size = cs.length) (h : ∀ (i : Nat) v x, cs[i]? = some v → vs[i]? = some x → RelV γ w v x) :
      RelV γ w (.agg cs) (.agg vs)
  | tup (cs : List V) (vs : Array Value) (hl : vs.size = cs.length) (h : ∀ (i : Nat) v x, cs[i]? = some v → vs[i]? = some x → RelV γ w v x) :
      RelV γ w (.tup cs) (.tuple vs)
  | ptr (id off b : Nat) (l : Loc) (h : γ.locs[id]? = some l) (hb : l.hdr = .pointer (some ⟨b, 0, none⟩)) :
      RelV γ w (.ptr id off) (.pointer (some ⟨b, off, none⟩))
  | ep (cells : List C) (off : Nat) (a : Addr) (f : Nat → Value) (hp : γ.pers a.block) (hs : a.spot = none)
      (hcell : ∀ (j : Nat) c, cells[j]? = some c → w.cell? (a.add j) = some (f j))
      (hr : ∀ (j : Nat) c, cells[j]? = some c → RelC γ.pers w c (f j)) : RelV γ w (.ep cells off) (.pointer (some (a.add off)))
  | own (id e : Nat) (l : Loc) (x : Value) (h : γ.locs[id]? = some l) (hf : l.fix = false) (he : e ≤ l.epoch) (h1 : x.oneCell' = true)
      (hx : l.epoch = e → x = l.hdr) : RelV γ w (.own id e) x
  | odp (id e : Nat) (l : Loc) (x : Value) (h : γ.locs[id]? = some l) (hf : l.fix = false) (he : e ≤ l.epoch) (h1 : x.oneCell' = true)
      (hx : l.epoch = e → ∃ p, x = .pointer p ∧ ∀ g n c, l.hdr = .slice (some ⟨g, 0, none⟩) n c → 0 < n → p = some ⟨g, 0, none⟩) : RelV γ w (.odp id e) x
  | psl (id off len b cap : Nat) (l : Loc) (h : γ.locs[id]? = some l) (hb : l.hdr = .pointer (some ⟨b, 0, none⟩)) (hc : len ≤ cap) (hm : cap ≤ maxLen) :
      RelV γ w (.psl id off len) (.slice (some ⟨b, off, none⟩) len cap)
  | mref (id b : Nat) (l : Loc) (h : γ.locs[id]? = some l) (hb : l.hdr = .map (some b)) : RelV γ w (.mref id) (.map (some b))
  | clo (f : FuncId) (caps : List V) (vs : Array Value) (hl : vs.size = caps.length)
      (h : ∀ (i : Nat) v x, caps[i]? = some v → vs[i]? = some x → RelV γ w v x) : RelV γ w (.clo f caps) (.func (.func f) #[] vs)
  | gp (g : Nat) : RelV γ w (.gp g) (.pointer (some ⟨g, 0, none⟩))
  | gv (g : Nat) (x : Value) (hp : γ.pers g) (hc : w.cell? ⟨g, 0, none⟩ = some x) : RelV γ w (.gv g) x
  | anyb (b : Bool) : RelV γ w .anyb (.bool b)

/-- What is kept of the objects with a number below n. -/
def LocsKept (n : Nat) (γ γ' : Gh) : Prop :=
  ∀ (id : Nat) (l : Loc), id < n → γ.locs[id]? = some l →
    ∃ l' : Loc, γ'.locs[id]? = some l' ∧ (l'.epoch = l.epoch → l'.hdr = l.hdr) ∧ (l.fix = true → l'.hdr = l.hdr) ∧ l'.fix = l.fix ∧ l.epoch ≤ l'.epoch

theorem LocsKept.refl (n : Nat) (γ : Gh) : LocsKept n γ γ := fun _ l _ h => ⟨l, h, fun _ => rfl, fun _ => rfl, rfl, Nat.le_refl _⟩
theorem LocsKept.trans {n : Nat} {a b c : Gh} (h : LocsKept n a b) (k : LocsKept n b c) : LocsKept n a c := by
  intro id l hid hl
  obtain ⟨l1, h1, h2, h3, h4, h5⟩ := h id l hid hl
  obtain ⟨l2, k1, k2, k3, k4, k5⟩ := k id l1 hid h1
  refine ⟨l2, k1, fun he => ?_, fun hf => ?_, by rw [k4, h4], Nat.le_trans h5 k5⟩
  · have e1 : l1.epoch = l.epoch := by omega
    have e2 : l2.epoch = l1.epoch := by omega
    rw [k2 e2, h2 e1]
  · rw [k3 (by rw [h4]; exact hf), h3 hf]
theorem LocsKept.mono {n m : Nat} {a b : Gh} (h : LocsKept n a b) (hm : m ≤ n) : LocsKept m a b := fun id l hid hl => h id l (by omega) hl

theorem lt_of_some {α : Type} {l : List α} {i : Nat} {x : α} (h : l[i]? = some x) : i < l.length := by
  rcases Nat.lt_or_ge i l.length with h' | h'
  · exact h'
  · rw [List.getElem?_eq_none h'] at h; cases h

theorem RelV.mono {γ γ' : Gh} {w w' : World} (hp : ∀ b, γ.pers b → γ'.pers b) (hw : ∀ b, γ.pers b → w'.heap[b]? = w.heap[b]?)
    (hk : LocsKept γ.locs.length γ γ') {v : V} {x : Value} (h : RelV γ w v x) : RelV γ' w' v x := by
  induction h with
  | undef x => exact .undef x
  | c x v h => exact .c x v (h.mono hp hw)
  | agg cs vs hl _ ih => exact .agg cs vs hl ih
  | tup cs vs hl _ ih => exact .tup cs vs hl ih
  | ptr id off b l h hb =>
    obtain ⟨l', h1, _, h3, _⟩ := hk id l (lt_of_some h) h
    exact .ptr id off b l' h1 (by rw [h3 (by simp [Loc.fix, hb]), hb])
  | ep cells off a f hpp hs hcell hr =>
    refine .ep cells off a f (hp _ hpp) hs (fun j c hj => ?_) (fun j c hj => (hr j c hj).mono hp hw)
    rw [cell_of_heap (w := w) (by rw [block_add]; exact hw _ hpp)]
    exact hcell j c hj
  | own id e l x h hf he h1 hx =>
    obtain ⟨l', k1, k2, _, k4, k5⟩ := hk id l (lt_of_some h) h
    refine .own id e l' x k1 (by rw [k4, hf]) (by omega) h1 fun hee => ?_
    have e1 : l.epoch = e := by omega
    rw [k2 (by omega)]
    exact hx e1
  | odp id e l x h hf he h1 hx =>
    obtain ⟨l', k1, k2, _, k4, k5⟩ := hk id l (lt_of_some h) h
    refine .odp id e l' x k1 (by rw [k4, hf]) (by omega) h1 fun hee => ?_
    have e1 : l.epoch = e := by omega
    rw [k2 (by omega)]
    exact hx e1
  | psl id off len b cap l h hb hc hm =>
    obtain ⟨l', h1, _, h3, _⟩ := hk id l (lt_of_some h) h
    exact .psl id off len b cap l' h1 (by rw [h3 (by simp [Loc.fix, hb]), hb]) hc hm
  | mref id b l h hb =>
    obtain ⟨l', h1, _, h3, _⟩ := hk id l (lt_of_some h) h
    exact .mref id b l' h1 (by rw [h3 (by simp [Loc.fix, hb]), hb])
  | clo f caps vs hl _ ih => exact .clo f caps vs hl ih
  | gp g => exact .gp g
  | gv g x hpp hc => exact .gv g x (hp _ hpp) (by rw [cell_of_heap (w := w) (hw _ hpp)]; exact hc)
  | anyb b => exact .anyb b

/-- The value of cells: an aggregate, or the one cell itself. -/
def RelCells (pers : Nat → Prop) (w : World) (agg : Bool) (cs : List C) (v : Value) : Prop :=
  if agg then ∃ vs : Array Value, v = .agg vs ∧ vs.size = cs.length ∧ ∀ (i : Nat) c x, cs[i]? = some c → vs[i]? = some x → RelC pers w c x
  else ∃ c, cs = [c] ∧ RelC pers w c v

theorem RelCells.mono {pers pers' : Nat → Prop} {w w' : World} (hp : ∀ b, pers b → pers' b) (hw : ∀ b, pers b → w'.heap[b]? = w.heap[b]?)
    {ag : Bool} {cs : List C} {v : Value} (h : RelCells pers w ag cs v) : RelCells pers' w' ag cs v := by
  unfold RelCells at *
  split at h
  · next hag =>
    rw [if_pos hag]
    obtain ⟨vs, h1, h2, h3⟩ := h
    exact ⟨vs, h1, h2, fun i c x hi hx => (h3 i c x hi hx).mono hp hw⟩
  · next hag =>
    rw [if_neg hag]
    obtain ⟨c, h1, h2⟩ := h
    exact ⟨c, h1, h2.mono hp hw⟩

/-- Cells in a row hold abstract cells. -/
def RelRow (γ : Gh) (w : World) (cs : List V) (vs : Array Value) : Prop :=
  vs.size = cs.length ∧ ∀ (i : Nat) v x, cs[i]? = some v → vs[i]? = some x → RelV γ w v x ∧ x.oneCell' = true

theorem RelRow.mono {γ γ' : Gh} {w w' : World} (hp : ∀ b, γ.pers b → γ'.pers b) (hw : ∀ b, γ.pers b → w'.heap[b]? = w.heap[b]?)
    (hk : LocsKept γ.locs.length γ γ') {cs : List V} {vs : Array Value} (h : RelRow γ w cs vs) : RelRow γ' w' cs vs :=
  ⟨h.1, fun i v x hi hx => ⟨(h.2 i v x hi hx).1.mono hp hw hk, (h.2 i v x hi hx).2⟩⟩

/-- A store object, at its place. -/
def RelO (γ : Gh) (w : World) (l : Loc) : SO → Prop
  | .dead => True
  | .box cs => l.blk2 = none ∧ ∃ b vs T, l.hdr = .pointer (some ⟨b, 0, none⟩) ∧ w.heap[b]? = some (.cells vs T (0, 0)) ∧ RelRow γ w cs vs
  | .arr ety esz e xs => l.blk2 = none ∧ l.epoch = e ∧ l.fix = false ∧ ∃ vs, w.ownsRow 0 ety esz l.hdr xs.length vs ∧ (∀ x ∈ xs, x.length = esz) ∧
      ∀ (i : Nat) c v, xs.flatten[i]? = some c → vs[i]? = some v → RelC γ.pers w c v
  | .map kagg vagg es => l.blk2 = none ∧ ∃ b ents clock, l.hdr = .map (some b) ∧ w.heap[b]? = some (.map ents clock) ∧ ents.size = es.length ∧
      (∀ (i : Nat) e x, es[i]? = some e → ents[i]? = some x → RelCells γ.pers w kagg e.1 x.key ∧ RelCells γ.pers w vagg e.2 x.val) ∧
      (∀ (i : Nat) x, ents[i]? = some x → x.born < clock) ∧ (∀ (i j : Nat) x y, ents[i]? = some x → ents[j]? = some y → x.born = y.born → i = j)
  | .tbox T cs => l.blk2 = none ∧ ∃ b vs, l.hdr = .pointer (some ⟨b, 0, none⟩) ∧ w.heap[b]? = some (.cells vs T (0, 0)) ∧ RelRow γ w cs vs
  | .siter str pos => l.blk2 = none ∧ ∃ b s, l.hdr = .pointer (some ⟨b, 0, none⟩) ∧ s.data.toList = str ∧ w.heap[b]? = some (.stringIter s pos)

/-- Blocks that a world's step may have touched are the owned ones alone. -/
structure Evo (n : Nat) (γ : Gh) (w : World) (γ' : Gh) (w' : World) : Prop where
  base : γ'.base = γ.base
  os : w'.os = w.os
  tape : w'.tape = w.tape
  output : w'.output = w.output
  size : w.heap.size ≤ w'.heap.size
  keep : ∀ b, b < w.heap.size → ¬ γ.owns b → w'.heap[b]? = w.heap[b]?
  pers : ∀ b, γ.pers b → γ'.pers b
  newp : ∀ b, γ'.pers b → b < w.heap.size → γ.pers b ∨ γ.owns b
  newo : ∀ b, γ'.owns b → b < w.heap.size → γ.owns b
  locs : LocsKept n γ γ'

theorem Evo.refl (n : Nat) (γ : Gh) (w : World) : Evo n γ w γ w :=
  ⟨rfl, rfl, rfl, rfl, Nat.le_refl _, fun _ _ _ => rfl, fun _ h => h, fun _ h _ => .inl h, fun _ h _ => h, .refl _ _⟩

theorem Evo.trans {n m : Nat} {a b c : Gh} {u v w : World} (h : Evo n a u b v) (k : Evo m b v c w) (hm : n ≤ m) : Evo n a u c w where
  base := k.base.trans h.base
  os := k.os.trans h.os
  tape := k.tape.trans h.tape
  output := k.output.trans h.output
  size := Nat.le_trans h.size k.size
  keep := fun x hx ho => (k.keep x (Nat.lt_of_lt_of_le hx h.size) (fun hb => ho (h.newo x hb hx))).trans (h.keep x hx ho)
  pers := fun x hx => k.pers x (h.pers x hx)
  newp := fun x hx hlt => by
    rcases k.newp x hx (Nat.lt_of_lt_of_le hlt h.size) with h1 | h1
    · exact h.newp x h1 hlt
    · exact .inr (h.newo x h1 hlt)
  newo := fun x hx hlt => h.newo x (k.newo x hx (Nat.lt_of_lt_of_le hlt h.size)) hlt
  locs := h.locs.trans (k.locs.mono hm)

/-- The world, and the store that it holds. -/
structure RelW (γ : Gh) (st : List SO) (w : World) : Prop where
  len : γ.locs.length = st.length
  basesz : γ.base.heap.size ≤ w.heap.size
  base : ∀ b, b < γ.base.heap.size → γ.pers b ∧ w.heap[b]? = γ.base.heap[b]?
  plt : ∀ b, γ.pers b → b < w.heap.size
  olt : ∀ b, γ.owns b → b < w.heap.size
  apart : ∀ b, γ.pers b → ¬ γ.owns b
  inj : ∀ (i j : Nat) l l' b, γ.locs[i]? = some l → γ.locs[j]? = some l' → b ∈ l.blks → b ∈ l'.blks → i = j
  two : ∀ (i : Nat) l, γ.locs[i]? = some l → l.blks.Nodup
  objs : ∀ (i : Nat) l o, γ.locs[i]? = some l → st[i]? = some o → RelO γ w l o

theorem ownsRow_heap {w w' : World} {base : Nat} {e : TypeId} {size n : Nat} {v : Value} {xs : List Value} (h : w.ownsRow base e size v n xs)
    (hw : ∀ b, blkOf v = some b → w'.heap[b]? = w.heap[b]?) : w'.ownsRow base e size v n xs := by
  refine ⟨h.1, ?_⟩
  rcases h.2 with h1 | ⟨g, cap, cur, rfl, h2, h3, h4⟩
  · exact .inl h1
  · exact .inr ⟨g, cap, cur, rfl, h2, by rw [hw g rfl]; exact h3, h4⟩

theorem RelO.mono {γ γ' : Gh} {w w' : World} {l : Loc} {o : SO} (hp : ∀ b, γ.pers b → γ'.pers b) (hw : ∀ b, γ.pers b → w'.heap[b]? = w.heap[b]?)
    (hk : LocsKept γ.locs.length γ γ') (hb : ∀ b ∈ l.blks, w'.heap[b]? = w.heap[b]?) (h : RelO γ w l o) : RelO γ' w' l o := by
  have hh : ∀ b, blkOf l.hdr = some b → w'.heap[b]? = w.heap[b]? := fun b he => hb b (by unfold Loc.blks; rw [he]; simp)
  cases o with
  | dead => exact trivial
  | box cs =>
    obtain ⟨k1, b, vs, T, k2, k3, k4⟩ := h
    exact ⟨k1, b, vs, T, k2, by rw [hh b (by rw [k2]; rfl)]; exact k3, k4.mono hp hw hk⟩
  | arr ety esz e xs =>
    obtain ⟨k1, k2, k3, vs, k4, k5, k6⟩ := h
    exact ⟨k1, k2, k3, vs, ownsRow_heap k4 hh, k5, fun i c v hc hv => (k6 i c v hc hv).mono hp hw⟩
  | map ka va es =>
    obtain ⟨k1, b, ents, clock, k2, k3, k4, k5, k6⟩ := h
    exact ⟨k1, b, ents, clock, k2, by rw [hh b (by rw [k2]; rfl)]; exact k3, k4, fun i e x he hx => ⟨(k5 i e x he hx).1.mono hp hw, (k5 i e x he hx).2.mono hp hw⟩, k6⟩
  | tbox T cs =>
    obtain ⟨k1, b, vs, k2, k3, k4⟩ := h
    exact ⟨k1, b, vs, k2, by rw [hh b (by rw [k2]; rfl)]; exact k3, k4.mono hp hw hk⟩
  | siter str pos =>
    obtain ⟨k1, b, s, k2, k3, k4⟩ := h
    exact ⟨k1, b, s, k2, k3, by rw [hh b (by rw [k2]; rfl)]; exact k4⟩

/-- New blocks, draws: the store is as it was. -/
theorem RelW.frame {γ : Gh} {st : List SO} {w w' : World} (h : RelW γ st w) (hs : w.heap.size ≤ w'.heap.size) (hw : ∀ b, b < w.heap.size → w'.heap[b]? = w.heap[b]?) :
    RelW γ st w' := by
  have hpk : ∀ b, γ.pers b → w'.heap[b]? = w.heap[b]? := fun b hb => hw b (h.plt b hb)
  refine ⟨h.len, Nat.le_trans h.basesz hs, fun b hb => ⟨(h.base b hb).1, (hw b (Nat.lt_of_lt_of_le hb h.basesz)).trans (h.base b hb).2⟩, fun b hb => Nat.lt_of_lt_of_le (h.plt b hb) hs,
    fun b hb => Nat.lt_of_lt_of_le (h.olt b hb) hs, h.apart, h.inj, h.two, fun i l o hl ho => ?_⟩
  exact (h.objs i l o hl ho).mono (fun _ h => h) hpk (.refl _ _) (fun b hb => hw b (h.olt b ⟨i, l, hl, hb⟩))

theorem heap_alloc_old (w : World) (o : Obj) (b : Nat) (h : b < w.heap.size) : (w.alloc o).heap[b]? = w.heap[b]? := by
  show (w.heap.push o)[b]? = w.heap[b]?
  rw [Array.getElem?_push]
  rw [if_neg (by omega)]
theorem heap_alloc_at (w : World) (o : Obj) : (w.alloc o).heap[w.heap.size]? = some o := by
  show (w.heap.push o)[w.heap.size]? = some o
  rw [Array.getElem?_push]
  simp

end Go.L1
namespace Go.L1
open Go

abbrev Fenv := Nat → V
def upd (f : Fenv) (d : Nat) (v : V) : Fenv := fun t => if t = d then v else f t
def updO (f : Fenv) : Option Nat → V → Fenv
  | some d, v => upd f d v
  | none, _ => f
theorem upd_comm (f : Fenv) {d e : Nat} (v u : V) (h : d ≠ e) : upd (upd f d v) e u = upd (upd f e u) d v := by
  funext t; unfold upd; by_cases h1 : t = d <;> by_cases h2 : t = e <;> simp_all
theorem updO_comm (f : Fenv) {x y : Option Nat} (v u : V) (h : ∀ d, x = some d → y ≠ some d) : updO (updO f x v) y u = updO (updO f y u) x v := by
  cases x with
  | none => rfl
  | some d =>
    cases y with
    | none => rfl
    | some e => exact upd_comm f v u (fun he => h d rfl (he ▸ rfl))
theorem upd_same (f : Fenv) (d : Nat) (v : V) : upd f d v d = v := by simp [upd]
theorem upd_ne (f : Fenv) {d t : Nat} (v : V) (h : t ≠ d) : upd f d v t = f t := by simp [upd, h]

/-- What is fixed along a function's body: the program, what is known of the base world, the number of slots, the number of objects at the call. -/
structure Cx where
  P : Program
  G : World → Prop
  N : Nat
  n0 : Nat

/-- A slot's value. -/
def RelS (γ : Gh) (w : World) (gb : Nat → Nat) (d : Nat) : V → Value → Prop
  | .box cs, x => x = .pointer (some ⟨gb d, 0, none⟩) ∧ ∃ vs T, w.heap[gb d]? = some (.cells vs T (0, 0)) ∧ RelRow γ w cs vs
  | .lp d' off, x => x = .pointer (some ⟨gb d', off, none⟩)
  | v, x => RelV γ w v x

/-- The marks that loops over functions leave among a frame's deferred calls: their blocks lie as they were laid. -/
def mark (D : Nat) : Deferred := { target := .collected D, args := #[] }
def Marks (B : Nat) (γ : Gh) (w : World) (ds : List Deferred) : Prop :=
  ∃ Ds : List Nat, ds = Ds.map mark ∧ Ds.Nodup ∧ ∀ D ∈ Ds, B ≤ D ∧ w.heap[D]? = some (.deferred (some [])) ∧ ¬ γ.pers D ∧ ¬ γ.owns D
theorem Marks.nil {B : Nat} {γ : Gh} {w : World} : Marks B γ w [] := ⟨[], rfl, .nil, fun _ h => by cases h⟩
theorem Marks.mono {B : Nat} {γ γ' : Gh} {w w' : World} {ds : List Deferred} (h : Marks B γ w ds)
    (hw : ∀ D, B ≤ D → w.heap[D]? = some (.deferred (some [])) → ¬ γ.pers D → ¬ γ.owns D → w'.heap[D]? = w.heap[D]?)
    (hp : ∀ D, D < w.heap.size → w.heap[D]? = some (.deferred (some [])) → γ'.pers D → γ.pers D ∨ γ.owns D)
    (ho : ∀ D, D < w.heap.size → w.heap[D]? = some (.deferred (some [])) → γ'.owns D → γ.owns D) : Marks B γ' w' ds := by
  obtain ⟨Ds, h1, h2, h3⟩ := h
  refine ⟨Ds, h1, h2, fun D hD => ?_⟩
  obtain ⟨k1, k2, k3, k4⟩ := h3 D hD
  have hlt : D < w.heap.size := (Array.getElem?_eq_some_iff.1 k2).1
  refine ⟨k1, (hw D k1 k2 k3 k4).trans k2, fun h => ?_, fun h => k4 (ho D hlt k2 h)⟩
  rcases hp D hlt k2 h with h5 | h5
  · exact k3 h5
  · exact k4 h5

structure StG (cx : Cx) (γ0 : Gh) (w0 : World) (γ : Gh) (gb : Nat → Nat) (f : Fenv) (st : List SO) (a : Act) (w : World) : Prop where
  evo : Evo cx.n0 γ0 w0 γ w
  n0 : γ0.locs.length = cx.n0
  rel : RelW γ st w
  g : cx.G γ.base
  size : a.tmps.size = cx.N
  defers : Marks w0.heap.size γ w a.defers
  slots : ∀ d, RelS γ w gb d (f d) (a.tmps.getD d undef)
  boxes : ∀ d cs, f d = .box cs → w0.heap.size ≤ gb d ∧ gb d < w.heap.size ∧ ¬ γ.pers (gb d) ∧ ¬ γ.owns (gb d)
  inj : ∀ d d' cs cs', f d = .box cs → f d' = .box cs' → gb d = gb d' → d = d'

def St (cx : Cx) (γ0 : Gh) (w0 : World) (f : Fenv) (st : List SO) (a : Act) (w : World) : Prop := ∃ γ gb, StG cx γ0 w0 γ gb f st a w

/-- Everything may be called; in a round or not. -/
def wideR (ro : Option Nat) : Fence := { Fence.wide with round := ro }
theorem callsIn_wideR {ro : Option Nat} {n : Nat} {P : Program} {g : FuncId} {args : Array Value} {w : World} {R : Ending → World → Prop} (h : Calls P g args w R) : CallsIn (wideR ro) n P g args w R := by
  cases ro with
  | none => exact callsIn_wide.2 h
  | some l => exact CallsIn.inRound l (callsIn_wide.2 h)
/-- No loop over a function. -/
def noRng : Code → Bool
  | .rangeFunc _ _ _ _ => false
  | .seq a b => noRng a && noRng b
  | .cond _ a b => noRng a && noRng b
  | .block _ b => noRng b
  | .loop b => noRng b
  | _ => true
/-- The triple. -/
def Tri (cx : Cx) (c : Code) (f : Fenv) (st : List SO) (Q : Exit → Fenv → List SO → Prop) : Prop :=
  ∀ γ0 w0 a w, St cx γ0 w0 f st a w → ∀ ro n, (ro = none ∨ noRng c = true) → c.wpIn (wideR ro) n cx.P (fun e a' w' => ∃ f' st', Q e f' st' ∧ St cx γ0 w0 f' st' a' w') a w

section
variable {cx : Cx} {f : Fenv} {st : List SO} {Q Q' : Exit → Fenv → List SO → Prop}

theorem Tri.mono {c : Code} (h : Tri cx c f st Q) (hq : ∀ e f st, Q e f st → Q' e f st) : Tri cx c f st Q' :=
  fun γ0 w0 a w hs ro n hr => wpIn_mono (h γ0 w0 a w hs ro n hr) fun _ _ _ ⟨f', st', q, s⟩ => ⟨f', st', hq _ _ _ q, s⟩

theorem tri_skip (h : Q .normal f st) : Tri cx .skip f st Q := fun _ _ _ _ hs _ _ _ => wpIn_skip ⟨f, st, h, hs⟩
theorem tri_ret (h : Q .ret f st) : Tri cx .ret f st Q := fun _ _ _ _ hs _ _ _ => wpIn_ret ⟨f, st, h, hs⟩
theorem tri_exit {id : Nat} (h : Q (.exit id) f st) : Tri cx (.exit id) f st Q := fun _ _ _ _ hs _ _ _ => wpIn_exit ⟨f, st, h, hs⟩

def thenT (K : Fenv → List SO → Prop) (Q : Exit → Fenv → List SO → Prop) : Exit → Fenv → List SO → Prop
  | .normal, f, st => K f st
  | e, f, st => Q e f st
def blockT (id : Nat) (Q : Exit → Fenv → List SO → Prop) : Exit → Fenv → List SO → Prop
  | .exit id', f, st => if id' = id then Q .normal f st else Q (.exit id') f st
  | e, f, st => Q e f st

theorem tri_seq {x y : Code} (h : ∀ K : Fenv → List SO → Prop, (∀ f st, Tri cx y f st Q → K f st) → Tri cx x f st (thenT K Q)) : Tri cx (.seq x y) f st Q := by
  intro γ0 w0 a w hs ro n hr
  refine wpIn_seq (wpIn_mono (h (fun f st => Tri cx y f st Q) (fun _ _ h => h) γ0 w0 a w hs ro n (hr.imp_right fun h => by simp only [noRng, Bool.and_eq_true] at h; exact h.1)) ?_)
  have hr2 : ro = none ∨ noRng y = true := hr.imp_right fun h => by simp only [noRng, Bool.and_eq_true] at h; exact h.2
  rintro e a1 w1 ⟨f1, st1, q, s⟩
  cases e <;> first | exact q γ0 w0 a1 w1 s ro n hr2 | exact ⟨f1, st1, q, s⟩

theorem tri_block {id : Nat} {c : Code} (h : Tri cx c f st (blockT id Q)) : Tri cx (.block id c) f st Q := by
  intro γ0 w0 a w hs ro n hr
  refine wpIn_block (wpIn_mono (h γ0 w0 a w hs ro n hr) ?_)
  rintro e a1 w1 ⟨f1, st1, q, s⟩
  cases e with
  | exit id' =>
    simp only [blockT] at q
    simp only [Exit.inBlock]
    split <;> simp_all <;> exact ⟨f1, st1, q, s⟩
  | _ => exact ⟨f1, st1, q, s⟩

/-- An operand's abstract value: a slot that holds a box is a pointer to it. -/
def constV : Value → V
  | .bool b => .c (.bool b)
  | .int k n => .c (.int k n)
  | .string s => if s.size ≤ maxLen then .c (.str s.data.toList) else .undef
  | .slice none 0 0 => .c (.sl [])
  | .nilFunc => .c .nilfn
  | .pointer none => .c .nilp
  | .map none => .c .nilm
  | _ => .undef
def slotV (d : Nat) : V → V
  | .box _ => .lp d 0
  | v => v
def opnd (f : Fenv) : Operand → V
  | .tmp t => slotV t (f t)
  | .const v => constV v
  | .global g => .gp g
  | .func g => .c (.fn g)

theorem relV_constV {γ : Gh} {w : World} (v : Value) : RelV γ w (constV v) v := by
  unfold constV
  split
  · exact .c _ _ (.bool _)
  · exact .c _ _ (.int _ _)
  · split
    · next h => exact .c _ _ (.str _ h)
    · exact .undef _
  · exact .c _ _ .nilsl
  · exact .c _ _ .nilfn
  · exact .c _ _ .nilp
  · exact .c _ _ .nilm
  · exact .undef _

theorem relS_slotV {γ : Gh} {w : World} {gb : Nat → Nat} {d : Nat} {v : V} {x : Value} (h : RelS γ w gb d v x) : RelS γ w gb d (slotV d v) x := by
  cases v with
  | box cs => exact h.1
  | _ => exact h

/-- A value that may be handed on (no box, no pointer to one). -/
def plainV : V → Bool
  | .box _ => false
  | .lp _ _ => false
  | _ => true
theorem RelS.plain {γ : Gh} {w : World} {gb : Nat → Nat} {d : Nat} {v : V} {x : Value} (hp : plainV v = true) (h : RelS γ w gb d v x) : RelV γ w v x := by
  cases v <;> first | exact h | (simp [plainV] at hp)
theorem RelV.toS {γ : Gh} {w : World} {gb : Nat → Nat} {d : Nat} {v : V} {x : Value} (h : RelV γ w v x) : RelS γ w gb d v x := by
  cases v <;> first | exact h | cases h

theorem tri_cond {c : Operand} {x y : Code} {b : Bool} (hc : opnd f c = .c (.bool b)) (ht : b = true → Tri cx x f st Q) (hf : b = false → Tri cx y f st Q) :
    Tri cx (.cond c x y) f st Q := by
  intro γ0 w0 a w hs ro n hr
  have hr1 : ro = none ∨ noRng x = true := hr.imp_right fun h => by simp only [noRng, Bool.and_eq_true] at h; exact h.1
  have hr2 : ro = none ∨ noRng y = true := hr.imp_right fun h => by simp only [noRng, Bool.and_eq_true] at h; exact h.2
  obtain ⟨γ, gb, sg⟩ := hs
  have hev : a.eval c = .bool b := by
    have key : ∀ v, RelV γ w (.c (.bool b)) v → v = .bool b := by
      intro v hv; cases hv with | c _ _ h => cases h; rfl
    cases c with
    | tmp t =>
      have h1 := relS_slotV (sg.slots t)
      simp only [opnd] at hc
      rw [hc] at h1
      exact key _ h1
    | const v => simp only [opnd] at hc; have := relV_constV (γ := γ) (w := w) v; rw [hc] at this; exact key _ this
    | global g => simp [opnd] at hc
    | func g => simp [opnd] at hc
  exact wpIn_cond_split hev (fun h => ht h γ0 w0 a w ⟨γ, gb, sg⟩ ro n hr1) (fun h => hf h γ0 w0 a w ⟨γ, gb, sg⟩ ro n hr2)

theorem tri_condAny {c : Operand} {x y : Code} (hc : opnd f c = .anyb) (ht : Tri cx x f st Q) (hf : Tri cx y f st Q) : Tri cx (.cond c x y) f st Q := by
  intro γ0 w0 a w hs ro n hr
  have hr1 : ro = none ∨ noRng x = true := hr.imp_right fun h => by simp only [noRng, Bool.and_eq_true] at h; exact h.1
  have hr2 : ro = none ∨ noRng y = true := hr.imp_right fun h => by simp only [noRng, Bool.and_eq_true] at h; exact h.2
  obtain ⟨γ, gb, sg⟩ := hs
  have hev : ∃ b, a.eval c = .bool b := by
    have key : ∀ v, RelV γ w .anyb v → ∃ b, v = .bool b := by
      intro v hv; cases hv with | anyb b => exact ⟨b, rfl⟩
    cases c with
    | tmp t =>
      have h1 := relS_slotV (sg.slots t)
      simp only [opnd] at hc
      rw [hc] at h1
      exact key _ h1
    | const v => simp only [opnd] at hc; have := relV_constV (γ := γ) (w := w) v; rw [hc] at this; exact key _ this
    | global g => simp [opnd] at hc
    | func g => simp [opnd] at hc
  obtain ⟨b, hev⟩ := hev
  exact wpIn_cond_split hev (fun _ => ht γ0 w0 a w ⟨γ, gb, sg⟩ ro n hr1) (fun _ => hf γ0 w0 a w ⟨γ, gb, sg⟩ ro n hr2)

/-- One state says less than another. -/
def Weak (cx : Cx) (f : Fenv) (st : List SO) (f' : Fenv) (st' : List SO) : Prop := ∀ γ0 w0 a w, St cx γ0 w0 f st a w → St cx γ0 w0 f' st' a w
theorem Weak.refl : Weak cx f st f st := fun _ _ _ _ h => h
theorem Weak.trans {f' f'' : Fenv} {st' st'' : List SO} (h : Weak cx f st f' st') (k : Weak cx f' st' f'' st'') : Weak cx f st f'' st'' :=
  fun γ0 w0 a w hs => k γ0 w0 a w (h γ0 w0 a w hs)

theorem tri_weak {c : Code} {f' : Fenv} {st' : List SO} (hw : Weak cx f st f' st') (h : Tri cx c f' st' Q) : Tri cx c f st Q :=
  fun γ0 w0 a w hs => h γ0 w0 a w (hw γ0 w0 a w hs)

/-- Forget slots. -/
theorem weak_env {f' : Fenv} (h : ∀ d, f' d = .undef ∨ f' d = f d) : Weak cx f st f' st := by
  rintro γ0 w0 a w ⟨γ, gb, sg⟩
  refine ⟨γ, gb, { sg with slots := fun d => ?_, boxes := fun d cs hd => ?_, inj := fun d d' cs cs' hd hd' hg => ?_ }⟩
  · rcases h d with h1 | h1
    · rw [h1]; exact .undef _
    · rw [h1]; exact sg.slots d
  · rcases h d with h1 | h1
    · rw [h1] at hd; cases hd
    · rw [h1] at hd; exact sg.boxes d cs hd
  · rcases h d with h1 | h1
    · rw [h1] at hd; cases hd
    · rcases h d' with h2 | h2
      · rw [h2] at hd'; cases hd'
      · rw [h1] at hd; rw [h2] at hd'; exact sg.inj d d' cs cs' hd hd' hg

theorem tri_loop {c : Code} (I : Nat → Fenv → List SO → Prop) (m : Nat) (h0 : ∃ f' st', Weak cx f st f' st' ∧ I m f' st')
    (round : ∀ m f st, I m f st → Tri cx c f st (thenT (fun f' st' => ∃ m' f'' st'', m' < m ∧ Weak cx f' st' f'' st'' ∧ I m' f'' st'') Q)) :
    Tri cx (.loop c) f st Q := by
  intro γ0 w0 a w hs ro n hr
  obtain ⟨f', st', hw, hI⟩ := h0
  refine Go.wpIn_loop_ghost (fun m a w => ∃ f st, I m f st ∧ St cx γ0 w0 f st a w) m ⟨f', st', hI, hw γ0 w0 a w hs⟩ ?_
  rintro m a w ⟨f, st, hI, hs⟩
  refine wpIn_mono (round m f st hI γ0 w0 a w hs ro n hr) ?_
  rintro e a1 w1 ⟨f1, st1, q, s⟩
  cases e with
  | normal =>
    obtain ⟨m', f2, st2, hlt, hw2, hI2⟩ := q
    exact ⟨m', hlt, f2, st2, hI2, hw2 γ0 w0 a1 w1 s⟩
  | _ => exact ⟨f1, st1, q, s⟩
end
end Go.L1
namespace Go.L1
open Go

/-- The block of a box and its cells. -/
def Cont (γ : Gh) (w : World) (b : Nat) (cs : List V) : Prop :=
  ¬ γ.pers b ∧ ¬ γ.owns b ∧ b < w.heap.size ∧ ∃ vs T, w.heap[b]? = some (.cells vs T (0, 0)) ∧ RelRow γ w cs vs

def RelP (γ : Gh) (w : World) (gb : Nat → Nat) (t : Nat) : V → Value → Prop
  | .box _, x => x = .pointer (some ⟨gb t, 0, none⟩)
  | .lp d off, x => x = .pointer (some ⟨gb d, off, none⟩)
  | v, x => RelV γ w v x

def EvOk (γ : Gh) (w : World) (gb : Nat → Nat) (f : Fenv) (ev : Operand → Value) (xs : Array Operand) : Prop :=
  ∀ x ∈ xs, match x with
    | .tmp t => RelP γ w gb t (f t) (ev x)
    | .const v => ev x = v
    | .global g => ev x = .pointer (some ⟨g, 0, none⟩)
    | .func g => ev x = .func (.func g) #[] #[]

/-- Which slot is the address of a load or a store. -/
def addrOf : Op → Option Nat
  | .load _ (.tmp t) => some t
  | .store _ (.tmp t) _ => some t
  | _ => none

def ContOk (γ : Gh) (w : World) (gb : Nat → Nat) (f : Fenv) (op : Op) : Prop :=
  ∀ t, addrOf op = some t → (∀ cs, f t = .box cs → Cont γ w (gb t) cs) ∧ (∀ d off cs, f t = .lp d off → f d = .box cs → Cont γ w (gb d) cs)

structure Res where
  v : V
  bu : Option (Nat × List V)
  st : List SO

def RelNew (γ : Gh) (w : World) (lo : Nat) (gb : Nat → Nat) : V → Value → Prop
  | .box cs, x => ∃ b, x = .pointer (some ⟨b, 0, none⟩) ∧ lo ≤ b ∧ b < w.heap.size ∧ Cont γ w b cs
  | .lp d off, x => x = .pointer (some ⟨gb d, off, none⟩)
  | v, x => RelV γ w v x

/-- As Evo, one box's block let out. -/
structure EvoX (ex : Option Nat) (γ : Gh) (w : World) (γ' : Gh) (w' : World) : Prop where
  base : γ'.base = γ.base
  os : w'.os = w.os
  tape : w'.tape = w.tape
  output : w'.output = w.output
  size : w.heap.size ≤ w'.heap.size
  keep : ∀ b, b < w.heap.size → ¬ γ.owns b → ex ≠ some b → w'.heap[b]? = w.heap[b]?
  pers : ∀ b, γ.pers b → γ'.pers b
  newp : ∀ b, γ'.pers b → b < w.heap.size → γ.pers b ∨ γ.owns b
  newo : ∀ b, γ'.owns b → b < w.heap.size → γ.owns b
  locs : LocsKept γ.locs.length γ γ'

def Out (γ : Gh) (w : World) (gb : Nat → Nat) (r : Res) (x : Value) (w' : World) : Prop :=
  ∃ γ', EvoX (r.bu.map fun p => gb p.1) γ w γ' w' ∧ RelW γ' r.st w' ∧ RelNew γ' w' w.heap.size gb r.v x ∧
    ∀ d cs, r.bu = some (d, cs) → Cont γ' w' (gb d) cs

def UponV (P : Program) (R : Value → World → Prop) : Result Next → Prop
  | .ok (.value x) w' => R x w'
  | .ok .skip w' => R undef w'
  | .ok (.enter f args) w' => Calls P f args w' (fun e w'' => ∃ x, e = .returned x ∧ R x w'')
  | _ => False

/-- What an operation gives on an abstract state: its value, a box's new cells, the store. -/
def OpX (cx : Cx) (o : Oper) (f : Fenv) (st : List SO) (r : Res) : Prop :=
  ∀ γ w gb ev, RelW γ st w → cx.G γ.base → EvOk γ w gb f ev o.op.operands → ContOk γ w gb f o.op → UponV cx.P (Out γ w gb r) ((execOp ev o).run cx.P w)

/-- Where a pointer to a box, or a box that is written, comes from. -/
def Comes' (o : Oper) (f : Fenv) (d : Nat) : Prop := (∃ cs, f d = .box cs) ∧ ((∃ t off, Operand.tmp t ∈ o.op.operands ∧ f t = .lp d off) ∨ Operand.tmp d ∈ o.op.operands)

def isStore : Op → Bool
  | .store _ (.tmp _) _ => true
  | _ => false

def Side (o : Oper) (f : Fenv) (r : Res) : Prop :=
  (∀ d off, r.v = .lp d off → Comes' o f d) ∧ (∀ d cs, r.bu = some (d, cs) → Comes' o f d ∧ isStore o.op = true)

def updB (f : Fenv) : Option (Nat × List V) → Fenv
  | some (d, cs) => upd f d (.box cs)
  | none => f
def nextF (f : Fenv) (o : Oper) (r : Res) : Fenv := updO (updB f r.bu) o.dst r.v

/-- Is it carried out? -/
def GuardA (ops : Array Oper) (o : Oper) (f : Fenv) (b : Bool) : Prop :=
  match o.guard with
  | none => b = true
  | some (g, want) => ∃ t, (ops[g]?).bind (·.dst) = some t ∧ ((∃ c, f t = .c (.bool c) ∧ b = (c == want)) ∨ (f t = .tup [] ∧ b = false))

/-- A store into the box at its own address slot: nothing else is turned. -/
def Solo (o : Oper) (f : Fenv) (st : List SO) (r : Res) : Prop :=
  r.st = st ∧ ∃ d cs cs0, addrOf o.op = some d ∧ r.bu = some (d, cs) ∧ f d = .box cs0 ∧ isStore o.op = true
def Cls (k : Nat) (o : Oper) (f : Fenv) (st : List SO) (r : Res) : Prop := (k ≤ 1 → r.bu = none ∧ r.st = st) ∧ (k = 3 → Solo o f st r) ∧ (k = 4 → r.bu = none ∧ r.st = st ∧ ∃ d c, addrOf o.op = some d ∧ f d = .box c)

/-- One step. Class 3: a store into the box at its own address slot. Class 0: whatever the store; class 1: it may look into the store; class 2: it may turn a box or the store. -/
def Does (cx : Cx) (ops : Array Oper) (k : Nat) (o : Oper) (f : Fenv) (st : List SO) (f' : Fenv) (st' : List SO) : Prop :=
  ∃ b, GuardA ops o f b ∧
    if b then ∃ r, OpX cx o f st r ∧ Side o f r ∧ f' = nextF f o r ∧ st' = r.st ∧ (k = 0 → ∀ s, OpX cx o f s ⟨r.v, none, s⟩) ∧ Cls k o f st r
    else f' = updO f o.dst (.tup []) ∧ st' = st

/-! ### From an abstract step to the run -/

theorem evoX_none {γ γ' : Gh} {w w' : World} (h : EvoX none γ w γ' w') : Evo γ.locs.length γ w γ' w' :=
  ⟨h.base, h.os, h.tape, h.output, h.size, fun b h1 h2 => h.keep b h1 h2 (by simp), h.pers, h.newp, h.newo, h.locs⟩

theorem RelP.ofS {γ : Gh} {w : World} {gb : Nat → Nat} {t : Nat} {v : V} {x : Value} (h : RelS γ w gb t v x) : RelP γ w gb t v x := by
  cases v <;> first | exact h | exact h.1

/-- No pointer to slot d's box, nor a box there. -/
def NoBox (f : Fenv) (d : Nat) : Prop := (∀ cs, f d ≠ .box cs) ∧ ∀ t off, f t ≠ .lp d off

theorem step_state {cx : Cx} {γ0 γ γ' : Gh} {w0 w w' : World} {gb : Nat → Nat} {f : Fenv} {st : List SO} {a : Act} {r : Res} {x : Value} {dst : Option Nat}
    (sg : StG cx γ0 w0 γ gb f st a w) (hx : EvoX (r.bu.map fun p => gb p.1) γ w γ' w') (hr : RelW γ' r.st w') (hn : RelNew γ' w' w.heap.size gb r.v x)
    (hb : ∀ d cs, r.bu = some (d, cs) → Cont γ' w' (gb d) cs) (hbu : ∀ d cs, r.bu = some (d, cs) → ∃ cs', f d = .box cs')
    (hd : ∀ d, dst = some d → d < cx.N ∧ NoBox f d) : St cx γ0 w0 (updO (updB f r.bu) dst r.v) r.st (a.put dst x) w' := by
  -- the ghost blocks: a new box lies where its pointer says
  have hpk : ∀ b, γ.pers b → w'.heap[b]? = w.heap[b]? := by
    intro b hb'
    refine hx.keep b (sg.rel.plt b hb') (sg.rel.apart b hb') ?_
    intro he
    cases hbu' : r.bu with
    | none => rw [hbu'] at he; simp at he
    | some p =>
      obtain ⟨d, cs⟩ := p
      rw [hbu'] at he
      simp only [Option.map_some, Option.some.injEq] at he
      obtain ⟨cs', hf⟩ := hbu d cs hbu'
      exact (sg.boxes d cs' hf).2.2.1 (he ▸ hb')
  have keepV : ∀ v x, RelV γ w v x → RelV γ' w' v x := fun v x h => h.mono hx.pers hpk hx.locs
  have evo' : Evo cx.n0 γ0 w0 γ' w' := by
    have he := sg.evo
    refine ⟨hx.base.trans he.base, hx.os.trans he.os, hx.tape.trans he.tape, hx.output.trans he.output, Nat.le_trans he.size hx.size, fun b hb' ho => ?_,
      fun b hb' => hx.pers b (he.pers b hb'), fun b hb' hlt => ?_, fun b hb' hlt => he.newo b (hx.newo b hb' (Nat.lt_of_lt_of_le hlt he.size)) hlt, ?_⟩
    · rw [hx.keep b (Nat.lt_of_lt_of_le hb' he.size) (fun h => ho (he.newo b h hb')) ?_, he.keep b hb' ho]
      intro hee
      cases hbu' : r.bu with
      | none => rw [hbu'] at hee; simp at hee
      | some p =>
        obtain ⟨d, cs⟩ := p
        rw [hbu'] at hee
        simp only [Option.map_some, Option.some.injEq] at hee
        obtain ⟨cs', hf⟩ := hbu d cs hbu'
        have := (sg.boxes d cs' hf).1
        omega
    · rcases hx.newp b hb' (Nat.lt_of_lt_of_le hlt he.size) with h1 | h1
      · exact he.newp b h1 hlt
      · exact .inr (he.newo b h1 hlt)
    · refine he.locs.trans ?_
      intro id l hid hl
      exact hx.locs id l (lt_of_some hl) hl
  -- a box that was there
  have oldbox : ∀ d cs, f d = .box cs → w0.heap.size ≤ gb d ∧ gb d < w'.heap.size ∧ ¬ γ'.pers (gb d) ∧ ¬ γ'.owns (gb d) := by
    intro d cs hf
    obtain ⟨h1, h2, h3, h4⟩ := sg.boxes d cs hf
    refine ⟨h1, Nat.lt_of_lt_of_le h2 hx.size, fun h => ?_, fun h => h4 (hx.newo _ h h2)⟩
    rcases hx.newp _ h h2 with h5 | h5
    · exact h3 h5
    · exact h4 h5
  have content : ∀ d cs, updB f r.bu d = .box cs → ∃ vs T, w'.heap[gb d]? = some (.cells vs T (0, 0)) ∧ RelRow γ' w' cs vs := by
    intro d cs hd'
    cases hbu' : r.bu with
    | none =>
      rw [hbu'] at hd'
      have hd'' : f d = .box cs := hd'
      obtain ⟨_, h2, h3, h4⟩ := sg.boxes d cs hd''
      have hs := sg.slots d
      rw [hd''] at hs
      obtain ⟨_, vs, T, hh, hrow⟩ := hs
      refine ⟨vs, T, by rw [hx.keep _ h2 h4 (by simp [hbu'])]; exact hh, hrow.mono hx.pers hpk hx.locs⟩
    | some p =>
      obtain ⟨e, cs1⟩ := p
      by_cases hde : d = e
      · subst hde
        obtain ⟨_, _, _, hc⟩ := hb d cs1 hbu'
        rw [hbu'] at hd'
        simp only [updB, upd_same] at hd'
        injection hd' with hd'
        subst hd'
        exact hc
      · rw [hbu'] at hd'
        simp only [updB] at hd'
        rw [upd_ne _ _ hde] at hd'
        obtain ⟨_, h2, h3, h4⟩ := sg.boxes d cs hd'
        have hs := sg.slots d
        rw [hd'] at hs
        obtain ⟨_, vs, T, hh, hrow⟩ := hs
        obtain ⟨cs', hf⟩ := hbu e cs1 hbu'
        refine ⟨vs, T, by rw [hx.keep _ h2 h4 (by simp only [hbu', Option.map_some, ne_eq, Option.some.injEq]; exact fun h => hde (sg.inj d e cs cs' hd' hf h.symm))]; exact hh, hrow.mono hx.pers hpk hx.locs⟩
  have isbox : ∀ d cs, updB f r.bu d = .box cs → ∃ cs', f d = .box cs' := by
    intro d cs hd'
    cases hbu' : r.bu with
    | none => rw [hbu'] at hd'; exact ⟨cs, hd'⟩
    | some p =>
      obtain ⟨e, cs1⟩ := p
      by_cases hde : d = e
      · subst hde; exact hbu d cs1 hbu'
      · rw [hbu'] at hd'
        simp only [updB] at hd'
        rw [upd_ne _ _ hde] at hd'
        exact ⟨cs, hd'⟩
  have updBne : ∀ d v, (∀ cs, v ≠ .box cs) → updB f r.bu d = v → f d = v := by
    intro d v hv hd'
    cases hbu' : r.bu with
    | none => rw [hbu'] at hd'; exact hd'
    | some p =>
      obtain ⟨e, cs1⟩ := p
      rw [hbu'] at hd'
      simp only [updB] at hd'
      by_cases hde : d = e
      · subst hde; rw [upd_same] at hd'; exact absurd hd'.symm (hv cs1)
      · rw [upd_ne _ _ hde] at hd'; exact hd'
  -- every slot but the written one, before the ghost blocks turn
  have slot0 : ∀ d, RelS γ' w' gb d (updB f r.bu d) (a.tmps.getD d undef) := by
    intro d
    cases hv : updB f r.bu d with
    | box cs =>
      obtain ⟨cs', hf⟩ := isbox d cs hv
      have hs := sg.slots d
      rw [hf] at hs
      exact ⟨hs.1, content d cs hv⟩
    | lp d' off =>
      have hs := sg.slots d
      rw [updBne d _ (by simp) hv] at hs
      exact hs
    | _ =>
      have hs := sg.slots d
      rw [updBne d _ (by simp) hv] at hs
      exact keepV _ _ hs
  have hsz : (a.put dst x).tmps.size = cx.N := by cases dst <;> simp [Act.put, sg.size]
  have hdf : Marks w0.heap.size γ' w' (a.put dst x).defers := by
    rw [show (a.put dst x).defers = a.defers by cases dst <;> rfl]
    refine sg.defers.mono (fun D _ h2 h3 h4 => hx.keep D (Array.getElem?_eq_some_iff.1 h2).1 h4 fun he => ?_) (fun D hlt _ h => hx.newp _ h hlt) (fun D hlt _ h => hx.newo _ h hlt)
    cases hbu' : r.bu with
    | none => rw [hbu'] at he; simp at he
    | some p =>
      obtain ⟨d, cs⟩ := p
      rw [hbu'] at he
      simp only [Option.map_some, Option.some.injEq] at he
      obtain ⟨cs', hf⟩ := hbu d cs hbu'
      have hs := sg.slots d
      rw [hf] at hs
      obtain ⟨_, vs, T, hh, _⟩ := hs
      rw [he, h2] at hh
      cases hh
  have hg : cx.G γ'.base := by rw [hx.base]; exact sg.g
  cases dst with
  | none =>
    refine ⟨γ', gb, evo', sg.n0, hr, hg, hsz, hdf, slot0, fun d cs hd' => ?_, fun d d' cs cs' h1 h2 hgb => ?_⟩
    · obtain ⟨cs', hf⟩ := isbox d cs hd'
      exact oldbox d cs' hf
    · obtain ⟨c1, hf1⟩ := isbox d cs h1
      obtain ⟨c2, hf2⟩ := isbox d' cs' h2
      exact sg.inj d d' c1 c2 hf1 hf2 hgb
  | some e =>
    obtain ⟨hlt, hnb1, hnb2⟩ := hd e rfl
    have hget : ∀ d, (a.put (some e) x).tmps.getD d undef = if d = e then x else a.tmps.getD d undef := by
      intro d
      by_cases hde : d = e
      · subst hde
        simp [Act.put, sg.size, hlt]
      · simp [Act.put, hde, Array.getElem?_setIfInBounds_ne (Ne.symm hde)]
    have nolp : ∀ d off, updB f r.bu d ≠ .lp e off := fun d off h => hnb2 d off (updBne d _ (by simp) h)
    by_cases hbox : ∃ cs, r.v = .box cs
    · obtain ⟨cs, hv⟩ := hbox
      rw [hv] at hn
      obtain ⟨b, hxe, hlo, hlt', hcont⟩ := hn
      obtain ⟨hc1, hc2, _, vs, T, hh, hrow⟩ := hcont
      have hw0 : w0.heap.size ≤ b := Nat.le_trans sg.evo.size hlo
      have nob : ∀ d cs, updB f r.bu d = .box cs → gb d ≠ b := by
        intro d c hd' he
        obtain ⟨c', hf⟩ := isbox d c hd'
        have := (sg.boxes d c' hf).2.1
        omega
      refine ⟨γ', fun t => if t = e then b else gb t, evo', sg.n0, hr, hg, hsz, hdf, fun d => ?_, fun d cs' hd' => ?_, fun d d' c1 c2 h1 h2 hgb => ?_⟩
      · rw [hget]
        by_cases hde : d = e
        · subst hde
          simp only [if_true, updO, upd_same, hv]
          exact ⟨by simp [hxe], vs, T, by simpa using hh, hrow⟩
        · simp only [hde, if_false, updO]
          rw [upd_ne _ _ hde]
          have hs := slot0 d
          cases hv' : updB f r.bu d with
          | box c =>
            rw [hv'] at hs
            simp only [RelS, hde, if_false]
            exact hs
          | lp d' off =>
            rw [hv'] at hs
            have hne : d' ≠ e := fun h => nolp d off (by rw [hv', h])
            simp only [RelS, hne, if_false]
            exact hs
          | _ => rw [hv'] at hs; exact hs
      · by_cases hde : d = e
        · subst hde
          simp only [if_true]
          exact ⟨hw0, hlt', hc1, hc2⟩
        · simp only [hde, if_false]
          simp only [updO] at hd'
          rw [upd_ne _ _ hde] at hd'
          obtain ⟨c', hf⟩ := isbox d cs' hd'
          exact oldbox d c' hf
      · simp only [updO] at h1 h2
        by_cases hde : d = e
        · by_cases hde' : d' = e
          · rw [hde, hde']
          · simp only [hde, hde', if_true, if_false] at hgb
            rw [upd_ne _ _ hde'] at h2
            exact absurd hgb.symm (nob d' c2 h2)
        · rw [upd_ne _ _ hde] at h1
          by_cases hde' : d' = e
          · simp only [hde, hde', if_true, if_false] at hgb
            exact absurd hgb (nob d c1 h1)
          · rw [upd_ne _ _ hde'] at h2
            simp only [hde, hde', if_false] at hgb
            obtain ⟨c3, hf1⟩ := isbox d c1 h1
            obtain ⟨c4, hf2⟩ := isbox d' c2 h2
            exact sg.inj d d' c3 c4 hf1 hf2 hgb
    · have hrel : RelS γ' w' gb e r.v x := by
        cases hv : r.v with
        | box cs => exact absurd ⟨cs, hv⟩ hbox
        | _ => rw [hv] at hn; exact hn
      have nb : ∀ d cs, updO (updB f r.bu) (some e) r.v d = .box cs → d ≠ e ∧ updB f r.bu d = .box cs := by
        intro d cs hd'
        simp only [updO] at hd'
        by_cases hde : d = e
        · subst hde; rw [upd_same] at hd'; exact absurd ⟨cs, hd'⟩ hbox
        · rw [upd_ne _ _ hde] at hd'; exact ⟨hde, hd'⟩
      refine ⟨γ', gb, evo', sg.n0, hr, hg, hsz, hdf, fun d => ?_, fun d cs' hd' => ?_, fun d d' c1 c2 h1 h2 hgb => ?_⟩
      · rw [hget]
        by_cases hde : d = e
        · subst hde
          simp only [if_true, updO, upd_same]
          exact hrel
        · simp only [hde, if_false, updO]
          rw [upd_ne _ _ hde]
          exact slot0 d
      · obtain ⟨_, h1⟩ := nb d cs' hd'
        obtain ⟨c', hf⟩ := isbox d cs' h1
        exact oldbox d c' hf
      · obtain ⟨_, k1⟩ := nb d c1 h1
        obtain ⟨_, k2⟩ := nb d' c2 h2
        obtain ⟨c3, hf1⟩ := isbox d c1 k1
        obtain ⟨c4, hf2⟩ := isbox d' c2 k2
        exact sg.inj d d' c3 c4 hf1 hf2 hgb

theorem evOk_of {cx : Cx} {γ0 γ : Gh} {w0 w : World} {gb : Nat → Nat} {f : Fenv} {st : List SO} {a : Act} (sg : StG cx γ0 w0 γ gb f st a w) (xs : Array Operand) :
    EvOk γ w gb f a.eval xs := by
  intro x _
  cases x with
  | tmp t => exact RelP.ofS (sg.slots t)
  | const v => rfl
  | global g => rfl
  | func g => rfl

theorem contOk_of {cx : Cx} {γ0 γ : Gh} {w0 w : World} {gb : Nat → Nat} {f : Fenv} {st : List SO} {a : Act} (sg : StG cx γ0 w0 γ gb f st a w) (op : Op) :
    ContOk γ w gb f op := by
  intro t _
  have key : ∀ d cs, f d = .box cs → Cont γ w (gb d) cs := by
    intro d cs hd
    obtain ⟨_, h2, h3, h4⟩ := sg.boxes d cs hd
    have hs := sg.slots d
    rw [hd] at hs
    exact ⟨h3, h4, h2, hs.2⟩
  exact ⟨key t, fun d _ cs _ hd => key d cs hd⟩

/-- One operation, from a state to a state. -/
theorem wp_of_opX {cx : Cx} {γ0 : Gh} {w0 w : World} {f : Fenv} {st : List SO} {a : Act} {o : Oper} {r : Res} {K : Act → World → Prop} {Q : Exit → Act → World → Prop}
    (hs : St cx γ0 w0 f st a w) (hx : OpX cx o f st r) (hside : Side o f r) (hd : ∀ d, o.dst = some d → d < cx.N ∧ NoBox f d)
    (hK : ∀ a' w', St cx γ0 w0 (nextF f o r) r.st a' w' → K a' w') (ro : Option Nat) (n : Nat) : o.wpIn (wideR ro) n cx.P a w K Q := by
  obtain ⟨γ, gb, sg⟩ := hs
  have h := hx γ w gb a.eval sg.rel sg.g (evOk_of sg _) (contOk_of sg _)
  have fin : ∀ x w', Out γ w gb r x w' → K (a.put o.dst x) w' := by
    rintro x w' ⟨γ', e1, e2, e3, e4⟩
    exact hK _ _ (step_state sg e1 e2 e3 e4 (fun d cs hb => (hside.2 d cs hb).1.1) hd)
  have hsem : o.semAt ro a.eval = execOp a.eval o := by
    cases ro with
    | none => rfl
    | some l =>
      refine Oper.semAt_some l _ o fun c hc => ?_
      revert h
      simp only [execOp, hc]
      simp
      cases Sem.run cx.P (resolve a.eval c o.type) w <;> simp [Result.andThen, UponV]
  refine ⟨fun _ _ => trivial, ?_⟩
  show o.uponIn (wideR ro) n cx.P a K Q ((o.semAt ro a.eval).run cx.P w)
  rw [hsem]
  generalize (execOp a.eval o).run cx.P w = res at *
  cases res with
  | halt hh w' => exact h.elim
  | ok nx w' =>
    cases nx <;> simp only [UponV] at h <;> simp only [Oper.uponIn]
    case value x => exact fin x w' h
    case skip => exact fin undef w' h
    case enter fn args =>
      refine ⟨fun hd => (by cases hd), callsIn_wideR (h.mono ?_)⟩
      rintro e w'' ⟨x, rfl, hR⟩
      exact fin x w'' hR

theorem st_skip {cx : Cx} {γ0 : Gh} {w0 w : World} {f : Fenv} {st : List SO} {a : Act} {dst : Option Nat} (hs : St cx γ0 w0 f st a w)
    (hd : ∀ d, dst = some d → d < cx.N ∧ NoBox f d) : St cx γ0 w0 (updO f dst (.tup [])) st (a.put dst undef) w := by
  obtain ⟨γ, gb, sg⟩ := hs
  have e : EvoX ((⟨.tup [], none, st⟩ : Res).bu.map fun p => gb p.1) γ w γ w := ⟨rfl, rfl, rfl, rfl, Nat.le_refl _, fun _ _ _ _ => rfl, fun _ h => h, fun _ h _ => .inl h, fun _ h _ => h, .refl _ _⟩
  exact step_state (r := ⟨.tup [], none, st⟩) sg e sg.rel (.tup [] #[] rfl (by simp)) (by simp) (by simp) hd

/-- The guard as the run reads it. -/
theorem guard_run {cx : Cx} {γ0 : Gh} {w0 w : World} {f : Fenv} {st : List SO} {a : Act} {ops : Array Oper} {o : Oper} {b : Bool} (hs : St cx γ0 w0 f st a w)
    (hg : GuardA ops o f b) : Region.wanted o (yielded ops a.tmps) = b := by
  obtain ⟨γ, gb, sg⟩ := hs
  unfold GuardA at hg
  unfold Region.wanted
  cases ho : o.guard with
  | none => rw [ho] at hg; simp [hg]
  | some gw =>
    obtain ⟨g, want⟩ := gw
    rw [ho] at hg
    obtain ⟨t, ht, hg⟩ := hg
    have hst := sg.slots t
    have hy : ∀ v, a.tmps.getD t undef = v → (a.tmps[t]? = some v ∨ (a.tmps[t]? = none ∧ v = undef)) := by
      intro v hv
      cases h : a.tmps[t]? with
      | none => right; simp [h] at hv; exact ⟨rfl, hv.symm⟩
      | some u => left; simp [h] at hv; rw [hv]
    unfold yielded
    simp only [ht, Option.bind_some]
    rcases hg with ⟨c, hc, rfl⟩ | ⟨hc, rfl⟩
    · rw [hc] at hst
      have h1 : a.tmps.getD t undef = .bool c := by
        generalize a.tmps.getD t undef = x at *
        cases hst with | c _ _ h => cases h; rfl
      rcases hy _ h1 with h2 | ⟨_, h2⟩
      · rw [h2]; cases c <;> cases want <;> rfl
      · cases h2
    · rw [hc] at hst
      have h1 : a.tmps.getD t undef = .tuple #[] := by
        generalize a.tmps.getD t undef = x at *
        cases hst with
        | tup _ vs hl _ => simp at hl; simp [hl]
      rcases hy _ h1 with h2 | ⟨h2, _⟩
      · rw [h2]; cases want <;> rfl
      · rw [h2]; cases want <;> rfl

/-! ### Regions -/

section
variable {cx : Cx} {ops : Array Oper}

/-- The lexical walk. -/
def regL (cx : Cx) (ops : Array Oper) (eff : Nat → Nat) : List Oper → Nat → Fenv → List SO → (Fenv → List SO → Prop) → Prop
  | [], _, f, st, K => K f st
  | o :: rest, k, f, st, K => ∃ f' st', Does cx ops (eff k) o f st f' st' ∧ regL cx ops eff rest (k + 1) f' st' K

/-- Slots that are written stay below the frame's size; no box, no pointer to one, lies at them. -/
def Fresh (cx : Cx) (l : List Oper) (f : Fenv) : Prop := ∀ o ∈ l, ∀ d, o.dst = some d → d < cx.N ∧ NoBox f d

theorem wpOp_of_does {γ0 : Gh} {w0 w : World} {f f' : Fenv} {st st' : List SO} {a : Act} {o : Oper} {i : Nat} {eff : Nat} {K : Act → World → Prop} {Q : Exit → Act → World → Prop}
    (hi : ops[i]? = some o) (hs : St cx γ0 w0 f st a w) (hd : ∀ d, o.dst = some d → d < cx.N ∧ NoBox f d) (h : Does cx ops eff o f st f' st')
    (hK : ∀ a' w', St cx γ0 w0 f' st' a' w' → K a' w') (ro : Option Nat) (n : Nat) : wpOpIn (wideR ro) n cx.P ops Q i K a w := by
  obtain ⟨b, hg, h⟩ := h
  unfold wpOpIn
  simp only [hi]
  rw [guard_run hs hg]
  cases b with
  | false =>
    simp only [Bool.false_eq_true, if_false] at h ⊢
    obtain ⟨rfl, rfl⟩ := h
    exact ⟨fun _ _ => trivial, hK _ _ (st_skip hs hd)⟩
  | true =>
    simp only [if_true] at h ⊢
    obtain ⟨r, hx, hside, rfl, rfl, _⟩ := h
    exact wp_of_opX hs hx hside hd hK ro n

theorem St.drewE {γ0 : Gh} {w0 w : World} {f : Fenv} {st : List SO} {a : Act} (hs : St cx γ0 w0 f st a w) : St cx γ0 w0 f st a { w with drawn := w.drawn + 1 } := by
  obtain ⟨γ, gb, sg⟩ := hs
  have e : EvoX ((⟨.tup [], none, st⟩ : Res).bu.map fun p => gb p.1) γ w γ { w with drawn := w.drawn + 1 } :=
    ⟨rfl, rfl, rfl, rfl, Nat.le_refl _, fun _ _ _ _ => rfl, fun _ h => h, fun _ h _ => .inl h, fun _ h _ => h, .refl _ _⟩
  have hr : RelW γ st { w with drawn := w.drawn + 1 } := sg.rel.frame (Nat.le_refl _) (fun _ _ => rfl)
  exact step_state (r := ⟨.tup [], none, st⟩) (dst := none) (x := undef) sg e hr (.tup [] #[] rfl (by simp)) (by simp) (by simp) (by simp)

theorem does_fresh {eff : Nat} {o : Oper} {rest : List Oper} {f f' : Fenv} {st st' : List SO} (h : Does cx ops eff o f st f' st')
    (hf : Fresh cx (o :: rest) f) (hne : ∀ o' ∈ rest, ∀ d, o'.dst = some d → o.dst ≠ some d) : Fresh cx rest f' := by
  intro o' ho' d hd
  obtain ⟨hlt, hnb1, hnb2⟩ := hf o' (List.mem_cons_of_mem _ ho') d hd
  refine ⟨hlt, ?_⟩
  have hne' := hne o' ho' d hd
  have other : ∀ (g : Fenv) v, (∀ t, updO g o.dst v t = g t ∨ o.dst = some t ∧ updO g o.dst v t = v) := by
    intro g v t
    cases hdst : o.dst with
    | none => exact .inl rfl
    | some e =>
      by_cases hte : t = e
      · subst hte; exact .inr ⟨rfl, upd_same _ _ _⟩
      · exact .inl (upd_ne _ _ hte)
  have main : ∀ (bu : Option (Nat × List V)) v, (∀ e off, v = .lp e off → ∃ cs, f e = .box cs) → (∀ e cs, bu = some (e, cs) → ∃ cs', f e = .box cs') →
      NoBox (updO (updB f bu) o.dst v) d := by
    intro bu v hv hbu
    have hb : ∀ t, updB f bu t = f t ∨ ((∃ cs, updB f bu t = .box cs) ∧ ∃ cs', f t = .box cs') := by
      intro t
      cases hbu' : bu with
      | none => exact .inl rfl
      | some p =>
        obtain ⟨e, cs⟩ := p
        by_cases hte : t = e
        · subst hte; exact .inr ⟨⟨cs, upd_same _ _ _⟩, hbu _ _ hbu'⟩
        · exact .inl (upd_ne _ _ hte)
    refine ⟨fun cs h => ?_, fun t off h => ?_⟩
    · rcases other (updB f bu) v d with h1 | ⟨h1, _⟩
      · rw [h1] at h
        rcases hb d with h2 | ⟨_, cs', h2⟩
        · rw [h2] at h; exact hnb1 cs h
        · exact hnb1 cs' h2
      · exact hne' h1
    · rcases other (updB f bu) v t with h1 | ⟨_, h1⟩
      · rw [h1] at h
        rcases hb t with h2 | ⟨⟨cs, h2⟩, _⟩
        · rw [h2] at h; exact hnb2 t off h
        · rw [h2] at h; cases h
      · rw [h1] at h
        obtain ⟨cs, hc⟩ := hv d off h
        exact hnb1 cs hc
  obtain ⟨b, _, h⟩ := h
  cases b with
  | false =>
    simp only [Bool.false_eq_true, if_false] at h
    rw [h.1]
    exact main none (.tup []) (by simp) (by simp)
  | true =>
    simp only [if_true] at h
    obtain ⟨r, _, hside, rfl, _⟩ := h
    exact main r.bu r.v (fun e off hv => (hside.1 e off hv).1) (fun e cs hb => (hside.2 e cs hb).1.1)

/-- Below the frame's size, each slot at most once. -/
def dstsOk (n : Nat) : List Oper → Bool
  | [] => true
  | o :: rest => (match o.dst with
      | some d => decide (d < n) && rest.all fun o' => o'.dst != some d
      | none => true) && dstsOk n rest

theorem dstsOk_lt {n : Nat} {l : List Oper} (h : dstsOk n l = true) : ∀ o ∈ l, ∀ d, o.dst = some d → d < n := by
  induction l with
  | nil => intro o ho; cases ho
  | cons o rest ih =>
    intro o' ho' d hd
    rw [dstsOk, Bool.and_eq_true] at h
    rcases List.mem_cons.1 ho' with he | ho'
    · subst he
      have h1 := h.1
      rw [hd] at h1
      simp only [Bool.and_eq_true, decide_eq_true_eq] at h1
      exact h1.1
    · exact ih h.2 o' ho' d hd
theorem dstsOk_ne {n : Nat} {o : Oper} {rest : List Oper} (h : dstsOk n (o :: rest) = true) : ∀ o' ∈ rest, ∀ d, o'.dst = some d → o.dst ≠ some d := by
  intro o' ho' d hd he
  simp only [dstsOk, he, Bool.and_eq_true, List.all_eq_true] at h
  have := h.1.2 o' ho'
  simp [hd] at this

/-- What is dropped ahead of a region: pointers to boxes; boxes at slots that it writes. -/
def cleanF (ops : List Oper) (f : Fenv) : Fenv := fun t =>
  match f t with
  | .lp _ _ => .undef
  | .box cs => if ops.any (fun o => o.dst == some t) then .undef else .box cs
  | v => v

theorem cleanF_sub (ops : List Oper) (f : Fenv) (t : Nat) : cleanF ops f t = .undef ∨ cleanF ops f t = f t := by
  unfold cleanF
  cases h : f t with
  | lp d off => exact .inl rfl
  | box cs =>
    simp only
    by_cases hc : (ops.any fun o => o.dst == some t) = true
    · rw [if_pos hc]; exact .inl rfl
    · rw [if_neg hc]; exact .inr rfl
  | _ => exact .inr rfl

theorem cleanF_fresh {l : List Oper} {f : Fenv} (h : dstsOk cx.N l = true) : Fresh cx l (cleanF l f) := by
  intro o ho d hd
  refine ⟨dstsOk_lt h o ho d hd, fun cs hc => ?_, fun t off hc => ?_⟩
  · unfold cleanF at hc
    cases hf : f d with
    | box cs' =>
      rw [hf] at hc
      simp only at hc
      have : (l.any fun o => o.dst == some d) = true := List.any_eq_true.2 ⟨o, ho, by simp [hd]⟩
      rw [if_pos this] at hc
      cases hc
    | _ => rw [hf] at hc; cases hc
  · unfold cleanF at hc
    cases hf : f t with
    | box cs' =>
      rw [hf] at hc
      simp only at hc
      split at hc <;> cases hc
    | _ => rw [hf] at hc; cases hc

theorem wpOps_of_regL {eff : Nat → Nat} {γ0 : Gh} {w0 : World} {Q : Exit → Act → World → Prop} {K : Fenv → List SO → Prop}
    (ro : Option Nat) (n : Nat) (hK : ∀ f st a w, K f st → St cx γ0 w0 f st a w → Q .normal a w) : ∀ (l : List Oper) (k : Nat) (f : Fenv) (st : List SO) (a : Act) (w : World),
    (∀ j, l[j]? = ops[k + j]?) → dstsOk cx.N l = true → Fresh cx l f → St cx γ0 w0 f st a w → regL cx ops eff l k f st K →
    wpOpsIn (wideR ro) n cx.P ops Q (List.range' k l.length) a w
  | [], _, _, _, _, _, _, _, _, hs, h => by simpa [wpOpsIn] using hK _ _ _ _ h hs
  | o :: rest, k, f, st, a, w, hl, hd, hf, hs, h => by
    obtain ⟨f', st', hdoes, h⟩ := h
    have h0 : ops[k]? = some o := by simpa using (hl 0).symm
    rw [List.length_cons, List.range'_succ, wpOpsIn_cons]
    refine wpOp_of_does h0 hs (hf o (List.mem_cons_self ..)) hdoes (fun a' w' hs' => ?_) ro n
    refine wpOps_of_regL ro n hK rest (k + 1) f' st' a' w' (fun j => ?_) ?_ (does_fresh hdoes hf (dstsOk_ne hd)) hs' h
    · have := hl (j + 1)
      simpa [Nat.add_assoc, Nat.add_comm 1 j] using this
    · simp only [dstsOk, Bool.and_eq_true] at hd
      exact hd.2

/-- A region in the text's order. -/
theorem tri_region {id : Nat} {l : List Oper} {f : Fenv} {st : List SO} {K : Fenv → List SO → Prop} {Q : Exit → Fenv → List SO → Prop} (hd : dstsOk cx.N l = true)
    (h : regL cx l.toArray (fun _ => 2) l 0 (cleanF l f) st K) : Tri cx (.region id l.toArray false) f st (thenT K Q) := by
  intro γ0 w0 a w hs ro n _
  refine wpIn_region ?_
  have h1 := wpOps_of_regL ro n (ops := l.toArray) (Q := fun e a' w' => ∃ f' st', thenT K Q e f' st' ∧ St cx γ0 w0 f' st' a' w')
    (fun f st a w hk hs => ⟨f, st, hk, hs⟩) l 0 (cleanF l f) st a w (by simp) hd (cleanF_fresh hd) (weak_env (cleanF_sub l f) γ0 w0 a w hs) h
  simpa [List.range_eq_range'] using h1
end
end Go.L1
namespace Go.L1
open Go

section
variable {cx : Cx} {ops : Array Oper}

theorem opX_agree {o : Oper} {f g : Fenv} {st : List SO} {r : Res} (h : OpX cx o f st r)
    (ha : ∀ t, Operand.tmp t ∈ o.op.operands → g t = f t ∨ ((∃ c, g t = .box c) ∧ ∃ c, f t = .box c))
    (hc : ∀ t, addrOf o.op = some t → g t = f t ∧ ∀ d off, f t = .lp d off → g d = f d) : OpX cx o g st r := by
  intro γ w gb ev h1 h2 h3 h4
  refine h γ w gb ev h1 h2 (fun x hx => ?_) (fun t ht => ?_)
  · have h5 := h3 x hx
    cases x with
    | tmp t =>
      rcases ha t hx with h6 | ⟨⟨c, h6⟩, c', h7⟩
      · simp only [h6] at h5; exact h5
      · simp only [h6] at h5; simp only [h7]; exact h5
    | const v => exact h5
    | global v => exact h5
    | func v => exact h5
  · obtain ⟨h5, h6⟩ := hc t ht
    obtain ⟨h7, h8⟩ := h4 t ht
    refine ⟨fun cs hcs => h7 cs (by rw [h5]; exact hcs), fun d off cs hd hcs => h8 d off cs (by rw [h5]; exact hd) (by rw [h6 d off hd]; exact hcs)⟩

theorem guardA_agree {o : Oper} {f g : Fenv} {b : Bool} (h : GuardA ops o f b)
    (ha : ∀ i want t, o.guard = some (i, want) → (ops[i]?).bind (·.dst) = some t → g t = f t ∨ ((∃ c, g t = .box c) ∧ ∃ c, f t = .box c)) : GuardA ops o g b := by
  unfold GuardA at *
  cases hg : o.guard with
  | none => rw [hg] at h; exact h
  | some gw =>
    obtain ⟨i, want⟩ := gw
    rw [hg] at h
    obtain ⟨t, ht, h⟩ := h
    refine ⟨t, ht, ?_⟩
    rcases ha i want t hg ht with h6 | ⟨_, c', h7⟩
    · rw [h6]; exact h
    · rw [h7] at h
      rcases h with ⟨_, hh, _⟩ | ⟨hh, _⟩ <;> cases hh

def apartX (ops : Array Oper) (ei ej : Nat) (oi oj : Oper) : Bool :=
  oi.apart ops oj && (ei != 2 || ej == 0) && (ej != 2 || ei == 0) && decide (ei ≤ 2) && decide (ej ≤ 2) &&
    (!(ei == 2 && isStore oi.op) || (addrOf oj.op).isNone) && (!(ej == 2 && isStore oj.op) || (addrOf oi.op).isNone)

theorem mem_looks {o : Oper} {t : Nat} (h : Operand.tmp t ∈ o.op.operands) : t ∈ o.looksAt ops :=
  List.mem_append_left _ (List.mem_filterMap.2 ⟨.tmp t, by simpa using h, rfl⟩)
theorem guard_looks {o : Oper} {i : Nat} {want : Bool} {t : Nat} (hg : o.guard = some (i, want)) (ht : (ops[i]?).bind (·.dst) = some t) : t ∈ o.looksAt ops := by
  unfold Oper.looksAt
  refine List.mem_append_right _ ?_
  rw [hg]
  simp [ht]
theorem addr_mem {op : Op} {t : Nat} (h : addrOf op = some t) : Operand.tmp t ∈ op.operands := by
  unfold addrOf at h
  split at h <;> simp_all [Op.operands]

/-- How a step turns the slots. -/
structure Turn (o : Oper) (eff : Nat) (f f' : Fenv) (bu : Option (Nat × List V)) (v : V) : Prop where
  eq : f' = updO (updB f bu) o.dst v
  bu : ∀ d cs, bu = some (d, cs) → (∃ cs', f d = .box cs') ∧ 1 < eff ∧ isStore o.op = true

theorem does_turn {eff : Nat} {o : Oper} {f f' : Fenv} {st st' : List SO} (h : Does cx ops eff o f st f' st') : ∃ bu v, Turn o eff f f' bu v := by
  obtain ⟨b, _, h⟩ := h
  cases b with
  | false =>
    simp only [Bool.false_eq_true, if_false] at h
    exact ⟨none, .tup [], h.1, by simp⟩
  | true =>
    simp only [if_true] at h
    obtain ⟨r, _, hside, hf, _, _, hk⟩ := h
    refine ⟨r.bu, r.v, hf, fun d cs hb => ⟨(hside.2 d cs hb).1.1, ?_, (hside.2 d cs hb).2⟩⟩
    rcases Nat.lt_or_ge 1 eff with h1 | h1
    · exact h1
    · rw [(hk.1 h1).1] at hb; cases hb

theorem updO_get (f : Fenv) (dst : Option Nat) (v : V) {t : Nat} (h : dst ≠ some t) : updO f dst v t = f t := by
  cases dst with
  | none => rfl
  | some e => exact upd_ne _ _ (fun he => h (by rw [he]))

theorem Turn.get {o : Oper} {eff : Nat} {f f' : Fenv} {bu : Option (Nat × List V)} {v : V} (h : Turn o eff f f' bu v) {t : Nat} (ht : o.dst ≠ some t) :
    f' t = f t ∨ ((∃ c, f' t = .box c) ∧ ∃ c, f t = .box c) := by
  rw [h.eq, updO_get _ _ _ ht]
  cases hb : bu with
  | none => exact .inl rfl
  | some p =>
    obtain ⟨d, cs⟩ := p
    by_cases htd : t = d
    · subst htd
      exact .inr ⟨⟨cs, upd_same _ _ _⟩, (h.bu _ _ hb).1⟩
    · exact .inl (upd_ne _ _ htd)
theorem Turn.get' {o : Oper} {eff : Nat} {f f' : Fenv} {bu : Option (Nat × List V)} {v : V} (h : Turn o eff f f' bu v) (hb : bu = none) {t : Nat} (ht : o.dst ≠ some t) :
    f' t = f t := by
  rw [h.eq, updO_get _ _ _ ht, hb]
  rfl

/-- The steps of oj may be taken at f in the place of f', where oi has turned f into f'. -/
theorem does_at0 {ei : Nat} {oi oj : Oper} {f f' : Fenv} {bu : Option (Nat × List V)} {v : V} (ht : Turn oi ei f f' bu v)
    (hlook : ∀ d, oi.dst = some d → d ∉ oj.looksAt ops) (hag : ∀ t, addrOf oj.op = some t → f' t = f t ∧ ∀ d off, f t = .lp d off → f' d = f d) (hnb : ∀ d, oi.dst = some d → NoBox f d)
    {g : Fenv} (hg : g = f ∧ True ∨ g = f') {g' : Fenv} (hg' : g' = f ∨ g' = f') {st : List SO} {r : Res} :
    (∀ b, GuardA ops oj g b → GuardA ops oj g' b) ∧ (OpX cx oj g st r → OpX cx oj g' st r) ∧ (Side oj g r → Side oj g' r) := by
  have hne : ∀ t, t ∈ oj.looksAt ops → oi.dst ≠ some t := fun t h1 h2 => hlook t h2 h1
  have agree : ∀ t, t ∈ oj.looksAt ops → g' t = g t ∨ ((∃ c, g' t = .box c) ∧ ∃ c, g t = .box c) := by
    intro t h1
    have h2 := ht.get (hne t h1)
    rcases hg with ⟨rfl, _⟩ | rfl <;> rcases hg' with rfl | rfl
    · exact .inl rfl
    · exact h2
    · rcases h2 with h2 | ⟨h2, h3⟩
      · exact .inl h2.symm
      · exact .inr ⟨h3, h2⟩
    · exact .inl rfl
  have agree2 : ∀ t, addrOf oj.op = some t → g' t = g t ∧ ∀ d off, g t = .lp d off → g' d = g d := by
    intro t h1
    obtain ⟨h2, h3⟩ := hag t h1
    rcases hg with ⟨rfl, _⟩ | rfl <;> rcases hg' with rfl | rfl
    · exact ⟨rfl, fun _ _ _ => rfl⟩
    · exact ⟨h2, h3⟩
    · exact ⟨h2.symm, fun d off hl => (h3 d off (by rw [← h2]; exact hl)).symm⟩
    · exact ⟨rfl, fun _ _ _ => rfl⟩
  have come : ∀ d, Comes' oj g d → Comes' oj g' d := by
    rintro d ⟨⟨cs, hcs⟩, h1⟩
    -- a slot that leads to d is looked at, and reads the same in f
    have hdst : oi.dst ≠ some d := by
      rcases h1 with ⟨t, off, hm, hl⟩ | hm
      · intro h2
        have h3 := ht.get (hne t (mem_looks hm))
        have hft : f t = .lp d off := by
          rcases hg with ⟨rfl, _⟩ | rfl
          · exact hl
          · rcases h3 with h3 | ⟨⟨c, h3⟩, _⟩
            · rw [← h3]; exact hl
            · rw [h3] at hl; cases hl
        exact (hnb d h2).2 t off hft
      · exact hne d (mem_looks hm)
    refine ⟨?_, ?_⟩
    · have h3 := ht.get hdst
      rcases hg with ⟨rfl, _⟩ | rfl <;> rcases hg' with rfl | rfl
      · exact ⟨cs, hcs⟩
      · rcases h3 with h3 | ⟨h3, _⟩
        · exact ⟨cs, by rw [h3]; exact hcs⟩
        · exact h3
      · rcases h3 with h3 | ⟨_, h3⟩
        · exact ⟨cs, by rw [← h3]; exact hcs⟩
        · exact h3
      · exact ⟨cs, hcs⟩
    · rcases h1 with ⟨t, off, hm, hl⟩ | hm
      · left
        refine ⟨t, off, hm, ?_⟩
        rcases agree t (mem_looks hm) with h4 | ⟨_, c, h4⟩
        · rw [h4]; exact hl
        · rw [h4] at hl; cases hl
      · exact .inr hm
  refine ⟨fun b h => guardA_agree h fun i want t hg' ht' => agree t (guard_looks hg' ht'), fun h => opX_agree h (fun t hm => agree t (mem_looks hm)) agree2,
    fun h => ⟨fun d off hv => come d (h.1 d off hv), fun d cs hb => ⟨come d (h.2 d cs hb).1, (h.2 d cs hb).2⟩⟩⟩

theorem does_at {ei : Nat} {oi oj : Oper} {f f' : Fenv} {bu : Option (Nat × List V)} {v : V} (ht : Turn oi ei f f' bu v)
    (hlook : ∀ d, oi.dst = some d → d ∉ oj.looksAt ops) (hst : 1 < ei → isStore oi.op = true → addrOf oj.op = none) (hnb : ∀ d, oi.dst = some d → NoBox f d)
    {g : Fenv} (hg : g = f ∧ True ∨ g = f') {g' : Fenv} (hg' : g' = f ∨ g' = f') {st : List SO} {r : Res} :
    (∀ b, GuardA ops oj g b → GuardA ops oj g' b) ∧ (OpX cx oj g st r → OpX cx oj g' st r) ∧ (Side oj g r → Side oj g' r) := by
  refine does_at0 ht hlook (fun t h1 => ?_) hnb hg hg'
  have hne : oi.dst ≠ some t := fun h2 => hlook t h2 (mem_looks (addr_mem h1))
  have hb : bu = none := by
    cases hb : bu with
    | none => rfl
    | some p =>
      obtain ⟨d, cs⟩ := p
      obtain ⟨_, h2, h3⟩ := ht.bu d cs hb
      rw [hst h2 h3] at h1
      cases h1
  exact ⟨ht.get' hb hne, fun d off hl => ht.get' hb (fun h4 => (hnb d h4).2 t off hl)⟩

theorem does_commute {ei ej : Nat} {oi oj : Oper} {f f1 f2 : Fenv} {st st1 st2 : List SO} (hap : apartX ops ei ej oi oj = true)
    (hi : ∀ d, oi.dst = some d → NoBox f d) (hj : ∀ d, oj.dst = some d → NoBox f d)
    (h1 : Does cx ops ei oi f st f1 st1) (h2 : Does cx ops ej oj f1 st1 f2 st2) :
    ∃ f1' st1', Does cx ops ej oj f st f1' st1' ∧ Does cx ops ei oi f1' st1' f2 st2 := by
  simp only [apartX, Bool.and_eq_true, Bool.or_eq_true, Bool.not_eq_true', Bool.and_eq_false_iff, Option.isNone_iff_eq_none, bne_iff_ne, beq_iff_eq,
    decide_eq_true_eq, beq_eq_false_iff_ne] at hap
  obtain ⟨⟨⟨⟨⟨⟨hap, he1⟩, he2⟩, hei2⟩, hej2⟩, hsi⟩, hsj⟩ := hap
  obtain ⟨a1, a2, a3⟩ := Oper.apart_spec hap
  obtain ⟨bi, vi, ti⟩ := does_turn h1
  have hsi' : 1 < ei → isStore oi.op = true → addrOf oj.op = none := fun x y => by
    rcases hsi with (h | h) | h
    · omega
    · rw [y] at h; cases h
    · exact h
  have hsj' : 1 < ej → isStore oj.op = true → addrOf oi.op = none := fun x y => by
    rcases hsj with (h | h) | h
    · omega
    · rw [y] at h; cases h
    · exact h
  -- oj at f
  have back := fun (st : List SO) (r : Res) => does_at (cx := cx) (ops := ops) (st := st) (r := r) ti a1 hsi' hi (g := f1) (.inr rfl) (g' := f) (.inl rfl)
  have st_i : ei ≤ 1 → st1 = st := by
    intro he
    obtain ⟨b, _, h1⟩ := h1
    cases b with
    | false => simp only [Bool.false_eq_true, if_false] at h1; exact h1.2
    | true => simp only [if_true] at h1; obtain ⟨r, _, _, _, h, _, hk⟩ := h1; rw [h, (hk.1 he).2]
  have key : ∃ bj vj stj, Turn oj ej f (updO (updB f bj) oj.dst vj) bj vj ∧ f2 = updO (updB f1 bj) oj.dst vj ∧
      Does cx ops ej oj f st (updO (updB f bj) oj.dst vj) stj ∧ (ej ≤ 1 → stj = st ∧ st2 = st1) ∧ (ej = 2 → stj = st2) ∧ (∀ d cs, bj = some (d, cs) → oi.dst ≠ some d) := by
    obtain ⟨b, hg, h2⟩ := h2
    have hg' := (back st ⟨.undef, none, st⟩).1 b hg
    cases b with
    | false =>
      simp only [Bool.false_eq_true, if_false] at h2
      refine ⟨none, .tup [], st, ⟨rfl, by simp⟩, h2.1, ⟨false, hg', by simp [updB]⟩, fun _ => ⟨rfl, h2.2⟩, fun h => ?_, by simp⟩
      rw [h2.2, st_i (by omega)]
    | true =>
      simp only [if_true] at h2
      obtain ⟨r, hx, hside, hf2, hst2, hk0, hk1⟩ := h2
      by_cases hej : ej = 2
      · have hst := st_i (by omega)
        subst hst
        obtain ⟨_, k2, k3⟩ := back st1 r
        have hs' := k3 hside
        refine ⟨r.bu, r.v, r.st, ⟨rfl, fun d cs hb => ⟨(hs'.2 d cs hb).1.1, by omega, (hs'.2 d cs hb).2⟩⟩, hf2, ⟨true, hg', ?_⟩, by omega, fun _ => hst2.symm, fun d cs hb hd => ?_⟩
        · simp only [if_true]
          exact ⟨r, k2 hx, hs', rfl, rfl, by omega, by omega, by omega, by omega⟩
        · obtain ⟨_, h5⟩ := (hs'.2 d cs hb).1
          rcases h5 with ⟨t, off, hm, hl⟩ | hm
          · exact (hi d hd).2 t off hl
          · exact a1 d hd (mem_looks hm)
      · have hej1 : ej ≤ 1 := by omega
        obtain ⟨hb, hrst⟩ := hk1.1 hej1
        have hx' : OpX cx oj f st ⟨r.v, none, st⟩ := by
          by_cases hei : ei ≤ 1
          · have hst := st_i hei
            refine (back st ⟨r.v, none, st⟩).2.1 ?_
            have : r = ⟨r.v, none, st⟩ := by
              obtain ⟨v, bu, s⟩ := r
              simp only at hb hrst
              rw [hb, hrst, hst]
            rw [← this, ← hst]
            exact hx
          · exact (back st ⟨r.v, none, st⟩).2.1 (hk0 (by omega) st)
        have hs' := (back st ⟨r.v, none, st⟩).2.2 ⟨hside.1, by simp⟩
        refine ⟨none, r.v, st, ⟨rfl, by simp⟩, by rw [hf2, nextF, hb], ⟨true, hg', ?_⟩, fun _ => ⟨rfl, by rw [hst2, hrst]⟩, by omega, by simp⟩
        simp only [if_true]
        exact ⟨⟨r.v, none, st⟩, hx', hs', rfl, rfl, fun h s => (back s ⟨r.v, none, s⟩).2.1 (hk0 h s), fun _ => ⟨rfl, rfl⟩, by omega, by omega⟩
  obtain ⟨bj, vj, stj, tj, hf2, hdj, hst2, hst2', hbjd⟩ := key
  refine ⟨_, _, hdj, ?_⟩
  -- oi behind oj
  have fwd := fun (st : List SO) (r : Res) => does_at (cx := cx) (ops := ops) (st := st) (r := r) tj a3 hsj' hj (g := f) (.inl ⟨rfl, trivial⟩)
    (g' := updO (updB f bj) oj.dst vj) (.inr rfl)
  have dne : ∀ d, oi.dst = some d → oj.dst ≠ some d := a2
  have feq : ∀ (bu : Option (Nat × List V)) (v : V), f1 = updO (updB f bu) oi.dst v → (∀ d cs, bu = some (d, cs) → (∃ cs', f d = .box cs') ∧ 1 < ei) →
      f2 = updO (updB (updO (updB f bj) oj.dst vj) bu) oi.dst v := by
    intro bu v hf1 hbu
    rw [hf2, hf1]
    have c1 : updB (updO (updB f bu) oi.dst v) bj = updO (updB (updB f bu) bj) oi.dst v := by
      cases hb : bj with
      | none => rfl
      | some p =>
        obtain ⟨d, cs⟩ := p
        exact updO_comm (x := oi.dst) (y := some d) _ v (.box cs) (fun e he h => hbjd d cs hb (by rw [he, Option.some.inj h]))
    have c2 : updB (updO (updB f bj) oj.dst vj) bu = updO (updB (updB f bj) bu) oj.dst vj := by
      cases hb : bu with
      | none => rfl
      | some p =>
        obtain ⟨d, cs⟩ := p
        obtain ⟨⟨cs', hbx⟩, _⟩ := hbu d cs hb
        exact updO_comm (x := oj.dst) (y := some d) _ vj (.box cs) (fun e he h => (hj e he).1 cs' (by rw [← Option.some.inj h]; exact hbx))
    have c3 : updB (updB f bu) bj = updB (updB f bj) bu := by
      cases hb : bu with
      | none => rfl
      | some p =>
        cases hb' : bj with
        | none => rfl
        | some p' =>
          obtain ⟨d, cs⟩ := p
          obtain ⟨d', cs'⟩ := p'
          have h3 := (hbu d cs hb).2
          have h4 := (tj.bu d' cs' hb').2.1
          omega
    rw [c1, c2, c3]
    exact (updO_comm _ _ _ fun d hd => dne d hd)
  obtain ⟨b, hg, h1⟩ := h1
  have hg' := (fwd st ⟨.undef, none, st⟩).1 b hg
  refine ⟨b, hg', ?_⟩
  cases b with
  | false =>
    simp only [Bool.false_eq_true, if_false] at h1 ⊢
    refine ⟨feq none (.tup []) h1.1 (by simp), ?_⟩
    by_cases hej : ej = 2
    · exact (hst2' hej).symm
    · obtain ⟨h3, h4⟩ := hst2 (by omega)
      rw [h3, h4, h1.2]
  | true =>
    simp only [if_true] at h1 ⊢
    obtain ⟨r, hx, hside, hf1, hst1, hk0, hk1⟩ := h1
    by_cases hej : ej = 2
    · have hei : ei = 0 := by omega
      obtain ⟨hb, hrst⟩ := hk1.1 (by omega)
      refine ⟨⟨r.v, none, stj⟩, (fwd stj ⟨r.v, none, stj⟩).2.1 (hk0 hei stj), (fwd stj ⟨r.v, none, stj⟩).2.2 ⟨hside.1, by simp⟩,
        feq none r.v (by rw [hf1, nextF, hb]) (by simp), (hst2' hej).symm, fun _ s => (fwd s ⟨r.v, none, s⟩).2.1 (hk0 hei s), fun _ => ⟨rfl, rfl⟩, by omega, by omega⟩
    · obtain ⟨h3, h4⟩ := hst2 (by omega)
      subst h3
      obtain ⟨_, k2, k3⟩ := fwd stj r
      refine ⟨r, k2 hx, k3 hside, feq r.bu r.v hf1 (fun d cs hb => ⟨(hside.2 d cs hb).1.1, ?_⟩), by rw [h4, hst1], fun h s => (fwd s ⟨r.v, none, s⟩).2.1 (hk0 h s), hk1.1, by omega, by omega⟩
      rcases Nat.lt_or_ge 1 ei with h5 | h5
      · exact h5
      · rw [(hk1.1 h5).1] at hb; cases hb

/-- Stores into boxes at their own address slots, beside each other or beside what turns nothing. -/
def apartS (ops : Array Oper) (ei ej : Nat) (oi oj : Oper) : Bool :=
  oi.apart ops oj && (ei == 3 || ei == 4 || decide (ei ≤ 1)) && (ej == 3 || ej == 4 || decide (ej ≤ 1)) && (if ei = 3 ∨ ej = 3 then
    (if 3 ≤ ei ∧ 3 ≤ ej then (match addrOf oi.op, addrOf oj.op with
      | some d, some e => d != e
      | _, _ => false) else if ei = 3 then (addrOf oj.op).isNone else (addrOf oi.op).isNone) else true)

/-- How a step of class 0, 1 or 3 turns the slots, and when it may be taken elsewhere. -/
theorem step_shape {k : Nat} {o : Oper} {f f' : Fenv} {st st' : List SO} (hk3 : (k = 3 ∨ k = 4) ∨ k ≤ 1) (h : Does cx ops k o f st f' st') :
      st' = st ∧ ∃ bu v, Turn o k f f' bu v ∧ (∀ e cs, bu = some (e, cs) → k = 3 ∧ addrOf o.op = some e) ∧
        ∀ g, (∀ b, GuardA ops o f b → GuardA ops o g b) → ((3 ≤ k → ∃ d c, addrOf o.op = some d ∧ f d = .box c) → (∀ s r, OpX cx o f s r → OpX cx o g s r) ∧ (∀ r, Side o f r → Side o g r) ∧
            ∀ d c, 3 ≤ k → addrOf o.op = some d → f d = .box c → ∃ c', g d = .box c') →
          Does cx ops k o g st (updO (updB g bu) o.dst v) st := by
  obtain ⟨b, hgd, h⟩ := h
  cases b with
  | false =>
    simp only [Bool.false_eq_true, if_false] at h
    exact ⟨h.2, none, .tup [], ⟨h.1, by simp⟩, by simp, fun g hg _ => ⟨false, hg _ hgd, by simp [updB]⟩⟩
  | true =>
    simp only [if_true] at h
    obtain ⟨r, hx, hside, rfl, rfl, h0, hk⟩ := h
    rcases hk3 with (rfl | rfl) | hk1
    · obtain ⟨k1, e, cs, cs0, k2, k3, k4, k5⟩ := hk.2.1 rfl
      refine ⟨k1, r.bu, r.v, ⟨rfl, fun x y hb => ?_⟩, fun x y hb => ?_, fun g hg hbx => ?_⟩
      · rw [k3] at hb
        injection hb with hb
        injection hb with hb1 hb2
        subst hb1
        exact ⟨⟨cs0, k4⟩, by omega, k5⟩
      · rw [k3] at hb
        injection hb with hb
        injection hb with hb1 hb2
        subst hb1
        exact ⟨rfl, k2⟩
      · obtain ⟨x1, x2, x3⟩ := hbx fun _ => ⟨e, cs0, k2, k4⟩
        obtain ⟨c', x3⟩ := x3 e cs0 (by omega) k2 k4
        refine ⟨true, hg _ hgd, ?_⟩
        simp only [if_true]
        exact ⟨r, x1 st r hx, x2 r hside, rfl, k1.symm, by omega, by omega, fun _ => ⟨k1, e, cs, c', k2, k3, x3, k5⟩, by omega⟩
    · obtain ⟨k2, k3, d, c, k4, k5⟩ := hk.2.2 rfl
      refine ⟨k3, none, r.v, ⟨by rw [nextF, k2], by simp⟩, by simp, fun g hg hbx => ?_⟩
      obtain ⟨x1, x2, x3⟩ := hbx fun _ => ⟨d, c, k4, k5⟩
      obtain ⟨c', x3⟩ := x3 d c (by omega) k4 k5
      refine ⟨true, hg _ hgd, ?_⟩
      simp only [if_true]
      exact ⟨r, x1 st r hx, x2 r hside, by rw [nextF, k2], k3.symm, by omega, by omega, by omega, fun _ => ⟨k2, k3, d, c', k4, x3⟩⟩
    · obtain ⟨k2, k3⟩ := hk.1 hk1
      refine ⟨k3, none, r.v, ⟨by rw [nextF, k2], by simp⟩, by simp, fun g hg hbx => ?_⟩
      obtain ⟨x1, x2, x3⟩ := hbx fun h => by omega
      refine ⟨true, hg _ hgd, ?_⟩
      simp only [if_true]
      exact ⟨r, x1 st r hx, x2 r hside, by rw [nextF, k2], k3.symm, fun h s => x1 s _ (h0 h s), fun _ => ⟨k2, k3⟩, fun h => by omega, fun h => by omega⟩

theorem does_commuteS {ei ej : Nat} {oi oj : Oper} {f f1 f2 : Fenv} {st st1 st2 : List SO} (hap : apartS ops ei ej oi oj = true)
    (hi : ∀ d, oi.dst = some d → NoBox f d) (hj : ∀ d, oj.dst = some d → NoBox f d)
    (h1 : Does cx ops ei oi f st f1 st1) (h2 : Does cx ops ej oj f1 st1 f2 st2) :
    ∃ f1' st1', Does cx ops ej oj f st f1' st1' ∧ Does cx ops ei oi f1' st1' f2 st2 := by
  simp only [apartS, Bool.and_eq_true, Bool.or_eq_true, beq_iff_eq, decide_eq_true_eq] at hap
  obtain ⟨⟨⟨hap, hei⟩, hej⟩, hd⟩ := hap
  obtain ⟨a1, a2, a3⟩ := Oper.apart_spec hap
  have hne : ∀ d, oi.dst = some d → addrOf oj.op ≠ some d := fun d h h2 => a1 d h (mem_looks (addr_mem h2))
  have hne' : ∀ d, oj.dst = some d → addrOf oi.op ≠ some d := fun d h h2 => a3 d h (mem_looks (addr_mem h2))
  have sep : (ei = 3 ∨ ej = 3) → 3 ≤ ei → 3 ≤ ej → ∀ d e, addrOf oi.op = some d → addrOf oj.op = some e → d ≠ e := by
    intro h3 h4 h4' d e h5 h6
    rw [if_pos h3, if_pos ⟨h4, h4'⟩, h5, h6] at hd
    simpa using hd
  have sepj : ei = 3 → ej ≤ 1 → addrOf oj.op = none := by
    intro h3 h4
    rw [if_pos (.inl h3), if_neg (by omega), if_pos h3] at hd
    simpa using hd
  have sepi : ej = 3 → ei ≤ 1 → addrOf oi.op = none := by
    intro h3 h4
    rw [if_pos (.inr h3), if_neg (by omega), if_neg (by omega)] at hd
    simpa using hd
  obtain ⟨e1, b1, v1, t1, p1, q1⟩ := step_shape hei h1
  subst e1
  obtain ⟨e2, b2, v2, t2, p2, q2⟩ := step_shape hej h2
  subst e2
  have f1e : ∀ e cs, b2 = some (e, cs) → f1 e = f e := by
    intro e cs hb
    obtain ⟨h3, h4⟩ := p2 e cs hb
    rw [t1.eq, updO_get _ _ _ (fun h => hne e h h4)]
    cases hb1 : b1 with
    | none => rfl
    | some p =>
      obtain ⟨h5, h6⟩ := p1 p.1 p.2 hb1
      exact upd_ne _ _ (fun h => sep (.inl h5) (by omega) (by omega) _ _ h6 h4 h.symm)
  have b2f : ∀ d cs, b2 = some (d, cs) → ∃ cs', f d = .box cs' := fun d cs hb => by
    obtain ⟨⟨cs', h3⟩, _⟩ := t2.bu d cs hb
    exact ⟨cs', by rw [← f1e d cs hb]; exact h3⟩
  have t2' : Turn oj ej f (updO (updB f b2) oj.dst v2) b2 v2 := ⟨rfl, fun d cs hb => ⟨b2f d cs hb, (t2.bu d cs hb).2⟩⟩
  have hagj : (3 ≤ ej → ∃ d c, addrOf oj.op = some d ∧ f1 d = .box c) → ∀ t, addrOf oj.op = some t → f1 t = f t ∧ ∀ d off, f t = .lp d off → f1 d = f d := by
    intro hB t ht
    have hnt : oi.dst ≠ some t := fun h => hne t h ht
    cases hb1 : b1 with
    | none => exact ⟨t1.get' hb1 hnt, fun d off hl => t1.get' hb1 (fun h4 => (hi d h4).2 t off hl)⟩
    | some p =>
      obtain ⟨e, cs⟩ := p
      obtain ⟨h5, h6⟩ := p1 e cs hb1
      rcases hej with h7 | h7
      · obtain ⟨d, c, h8, h9⟩ := hB (by omega)
        have : t = d := Option.some.inj (ht.symm.trans h8)
        subst this
        have h10 : f1 t = f t := by
          rw [t1.eq, updO_get _ _ _ hnt, hb1]
          exact upd_ne _ _ (fun h => sep (.inl h5) (by omega) (by omega) _ _ h6 h8 h.symm)
        exact ⟨h10, fun d' off hl => by rw [← h10, h9] at hl; cases hl⟩
      · rw [sepj h5 h7] at ht; cases ht
  have hagi : (3 ≤ ei → ∃ d c, addrOf oi.op = some d ∧ f d = .box c) → ∀ t, addrOf oi.op = some t → (updO (updB f b2) oj.dst v2) t = f t ∧ ∀ d off, f t = .lp d off → (updO (updB f b2) oj.dst v2) d = f d := by
    intro hB t ht
    have hnt : oj.dst ≠ some t := fun h => hne' t h ht
    cases hb2 : b2 with
    | none =>
      rw [hb2] at t2'
      exact ⟨t2'.get' rfl hnt, fun d off hl => t2'.get' rfl (fun h4 => (hj d h4).2 t off hl)⟩
    | some p =>
      obtain ⟨e, cs⟩ := p
      obtain ⟨h5, h6⟩ := p2 e cs hb2
      rcases hei with h7 | h7
      · obtain ⟨d, c, h8, h9⟩ := hB (by omega)
        have : t = d := Option.some.inj (ht.symm.trans h8)
        subst this
        refine ⟨?_, fun d' off hl => by rw [h9] at hl; cases hl⟩
        rw [updO_get _ _ _ hnt]
        exact upd_ne _ _ (fun h => sep (.inr h5) (by omega) (by omega) _ _ h8 h6 h)
      · rw [sepi h5 h7] at ht; cases ht
  have agj : ∀ t, t ∈ oj.looksAt ops → f t = f1 t ∨ ((∃ c, f t = .box c) ∧ ∃ c, f1 t = .box c) := fun t h => by
    rcases t1.get (fun h2 => a1 t h2 h) with h3 | ⟨h3, h4⟩
    · exact .inl h3.symm
    · exact .inr ⟨h4, h3⟩
  have agi : ∀ t, t ∈ oi.looksAt ops → (updO (updB f b2) oj.dst v2) t = f t ∨ ((∃ c, (updO (updB f b2) oj.dst v2) t = .box c) ∧ ∃ c, f t = .box c) := fun t h => t2'.get (fun h2 => a3 t h2 h)
  have feq : f2 = updO (updB (updO (updB f b2) oj.dst v2) b1) oi.dst v1 := by
    rw [t2.eq, t1.eq]
    have c1 : updB (updO (updB f b1) oi.dst v1) b2 = updO (updB (updB f b1) b2) oi.dst v1 := by
      cases hb : b2 with
      | none => rfl
      | some p =>
        obtain ⟨d, cs⟩ := p
        exact updO_comm (x := oi.dst) (y := some d) _ v1 (.box cs) (fun e he h => hne e he (by rw [← Option.some.inj h]; exact (p2 d cs hb).2))
    have c2 : updB (updO (updB f b2) oj.dst v2) b1 = updO (updB (updB f b2) b1) oj.dst v2 := by
      cases hb : b1 with
      | none => rfl
      | some p =>
        obtain ⟨d, cs⟩ := p
        exact updO_comm (x := oj.dst) (y := some d) _ v2 (.box cs) (fun e he h => hne' e he (by rw [← Option.some.inj h]; exact (p1 d cs hb).2))
    have c3 : updB (updB f b1) b2 = updB (updB f b2) b1 := by
      cases hb : b1 with
      | none => rfl
      | some p =>
        cases hb' : b2 with
        | none => rfl
        | some p' =>
          obtain ⟨d, cs⟩ := p
          obtain ⟨d', cs'⟩ := p'
          obtain ⟨h5, h6⟩ := p1 d cs hb
          obtain ⟨h7, h8⟩ := p2 d' cs' hb'
          exact upd_comm f (.box cs) (.box cs') (sep (.inl h5) (by omega) (by omega) _ _ h6 h8)
    rw [c1, c2, c3]
    exact updO_comm _ _ _ fun d hd => a2 d hd
  have fin1 := q2 f (fun b hb => guardA_agree hb fun i want t hg ht => agj t (guard_looks hg ht)) (fun hB => by
    have h3 := fun (s : List SO) (r : Res) => does_at0 (cx := cx) (ops := ops) (r := r) (st := s) t1 a1 (hagj hB) hi (g := f1) (.inr rfl) (g' := f) (.inl rfl)
    exact ⟨fun s r => (h3 s r).2.1, fun r => (h3 st2 r).2.2, fun d c hk hd hc => ⟨c, by rw [← (hagj hB d hd).1]; exact hc⟩⟩)
  have fin2 := q1 (updO (updB f b2) oj.dst v2) (fun b hb => guardA_agree hb fun i want t hg ht => agi t (guard_looks hg ht)) (fun hB => by
    have h3 := fun (s : List SO) (r : Res) => does_at0 (cx := cx) (ops := ops) (r := r) (st := s) t2' a3 (hagi hB) hj (g := f) (.inl ⟨rfl, trivial⟩) (g' := updO (updB f b2) oj.dst v2) (.inr rfl)
    exact ⟨fun s r => (h3 s r).2.1, fun r => (h3 st2 r).2.2, fun d c hk hd hc => ⟨c, by rw [(hagi hB d hd).1]; exact hc⟩⟩)
  exact ⟨_, _, fin1, by rw [feq]; exact fin2⟩

def apartY (ops : Array Oper) (ei ej : Nat) (oi oj : Oper) : Bool := apartX ops ei ej oi oj || apartS ops ei ej oi oj
theorem does_commuteY {ei ej : Nat} {oi oj : Oper} {f f1 f2 : Fenv} {st st1 st2 : List SO} (hap : apartY ops ei ej oi oj = true)
    (hi : ∀ d, oi.dst = some d → NoBox f d) (hj : ∀ d, oj.dst = some d → NoBox f d)
    (h1 : Does cx ops ei oi f st f1 st1) (h2 : Does cx ops ej oj f1 st1 f2 st2) :
    ∃ f1' st1', Does cx ops ej oj f st f1' st1' ∧ Does cx ops ei oi f1' st1' f2 st2 := by
  unfold apartY at hap
  rcases Bool.or_eq_true _ _ ▸ hap with h | h
  · exact does_commute h hi hj h1 h2
  · exact does_commuteS h hi hj h1 h2

/-! ### Whatever order -/

inductive Waits (ops : Array Oper) : Nat → Nat → Prop
  | one {j i : Nat} {o : Oper} {e : Edge} (hj : ops[j]? = some o) (he : e ∈ o.after) (hb : Region.binds .any e = true) (hi : e.on = i) : Waits ops j i
  | more {j m i : Nat} {o : Oper} {e : Edge} (hj : ops[j]? = some o) (he : e ∈ o.after) (hb : Region.binds .any e = true) (hm : e.on = m) (h : Waits ops m i) : Waits ops j i

def Closed (ops : Array Oper) (listed : Array Bool) : Prop :=
  ∀ j o, ops[j]? = some o → listed.getD j false = true → ∀ e ∈ o.after, Region.binds .any e = true → listed.getD e.on false = true

theorem getD_both' {listed : Array Bool} {i : Nat} (h : listed.getD i true = false) : listed.getD i false = false := by
  rcases Nat.lt_or_ge i listed.size with h' | h'
  · simp [h'] at h ⊢; exact h
  · simp [Array.getElem?_eq_none h'] at h

theorem not_ready {listed : Array Bool} {i j : Nat} (hc : Closed ops listed) (hi : listed.getD i true = false) (h : Waits ops j i) :
    ¬ (∀ o, ops[j]? = some o → ∀ e ∈ o.after, Region.binds .any e = true → listed.getD e.on false = true) := by
  induction h with
  | one hj he hb hi' =>
    intro hall
    have := hall _ hj _ he hb
    rw [hi', getD_both' hi] at this
    cases this
  | more hj he hb hm _ ih =>
    intro hall
    have := hall _ hj _ he hb
    rw [hm] at this
    exact ih hi fun o ho e he hb => hc _ o ho this e he hb

theorem Closed.set {listed : Array Bool} {i : Nat} (hc : Closed ops listed) (hr : i ∈ Region.ready .any ops listed) : Closed ops (listed.setIfInBounds i true) := by
  intro j o hj hl e he hb
  obtain ⟨_, oi, hoi, hall⟩ := mem_ready.1 hr
  by_cases hij : i = j
  · subst hij
    have : o = oi := Option.some.inj (hj.symm.trans hoi)
    subst this
    exact getD_set_true (hall e he hb)
  · rw [getD_set_ne false hij] at hl
    exact getD_set_true (hc j o hj hl e he hb)

/-- Slots not yet written are free of boxes and of pointers to them. -/
def Free (cx : Cx) (ops : Array Oper) (listed : Array Bool) (f : Fenv) : Prop :=
  ∀ (j : Nat) (o : Oper) (d : Nat), ops[j]? = some o → listed.getD j true = false → o.dst = some d → d < cx.N ∧ NoBox f d

/-- Whatever is taken next. -/
def anyR (cx : Cx) (ops : Array Oper) (eff : Nat → Nat) (K : Fenv → List SO → Prop) : Nat → Array Bool → Fenv → List SO → Prop
  | 0, listed, f, st => Region.ready .any ops listed = [] ∧ K f st
  | n + 1, listed, f, st => (Region.ready .any ops listed = [] → K f st) ∧
    ∀ i ∈ Region.ready .any ops listed, ∃ o f' st', ops[i]? = some o ∧ Does cx ops (eff i) o f st f' st' ∧ anyR cx ops eff K n (listed.setIfInBounds i true) f' st'

theorem Free.step {eff : Nat} {listed : Array Bool} {i : Nat} {o : Oper} {f f' : Fenv} {st st' : List SO} (h : Free cx ops listed f) (hi : ops[i]? = some o)
    (hdoes : Does cx ops eff o f st f' st') (hne : ∀ (j : Nat) (o' : Oper) (d : Nat), ops[j]? = some o' → j ≠ i → o'.dst = some d → o.dst ≠ some d)
    (hun : listed.getD i true = false) : Free cx ops (listed.setIfInBounds i true) f' := by
  intro j o' d hj hl hd
  by_cases hij : i = j
  · subst hij
    rcases Nat.lt_or_ge i listed.size with h' | h'
    · simp [h'] at hl
    · simp [Array.getElem?_eq_none h'] at hun
  · rw [getD_set_ne true hij] at hl
    have hf : Fresh cx [o, o'] f := by
      intro o1 ho1 d1 hd1
      simp only [List.mem_cons, List.not_mem_nil, or_false] at ho1
      rcases ho1 with rfl | rfl
      · exact h i o1 d1 hi hun hd1
      · exact h j o1 d1 hj hl hd1
    exact does_fresh hdoes hf (fun o1 ho1 d1 hd1 => by
      simp only [List.mem_cons, List.not_mem_nil, or_false] at ho1
      subst ho1
      exact hne j o1 d1 hj (Ne.symm hij) hd1) o' (by simp) d hd

theorem anyR_first {eff : Nat → Nat} {K : Fenv → List SO → Prop} {i : Nat} {oi : Oper} (hi : ops[i]? = some oi)
    (hne : ∀ (j j' : Nat) (o o' : Oper) (d : Nat), ops[j]? = some o → ops[j']? = some o' → j ≠ j' → o'.dst = some d → o.dst ≠ some d) :
    ∀ (n : Nat) (listed : Array Bool) (f f1 : Fenv) (st st1 : List SO), Closed ops listed → Free cx ops listed f →
      (∀ j oj, ops[j]? = some oj → j ≠ i → listed.getD j true = false → Waits ops j i ∨ apartY ops (eff i) (eff j) oi oj = true) →
      i ∈ Region.ready .any ops listed → Does cx ops (eff i) oi f st f1 st1 → anyR cx ops eff K n (listed.setIfInBounds i true) f1 st1 → anyR cx ops eff K (n + 1) listed f st := by
  intro n
  induction n with
  | zero =>
    intro listed f f1 st st1 hc hfr hfree hr hdoes H
    refine ⟨fun h => (by rw [h] at hr; cases hr), fun j hj => ?_⟩
    by_cases hji : j = i
    · subst hji
      exact ⟨oi, f1, st1, hi, hdoes, H⟩
    · have := ready_mono hj hji
      rw [H.1] at this
      cases this
  | succ n ih =>
    intro listed f f1 st st1 hc hfr hfree hr hdoes H
    refine ⟨fun h => (by rw [h] at hr; cases hr), fun j hj => ?_⟩
    by_cases hji : j = i
    · subst hji
      exact ⟨oi, f1, st1, hi, hdoes, H⟩
    · obtain ⟨oj, f2, st2, hoj, hdj, H2⟩ := H.2 j (ready_mono hj hji)
      obtain ⟨hjun, oj', hoj', hall⟩ := mem_ready.1 hj
      have hun := (mem_ready.1 hr).1
      have hap : apartY ops (eff i) (eff j) oi oj = true := by
        rcases hfree j oj hoj hji hjun with h | h
        · exact absurd (fun o ho e he hb => by
            have : o = oj' := Option.some.inj (ho.symm.trans hoj')
            subst this
            exact hall e he hb) (not_ready hc hun h)
        · exact h
      obtain ⟨f1', st1', hdj', hdi'⟩ := does_commuteY hap (fun d hd => (hfr i oi d hi hun hd).2) (fun d hd => (hfr j oj d hoj hjun hd).2) hdoes hdj
      refine ⟨oj, f1', st1', hoj, hdj', ?_⟩
      refine ih (listed.setIfInBounds j true) f1' f2 st1' st2 (hc.set hj) (hfr.step hoj hdj' (fun k o' d hk hkj hd => hne j k oj o' d hoj hk (Ne.symm hkj) hd) hjun)
        (fun k ok hk hki hkun => ?_) (ready_mono hr (Ne.symm hji)) hdi' ?_
      · by_cases hjk : j = k
        · subst hjk
          rcases Nat.lt_or_ge j listed.size with h' | h'
          · simp [h'] at hkun
          · simp [Array.getElem?_eq_none h'] at hjun
        · rw [getD_set_ne true hjk] at hkun
          exact hfree k ok hk hki hkun
      · rw [Array.setIfInBounds_comm _ _ hji]
        exact H2

theorem wpAny_of_anyR {eff : Nat → Nat} {K : Fenv → List SO → Prop} {γ0 : Gh} {w0 : World} {Q : Exit → Act → World → Prop}
    (ro : Option Nat) (rm : Nat) (hK : ∀ f st a w, K f st → St cx γ0 w0 f st a w → Q .normal a w)
    (hne : ∀ (j j' : Nat) (o o' : Oper) (d : Nat), ops[j]? = some o → ops[j']? = some o' → j ≠ j' → o'.dst = some d → o.dst ≠ some d) :
    ∀ (n : Nat) (listed : Array Bool) (f : Fenv) (st : List SO) (a : Act) (w : World), Free cx ops listed f → St cx γ0 w0 f st a w →
      anyR cx ops eff K n listed f st → wpAnyIn (wideR ro) rm cx.P .any ops Q n listed a w
  | 0, _, _, _, _, _, _, hs, h => ⟨h.1, hK _ _ _ _ h.2 hs⟩
  | n + 1, listed, f, st, a, w, hfr, hs, h => ⟨fun h0 => hK _ _ _ _ (h.1 h0) hs, fun i hi => by
      obtain ⟨o, f', st', ho, hdoes, hrest⟩ := h.2 i hi
      have hun := (mem_ready.1 hi).1
      refine wpOp_of_does ho hs (fun d hd => hfr i o d ho hun hd) hdoes (fun a' w' hs' => ?_) ro rm
      exact wpAny_of_anyR ro rm hK hne n _ f' st' a' w' (hfr.step ho hdoes (fun k o' d hk hki hd => hne i k o o' d ho hk (Ne.symm hki) hd) hun) hs' hrest⟩

/-- Which operations an operation waits for, through others too: as bits. -/
def maskOf (acc : List Nat) (o : Oper) : Nat :=
  o.after.toList.foldr (fun e s => if Region.binds .any e then s ||| 2 ^ e.on ||| acc.getD e.on 0 else s) 0
def masks : List Nat → List Oper → List Nat
  | acc, [] => acc
  | acc, o :: rest => masks (acc ++ [maskOf acc o]) rest

theorem maskOf_spec {acc : List Nat} {i k : Nat} {o : Oper} (hk : ops[k]? = some o) (hacc : ∀ j m, acc[j]? = some m → m.testBit i = true → Waits ops j i) :
    (maskOf acc o).testBit i = true → Waits ops k i := by
  have key : ∀ l : List Edge, (∀ e ∈ l, e ∈ o.after) →
      (l.foldr (fun e s => if Region.binds .any e then s ||| 2 ^ e.on ||| acc.getD e.on 0 else s) 0).testBit i = true → Waits ops k i := by
    intro l
    induction l with
    | nil => intro _ h; simp at h
    | cons e l ih =>
      intro hl h
      simp only [List.foldr_cons] at h
      split at h
      · next hb =>
        rw [Nat.testBit_or, Nat.testBit_or, Bool.or_eq_true, Bool.or_eq_true] at h
        rcases h with (h | h) | h
        · exact ih (fun e' he' => hl e' (List.mem_cons_of_mem _ he')) h
        · rw [Nat.testBit_two_pow] at h
          exact .one hk (hl e (List.mem_cons_self ..)) hb (by simpa using h)
        · cases hm : acc[e.on]? with
          | none => rw [List.getD_eq_getElem?_getD, hm] at h; simp at h
          | some m =>
            rw [List.getD_eq_getElem?_getD, hm] at h
            exact .more hk (hl e (List.mem_cons_self ..)) hb rfl (hacc _ _ hm h)
      · exact ih (fun e' he' => hl e' (List.mem_cons_of_mem _ he')) h
  exact key _ (fun e he => by simpa using he)

theorem masks_spec {i : Nat} : ∀ (l : List Oper) (acc : List Nat), (∀ j, l[j]? = ops[acc.length + j]?) → (∀ j m, acc[j]? = some m → m.testBit i = true → Waits ops j i) →
    ∀ j m, (masks acc l)[j]? = some m → m.testBit i = true → Waits ops j i
  | [], _, _, hacc => hacc
  | o :: l, acc, hl, hacc => by
    have h0 : ops[acc.length]? = some o := by simpa using (hl 0).symm
    refine masks_spec l (acc ++ [maskOf acc o]) (fun j => ?_) (fun j m hj hm => ?_)
    · have := hl (j + 1)
      simpa [Nat.add_assoc, Nat.add_comm 1 j] using this
    · rw [List.getElem?_append] at hj
      split at hj
      · exact hacc j m hj hm
      · next hge =>
        have hj0 : j = acc.length := by
          rcases Nat.lt_or_ge (j - acc.length) 1 with h | h
          · omega
          · rw [List.getElem?_eq_none (by simpa using h)] at hj; cases hj
        subst hj0
        simp at hj
        subst hj
        exact maskOf_spec h0 hacc hm

def freeX (ops : Array Oper) (ms : List Nat) (eff : Nat → Nat) (listed : Array Bool) (i : Nat) : Bool :=
  (List.range ops.size).all fun j => j == i || listed.getD j true || (ms.getD j 0).testBit i ||
    match ops[i]?, ops[j]? with
    | some oi, some oj => apartY ops (eff i) (eff j) oi oj
    | _, _ => true

def lexX (ops : Array Oper) (ms : List Nat) (eff : Nat → Nat) : Nat → Nat → Array Bool → Bool
  | 0, _, listed => (Region.ready .any ops listed).isEmpty
  | n + 1, k, listed => (Region.ready .any ops listed).contains k && freeX ops ms eff listed k && lexX ops ms eff n (k + 1) (listed.setIfInBounds k true)

/-- What the kernel is asked of a region that draws. -/
def drawB (N : Nat) (l : List Oper) (ks : List Nat) : Bool :=
  dstsOk N l && lexX l.toArray (masks [] l) (fun k => ks.getD k 0) l.length 0 (Array.replicate l.length false)

theorem anyR_lex {eff : Nat → Nat} {K : Fenv → List SO → Prop} {ms : List Nat} (hms : ∀ i j m, ms[j]? = some m → m.testBit i = true → Waits ops j i)
    (hne : ∀ (j j' : Nat) (o o' : Oper) (d : Nat), ops[j]? = some o → ops[j']? = some o' → j ≠ j' → o'.dst = some d → o.dst ≠ some d) :
    ∀ (l : List Oper) (k : Nat) (listed : Array Bool) (f : Fenv) (st : List SO), (∀ j, l[j]? = ops[k + j]?) → Closed ops listed → Free cx ops listed f →
      lexX ops ms eff l.length k listed = true → regL cx ops eff l k f st K → anyR cx ops eff K l.length listed f st
  | [], _, _, _, _, _, _, _, hB, h => ⟨by simpa [lexX] using hB, h⟩
  | o :: l, k, listed, f, st, hl, hc, hfr, hB, h => by
    have h0 : ops[k]? = some o := by simpa using (hl 0).symm
    simp only [List.length_cons, lexX, Bool.and_eq_true] at hB
    obtain ⟨⟨hr, hf⟩, hB'⟩ := hB
    have hr' : k ∈ Region.ready .any ops listed := by simpa using hr
    obtain ⟨f', st', hdoes, h⟩ := h
    have hun := (mem_ready.1 hr').1
    refine anyR_first h0 hne l.length listed f f' st st' hc hfr (fun j oj hj hjk hjun => ?_) hr' hdoes ?_
    · simp only [freeX, List.all_eq_true, List.mem_range] at hf
      have h1 := hf j (Array.getElem?_eq_some_iff.1 hj).1
      simp only [h0, hj, Bool.or_eq_true, beq_iff_eq, hjk, false_or, hjun, Bool.false_eq_true] at h1
      rcases h1 with h1 | h1
      · left
        cases hm : ms[j]? with
        | none => rw [List.getD_eq_getElem?_getD, hm] at h1; simp at h1
        | some m => rw [List.getD_eq_getElem?_getD, hm] at h1; exact hms k j m hm h1
      · exact .inr h1
    · refine anyR_lex hms hne l (k + 1) _ f' st' (fun j => ?_) (hc.set hr') (hfr.step h0 hdoes (fun j o' d hj hjk hd => hne k j o o' d h0 hj (Ne.symm hjk) hd) hun) hB' h
      have := hl (j + 1)
      simpa [Nat.add_assoc, Nat.add_comm 1 j] using this

theorem dstsOk_ne' {n : Nat} {l : List Oper} (h : dstsOk n l = true) : ∀ (j j' : Nat) (o o' : Oper) (d : Nat), l[j]? = some o → l[j']? = some o' → j ≠ j' → o'.dst = some d → o.dst ≠ some d := by
  induction l with
  | nil => intro j j' o o' d hj; simp at hj
  | cons x rest ih =>
    intro j j' o o' d hj hj' hne hd
    have hrest : dstsOk n rest = true := by rw [dstsOk, Bool.and_eq_true] at h; exact h.2
    cases j with
    | zero =>
      simp at hj
      subst hj
      cases j' with
      | zero => omega
      | succ j' => exact dstsOk_ne h o' (List.mem_of_getElem? (by simpa using hj')) d hd
    | succ j =>
      cases j' with
      | zero =>
        simp at hj'
        subst hj'
        intro hd'
        exact dstsOk_ne h o (List.mem_of_getElem? (by simpa using hj)) d hd' hd
      | succ j' => exact ih hrest j j' o o' d (by simpa using hj) (by simpa using hj') (by omega) hd

/-- **A region that draws its order.** -/
theorem tri_draw {id : Nat} {l : List Oper} {f : Fenv} {st : List SO} {K : Fenv → List SO → Prop} {Q : Exit → Fenv → List SO → Prop} (ks : List Nat)
    (hm : cx.P.follows .mixedOrders = true) (hB : drawB cx.N l ks = true)
    (h : regL cx l.toArray (fun k => ks.getD k 0) l 0 (cleanF l f) st K) : Tri cx (.region id l.toArray true) f st (thenT K Q) := by
  intro γ0 w0 a w hs ro rm _
  simp only [drawB, Bool.and_eq_true] at hB
  have hne : ∀ (j j' : Nat) (o o' : Oper) (d : Nat), l.toArray[j]? = some o → l.toArray[j']? = some o' → j ≠ j' → o'.dst = some d → o.dst ≠ some d := fun j j' o o' d h1 h2 => by
    simp only [List.getElem?_toArray] at h1 h2
    exact dstsOk_ne' hB.1 j j' o o' d h1 h2
  have hfr : Free cx l.toArray (Array.replicate l.length false) (cleanF l f) := by
    intro j o d hj _ hd
    simp only [List.getElem?_toArray] at hj
    exact cleanF_fresh hB.1 o (List.mem_of_getElem? hj) d hd
  have hcl : Closed l.toArray (Array.replicate l.length false) := by
    intro j o _ hl
    rcases Nat.lt_or_ge j l.length with h' | h'
    · simp [h'] at hl
    · simp [h'] at hl
  have h1 := anyR_lex (cx := cx) (ops := l.toArray) (ms := masks [] l) (K := K)
    (fun i j m hj hm => masks_spec (ops := l.toArray) l [] (by simp) (by simp) j m hj hm) hne l 0 (Array.replicate l.length false) (cleanF l f) st (by simp) hcl hfr
    (by simpa using hB.2) h
  refine wpIn_region_any hm ?_
  have h2 := wpAny_of_anyR ro rm (cx := cx) (ops := l.toArray) (γ0 := γ0) (w0 := w0) (Q := fun e a' w' => ∃ f' st', thenT K Q e f' st' ∧ St cx γ0 w0 f' st' a' w')
    (fun f st a w hk hs => ⟨f, st, hk, hs⟩) hne l.length (Array.replicate l.length false) (cleanF l f) st a { w with drawn := w.drawn + 1 } hfr
    (weak_env (cleanF_sub l f) γ0 w0 a _ (St.drewE hs)) h1
  simpa using h2
end
end Go.L1
namespace Go.L1
open Go

/-- An operation without its place in the text. -/
structure LOp where
  dst : Option Nat
  op : Op
  guard : Option (Nat × Bool)

def lop (o : Oper) : LOp := ⟨o.dst, o.op, o.guard⟩

inductive LCode where
  | skip
  | reg (id : Nat) (ops : List LOp) (draw : Bool)
  | seq (a b : LCode)
  | cond (c : Operand) (thn els : LCode)
  | block (id : Nat) (body : LCode)
  | loop (body : LCode)
  | exit (id : Nat)
  | ret
  | rng (g : Operand) (ps : Array Tmp) (assign body : LCode)
  | other

def light : Code → LCode
  | .skip => .skip
  | .region id ops draw => .reg id (ops.toList.map lop) draw
  | .seq a b => .seq (light a) (light b)
  | .cond c a b => .cond c (light a) (light b)
  | .block id b => .block id (light b)
  | .loop b => .loop (light b)
  | .exit id => .exit id
  | .ret => .ret
  | .rangeFunc g ps a b => .rng g ps (light a) (light b)
  | _ => .other

/-- What the kernel is asked of a function's code. -/
def codeB (N : Nat) (ks : Nat → List Nat) : Code → Bool
  | .region id ops draw => if draw then drawB N ops.toList (ks id) else dstsOk N ops.toList
  | .seq a b => codeB N ks a && codeB N ks b
  | .cond _ a b => codeB N ks a && codeB N ks b
  | .block _ b => codeB N ks b
  | .loop b => codeB N ks b
  | .rangeFunc _ ps a b => codeB N ks a && codeB N ks b && noRng a && noRng b && ps.toList.all (· < N)
  | _ => true

/-- A value handed on: simp is to compute it first. -/
def onV (v : V) (K : V → Prop) : Prop := K v
def onO {α : Type} (o : Option α) (K : Option α → Prop) : Prop := K o
abbrev Env := List (Nat × V)
def getE : Env → Nat → V
  | [], _ => .undef
  | (k, v) :: r, d => if k = d then v else getE r d
theorem get_cons (d : Nat) (v : V) (e : Env) : getE ((d, v) :: e) = upd (getE e) d v := by
  funext t; simp only [getE, upd]; by_cases h : d = t
  · simp [h]
  · simp [h, Ne.symm h]
def setO (e : Env) : Option Nat → V → Env
  | some d, v => (d, v) :: e
  | none, _ => e
theorem get_setO (e : Env) (d : Option Nat) (v : V) : getE (setO e d v) = updO (getE e) d v := by
  cases d with
  | none => rfl
  | some d => exact get_cons d v e
def setB (e : Env) : Option (Nat × List V) → Env
  | some (d, cs) => (d, .box cs) :: e
  | none => e
theorem get_setB (e : Env) (b : Option (Nat × List V)) : getE (setB e b) = updB (getE e) b := by
  cases b with
  | none => rfl
  | some p => exact get_cons p.1 _ e

/-- The triple over light code. -/
def TriX (cx : Cx) (ks : Nat → List Nat) (lc : LCode) (e : Env) (st : List SO) (Q : Exit → Env → List SO → Prop) : Prop :=
  ∀ c, light c = lc → codeB cx.N ks c = true → Tri cx c (getE e) st (fun x f st => ∃ e', f = getE e' ∧ Q x e' st)

section
variable {cx : Cx} {ks : Nat → List Nat} {e : Env} {st : List SO} {Q Q' : Exit → Env → List SO → Prop}

def thenE (K : Env → List SO → Prop) (Q : Exit → Env → List SO → Prop) : Exit → Env → List SO → Prop
  | .normal, f, st => K f st
  | e, f, st => Q e f st
def blockE (id : Nat) (Q : Exit → Env → List SO → Prop) : Exit → Env → List SO → Prop
  | .exit id', f, st => if id' = id then Q .normal f st else Q (.exit id') f st
  | e, f, st => Q e f st

theorem TriX.mono {c : LCode} (h : TriX cx ks c e st Q) (hq : ∀ x e st, Q x e st → Q' x e st) : TriX cx ks c e st Q' :=
  fun c hc hB => (h c hc hB).mono fun _ _ _ ⟨e', h1, h2⟩ => ⟨e', h1, hq _ _ _ h2⟩

theorem triL_ret (h : Q .ret e st) : TriX cx ks .ret e st Q := by
  intro c hc _
  cases c <;> simp [light] at hc
  exact tri_ret ⟨e, rfl, h⟩
theorem triL_skip (h : Q .normal e st) : TriX cx ks .skip e st Q := by
  intro c hc _
  cases c <;> simp [light] at hc
  exact tri_skip ⟨e, rfl, h⟩
theorem triL_exit {id : Nat} (h : Q (.exit id) e st) : TriX cx ks (.exit id) e st Q := by
  intro c hc _
  cases c <;> simp [light] at hc
  subst hc
  exact tri_exit ⟨e, rfl, h⟩
theorem triL_seq {a b : LCode} (h : TriX cx ks a e st (thenE (fun e st => TriX cx ks b e st Q) Q)) : TriX cx ks (.seq a b) e st Q := by
  intro c hc hB
  cases c <;> simp [light] at hc
  obtain ⟨ha, hb⟩ := hc
  simp only [codeB, Bool.and_eq_true] at hB
  refine tri_seq fun K hK => ?_
  refine (h _ ha hB.1).mono ?_
  rintro x f st ⟨e', rfl, hq⟩
  cases x with
  | normal => exact hK _ _ (hq _ hb hB.2)
  | _ => exact ⟨e', rfl, hq⟩
theorem triL_block {id : Nat} {b : LCode} (h : TriX cx ks b e st (blockE id Q)) : TriX cx ks (.block id b) e st Q := by
  intro c hc hB
  cases c <;> simp [light] at hc
  obtain ⟨rfl, hb⟩ := hc
  simp only [codeB] at hB
  refine tri_block ((h _ hb hB).mono ?_)
  rintro x f st ⟨e', rfl, hq⟩
  cases x with
  | exit id' =>
    simp only [blockE] at hq
    simp only [blockT]
    split <;> simp_all <;> exact ⟨e', rfl, hq⟩
  | _ => exact ⟨e', rfl, hq⟩
theorem triL_cond {o : Operand} {x y : LCode} (b : Bool) (hc : opnd (getE e) o = .c (.bool b)) (ht : b = true → TriX cx ks x e st Q) (hf : b = false → TriX cx ks y e st Q) :
    TriX cx ks (.cond o x y) e st Q := by
  intro c hl hB
  cases c <;> simp [light] at hl
  obtain ⟨rfl, hx, hy⟩ := hl
  simp only [codeB, Bool.and_eq_true] at hB
  exact tri_cond hc (fun h => ht h _ hx hB.1) (fun h => hf h _ hy hB.2)

theorem triL_condAny {o : Operand} {x y : LCode} (hc : opnd (getE e) o = .anyb) (ht : TriX cx ks x e st Q) (hf : TriX cx ks y e st Q) :
    TriX cx ks (.cond o x y) e st Q := by
  intro c hl hB
  cases c <;> simp [light] at hl
  obtain ⟨rfl, hx, hy⟩ := hl
  simp only [codeB, Bool.and_eq_true] at hB
  exact tri_condAny hc (ht _ hx hB.1) (hf _ hy hB.2)

/-- One environment says less than another. -/
def WeakE (cx : Cx) (e : Env) (st : List SO) (e' : Env) (st' : List SO) : Prop := Weak cx (getE e) st (getE e') st'
theorem WeakE.refl : WeakE cx e st e st := Weak.refl
theorem weakE_env {e' : Env} (h : ∀ d, getE e' d = .undef ∨ getE e' d = getE e d) : WeakE cx e st e' st := weak_env h

/-- Every entry of the smaller environment is the greater one's. -/
def subE (e : Env) : Env → Prop
  | [] => True
  | (d, v) :: r => getE e d = v ∧ subE e r
theorem subE_get {e e' : Env} (h : subE e e') : ∀ d, getE e' d = .undef ∨ getE e' d = getE e d := by
  induction e' with
  | nil => intro d; exact .inl rfl
  | cons p r ih =>
    obtain ⟨k, v⟩ := p
    intro d
    simp only [getE]
    split
    · next hk => subst hk; exact .inr h.1.symm
    · exact ih h.2 d
theorem weakE_sub {e' : Env} (h : subE e e') : WeakE cx e st e' st := weakE_env (subE_get h)
theorem triL_weak {c : LCode} {e' : Env} {st' : List SO} (hw : WeakE cx e st e' st') (h : TriX cx ks c e' st' Q) : TriX cx ks c e st Q :=
  fun c hc hB => tri_weak hw (h c hc hB)

theorem triL_loop {b : LCode} (I : Nat → Env → List SO → Prop) (m : Nat) (h0 : ∃ e' st', WeakE cx e st e' st' ∧ I m e' st')
    (round : ∀ m e st, I m e st → TriX cx ks b e st (thenE (fun e' st' => ∃ m' e'' st'', m' < m ∧ WeakE cx e' st' e'' st'' ∧ I m' e'' st'') Q)) :
    TriX cx ks (.loop b) e st Q := by
  intro c hl hB
  cases c <;> simp [light] at hl
  simp only [codeB] at hB
  obtain ⟨e1, st1, hw, hI⟩ := h0
  refine tri_loop (fun m f st => ∃ e, f = getE e ∧ I m e st) m ⟨getE e1, st1, hw, e1, rfl, hI⟩ ?_
  rintro m f st ⟨e, rfl, hI⟩
  refine (round m e st hI _ hl hB).mono ?_
  rintro x f st ⟨e', rfl, hq⟩
  cases x with
  | normal =>
    obtain ⟨m', e2, st2, hlt, hw2, hI2⟩ := hq
    exact ⟨m', getE e2, st2, hlt, hw2, e2, rfl, hI2⟩
  | _ => exact ⟨e', rfl, hq⟩

/-! ### Regions over light operations -/

/-- One operation's condition, its outcome handed on: 'K c r': c is its class. -/
structure OpSound (cx : Cx) (op : Op) (f : Fenv) (st : List SO) (c : Nat) (r : Res) : Prop where
  x : ∀ o : Oper, o.op = op → OpX cx o f st r
  side : ∀ o : Oper, o.op = op → Side o f r
  c0 : c = 0 ∨ c = 4 → ∀ o : Oper, o.op = op → ∀ s, OpX cx o f s ⟨r.v, none, s⟩
  c1 : c ≤ 1 ∨ c = 4 → r.bu = none ∧ r.st = st
  c3 : c = 3 → ∀ o : Oper, o.op = op → Solo o f st r
  c4 : c = 4 → ∃ d cs, addrOf op = some d ∧ f d = .box cs

/-- May an operation of class c stand where class k is asked? -/
def clsOk (c k : Nat) : Bool := if k = 3 then c == 3 else if k = 4 then c == 4 else decide (c ≤ k) || (c == 3 && k == 2) || c == 4
theorem OpSound.cls {cx : Cx} {op : Op} {f : Fenv} {st : List SO} {c k : Nat} {r : Res} (h : OpSound cx op f st c r) (hk : clsOk c k = true) (o : Oper) (ho : o.op = op) :
    (k = 0 → ∀ s, OpX cx o f s ⟨r.v, none, s⟩) ∧ Cls k o f st r := by
  unfold clsOk at hk
  split at hk
  · next h3 =>
    have hc : c = 3 := by simpa using hk
    exact ⟨fun h0 => by omega, fun h1 => by omega, fun _ => h.c3 hc o ho, fun h4 => by omega⟩
  · next h3 =>
    split at hk
    · next h4 =>
      have hc : c = 4 := by simpa using hk
      obtain ⟨k1, k2⟩ := h.c1 (.inr hc)
      refine ⟨fun h0 => by omega, fun h1 => by omega, fun h1 => by omega, fun _ => ⟨k1, k2, ?_⟩⟩
      rw [ho]; exact h.c4 hc
    · next h4 =>
      simp only [Bool.or_eq_true, decide_eq_true_eq, Bool.and_eq_true, beq_iff_eq] at hk
      exact ⟨fun h0 s => h.c0 (by omega) o ho s, fun h1 => h.c1 (by omega), fun h2 => absurd h2 h3, fun h2 => absurd h2 h4⟩

def guardW (dsts : List (Option Nat)) (g : Option (Nat × Bool)) (e : Env) (K : Bool → Prop) : Prop :=
  match g with
  | none => K true
  | some (i, want) => onO (dsts[i]?) fun d => match d with
    | some (some t) => onV (getE e t) fun v => match v with
      | .c (.bool b) => (b = want → K true) ∧ (b = (!want) → K false)
      | .tup [] => K false
      | _ => False
    | _ => False

/-- The lexical walk over light operations: 'W' says what one operation's outcome may be. -/
def regW (W : LOp → Env → List SO → (Nat → Res → Prop) → Prop) (dsts : List (Option Nat)) (ks : List Nat) (dk : Nat) :
    List LOp → Nat → Env → List SO → (Env → List SO → Prop) → Prop
  | [], _, e, st, K => K e st
  | o :: rest, i, e, st, K => guardW dsts o.guard e fun b =>
      match b with
      | true => W o e st fun c r => clsOk c (ks.getD i dk) = true ∧ regW W dsts ks dk rest (i + 1) (setO (setB e r.bu) o.dst r.v) r.st K
      | false => regW W dsts ks dk rest (i + 1) (setO e o.dst (.tup [])) st K

theorem regL_of_regW {W : LOp → Env → List SO → (Nat → Res → Prop) → Prop} (hW : ∀ lo e st K, W lo e st K → ∃ c r, K c r ∧ OpSound cx lo.op (getE e) st c r)
    {ops : Array Oper} {ks : List Nat} {dk : Nat} {K : Env → List SO → Prop} : ∀ (l : List Oper) (k : Nat) (e : Env) (st : List SO),
    regW W (ops.toList.map (·.dst)) ks dk (l.map lop) k e st K →
    regL cx ops (fun k => ks.getD k dk) l k (getE e) st (fun f st => ∃ e', f = getE e' ∧ K e' st)
  | [], _, e, st, h => ⟨e, rfl, h⟩
  | o :: rest, k, e, st, h => by
    have run : (W (lop o) e st fun c r => clsOk c (ks.getD k dk) = true ∧ regW W (ops.toList.map (·.dst)) ks dk (rest.map lop) (k + 1) (setO (setB e r.bu) o.dst r.v) r.st K) → GuardA ops o (getE e) true →
        regL cx ops (fun k => ks.getD k dk) (o :: rest) k (getE e) st (fun f st => ∃ e', f = getE e' ∧ K e' st) := by
      intro h1 hg
      obtain ⟨c, r, ⟨hle, h2⟩, hs⟩ := hW _ _ _ _ h1
      have h3 := regL_of_regW hW (ops := ops) rest (k + 1) _ _ h2
      rw [get_setO, get_setB] at h3
      refine ⟨_, _, ⟨true, hg, ?_⟩, h3⟩
      simp only [if_true]
      exact ⟨r, hs.x o rfl, hs.side o rfl, rfl, rfl, (hs.cls hle o rfl).1, (hs.cls hle o rfl).2⟩
    have skip : regW W (ops.toList.map (·.dst)) ks dk (rest.map lop) (k + 1) (setO e o.dst (.tup [])) st K → GuardA ops o (getE e) false →
        regL cx ops (fun k => ks.getD k dk) (o :: rest) k (getE e) st (fun f st => ∃ e', f = getE e' ∧ K e' st) := by
      intro h1 hg
      have h3 := regL_of_regW hW (ops := ops) rest (k + 1) _ _ h1
      rw [get_setO] at h3
      exact ⟨_, _, ⟨false, hg, by simp⟩, h3⟩
    simp only [List.map_cons, regW] at h
    unfold guardW at h
    simp only [onO, onV] at h
    have hlg : (lop o).guard = o.guard := rfl
    rw [hlg] at h
    cases hgd : o.guard with
    | none =>
      rw [hgd] at h
      exact run h (by unfold GuardA; rw [hgd])
    | some gw =>
      obtain ⟨i, want⟩ := gw
      rw [hgd] at h
      simp only at h
      cases hd : (ops.toList.map (·.dst))[i]? with
      | none => rw [hd] at h; exact h.elim
      | some dd =>
        rw [hd] at h
        cases dd with
        | none => exact h.elim
        | some t =>
          have hb : (ops[i]?).bind (·.dst) = some t := by
            simp only [List.getElem?_map, Array.getElem?_toList] at hd
            cases ho : ops[i]? with
            | none => rw [ho] at hd; cases hd
            | some oo => rw [ho] at hd; simp at hd; simp [hd]
          simp only at h
          split at h
          · next b hv =>
            by_cases hbw : b = want
            · refine run (h.1 hbw) ?_
              unfold GuardA
              rw [hgd]
              exact ⟨t, hb, .inl ⟨b, hv, by simp [hbw]⟩⟩
            · have hbw' : b = !want := by cases b <;> cases want <;> simp_all
              refine skip (h.2 hbw') ?_
              unfold GuardA
              rw [hgd]
              exact ⟨t, hb, .inl ⟨b, hv, by simp [hbw']⟩⟩
          · next hv =>
            refine skip h ?_
            unfold GuardA
            rw [hgd]
            exact ⟨t, hb, .inr ⟨hv, rfl⟩⟩
          · exact h.elim

/-- What is dropped ahead of a region, over an environment. -/
def cleanE (dsts : List (Option Nat)) : Env → Env
  | [] => []
  | (k, .lp _ _) :: r => (k, .undef) :: cleanE dsts r
  | (k, .box cs) :: r => if dsts.contains (some k) then (k, .undef) :: cleanE dsts r else (k, .box cs) :: cleanE dsts r
  | p :: r => p :: cleanE dsts r

theorem get_cleanE (l : List Oper) (e : Env) : getE (cleanE (l.map (·.dst)) e) = cleanF l (getE e) := by
  funext t
  induction e with
  | nil => rfl
  | cons p r ih =>
    obtain ⟨k, v⟩ := p
    have hany : (l.map (·.dst)).contains (some k) = l.any (fun o => o.dst == some k) := by
      rw [Bool.eq_iff_iff]
      simp [List.any_eq_true]
    by_cases hk : k = t
    · subst hk
      cases v <;> simp only [cleanE, getE, if_true, cleanF]
      rw [hany]
      split <;> simp [getE]
    · have hr : getE ((k, v) :: r) t = getE r t := by simp [getE, hk]
      have hc : cleanF l (getE ((k, v) :: r)) t = cleanF l (getE r) t := by unfold cleanF; rw [hr]
      rw [hc, ← ih]
      cases v <;> simp only [cleanE] <;> (try split) <;> simp [getE, hk]

theorem triL_reg {W : LOp → Env → List SO → (Nat → Res → Prop) → Prop} (hW : ∀ lo e st K, W lo e st K → ∃ c r, K c r ∧ OpSound cx lo.op (getE e) st c r)
    {id : Nat} {ops : List LOp} {K : Env → List SO → Prop}
    (h : regW W (ops.map (·.dst)) [] 2 ops 0 (cleanE (ops.map (·.dst)) e) st K) : TriX cx ks (.reg id ops false) e st (thenE K Q) := by
  intro c hl hB
  cases c <;> simp [light] at hl
  case region id' oo draw =>
    obtain ⟨rfl, hops, rfl⟩ := hl
    simp only [codeB, Bool.false_eq_true, if_false] at hB
    subst hops
    obtain ⟨l⟩ := oo
    have hd : (l.map lop).map (·.dst) = l.map (·.dst) := by rw [List.map_map]; rfl
    simp only [hd] at h
    have h1 := regL_of_regW hW (ops := l.toArray) l 0 _ st h
    have h2 : regL cx l.toArray (fun _ => 2) l 0 (cleanF l (getE e)) st (fun f st => ∃ e', f = getE e' ∧ K e' st) := by
      rw [← get_cleanE]
      simpa using h1
    refine (tri_region (Q := fun x f st => ∃ e', f = getE e' ∧ Q x e' st) hB h2).mono ?_
    rintro x f st hq
    cases x <;> exact hq

theorem triL_draw {W : LOp → Env → List SO → (Nat → Res → Prop) → Prop} (hW : ∀ lo e st K, W lo e st K → ∃ c r, K c r ∧ OpSound cx lo.op (getE e) st c r)
    (hm : cx.P.follows .mixedOrders = true) {id : Nat} {ops : List LOp} {K : Env → List SO → Prop}
    (h : regW W (ops.map (·.dst)) (ks id) 0 ops 0 (cleanE (ops.map (·.dst)) e) st K) : TriX cx ks (.reg id ops true) e st (thenE K Q) := by
  intro c hl hB
  cases c <;> simp [light] at hl
  case region id' oo draw =>
    obtain ⟨rfl, hops, rfl⟩ := hl
    simp only [codeB, if_true] at hB
    subst hops
    obtain ⟨l⟩ := oo
    have hd : (l.map lop).map (·.dst) = l.map (·.dst) := by rw [List.map_map]; rfl
    simp only [hd] at h
    have h1 := regL_of_regW hW (ops := l.toArray) l 0 _ st h
    have h2 : regL cx l.toArray (fun k => (ks id').getD k 0) l 0 (cleanF l (getE e)) st (fun f st => ∃ e', f = getE e' ∧ K e' st) := by
      rw [← get_cleanE]
      exact h1
    refine (tri_draw (Q := fun x f st => ∃ e', f = getE e' ∧ Q x e' st) (ks id') hm hB h2).mono ?_
    rintro x f st hq
    cases x <;> exact hq
end
end Go.L1
namespace Go.L1
open Go

/-! ### What the program's tables say -/
def agOf (P : Program) (t : TypeId) : Option Bool := (P.underlying t).map fun d => match d with | .struct _ | .array _ _ => true | _ => false
def szOf (P : Program) (t : TypeId) : Option Nat := (P.info? t).map (·.size)
def zvOf (P : Program) (t : TypeId) : Option (List V) := ((P.info? t).bind (·.zero)).map fun z => z.cells.toList.map constV
/-- A field's offset, where it has a cell. -/
def fOff (P : Program) (t : TypeId) (k : Nat) : Option Nat :=
  match P.underlying t with
  | some (.struct fs) => (fs[k]?).bind fun f => match szOf P f.type with
    | some (_ + 1) => some f.offset
    | _ => none
  | _ => none

theorem run_isAgg' {P : Program} {w : World} {t : TypeId} {b : Bool} (h : agOf P t = some b) : (isAgg t).run P w = .ok b w := by
  unfold agOf at h
  unfold isAgg underlying
  cases hd : P.underlying t with
  | none => rw [hd] at h; cases h
  | some d => rw [hd] at h; cases d <;> simp_all
theorem run_sizeOf' {P : Program} {w : World} {t : TypeId} {n : Nat} (h : szOf P t = some n) : (sizeOf t).run P w = .ok n w := by
  unfold szOf at h
  unfold sizeOf typeInfo
  cases hd : P.info? t with
  | none => rw [hd] at h; cases h
  | some d => rw [hd] at h; simp at h; simp [hd, h]
theorem run_zero' {P : Program} {w : World} {t : TypeId} {zs : List V} (h : zvOf P t = some zs) : ∃ z : Value, (zeroValue t).run P w = .ok z w ∧ z.cells.toList.map constV = zs := by
  unfold zvOf at h
  unfold zeroValue typeInfo
  cases hd : P.info? t with
  | none => rw [hd] at h; cases h
  | some d =>
    rw [hd] at h
    cases hz : d.zero with
    | none => simp [hz] at h
    | some z => simp [hz] at h; exact ⟨z, by simp [hd, hz], h⟩

theorem run_loadVar_agg {P : Program} {w : World} {t : TypeId} {a : Addr} {cs : List Value} (ha : agOf P t = some true) (hs : szOf P t = some cs.length)
    (hc : ∀ (j : Nat) v, cs[j]? = some v → w.cell? (a.add j) = some v) : (loadVar t a).run P w = .ok (.agg cs.toArray) w := by
  unfold loadVar
  simp [run_isAgg' ha, run_sizeOf' hs, run_loadCells_list w a cs hc]
theorem run_loadVar_one {P : Program} {w : World} {t : TypeId} {a : Addr} {v : Value} (ha : agOf P t = some false) (hc : w.cell? a = some v) :
    (loadVar t a).run P w = .ok v w := by
  unfold loadVar
  simp [run_isAgg' ha, hc]

/-- One cell, known to be one. -/
def okCell : V → Bool
  | .c _ => true
  | .ptr _ _ => true
  | .ep _ _ => true
  | .own _ _ => true
  | .mref _ => true
  | .clo _ _ => true
  | .gp _ => true
  | _ => false
def okCells (cs : List V) : Bool := cs.all okCell

theorem RelV.one {γ : Gh} {w : World} {v : V} {x : Value} (h : RelV γ w v x) (ho : okCell v = true) : x.oneCell' = true := by
  cases h <;> first | rfl | assumption | (simp [okCell] at ho; done) | skip
  case c h => exact h.one
theorem relRow_of {γ : Gh} {w : World} {cs : List V} {vs : Array Value} (hl : vs.size = cs.length) (ho : okCells cs = true)
    (h : ∀ (i : Nat) v x, cs[i]? = some v → vs[i]? = some x → RelV γ w v x) : RelRow γ w cs vs :=
  ⟨hl, fun i v x hi hx => ⟨h i v x hi hx, (h i v x hi hx).one (List.all_eq_true.1 ho v (List.mem_of_getElem? hi))⟩⟩

/-- The cells of a value. -/
def cellsV : V → Option (List V)
  | .agg cs => some cs
  | .c x => some [.c x]
  | .ptr i o => some [.ptr i o]
  | .ep c o => some [.ep c o]
  | .own i e => some [.own i e]
  | .mref i => some [.mref i]
  | .clo f c => some [.clo f c]
  | .gp g => some [.gp g]
  | _ => none

theorem one_cells {x : Value} (h : x.oneCell' = true) : x.cells = #[x] := by cases x <;> first | rfl | cases h

theorem relRow_cells {γ : Gh} {w : World} {v : V} {x : Value} {cs : List V} (h : RelV γ w v x) (hc : cellsV v = some cs) (ho : okCells cs = true) : RelRow γ w cs x.cells := by
  have single : ∀ u, cellsV v = some [u] → v = u → okCell u = true → RelRow γ w cs x.cells := by
    intro u h1 h2 h3
    rw [h1] at hc
    injection hc with hc
    subst hc h2
    have h1 : x.cells = #[x] := one_cells (h.one h3)
    rw [h1]
    refine relRow_of rfl ho fun i a b hi hb => ?_
    cases i with
    | zero => simp at hi hb; subst hi hb; exact h
    | succ n => simp at hi
  cases v with
  | agg l =>
    simp [cellsV] at hc
    subst hc
    cases h with
    | agg _ vs hl hh => exact relRow_of hl ho hh
  | c y => exact single _ rfl rfl rfl
  | ptr i o => exact single _ rfl rfl rfl
  | ep c o => exact single _ rfl rfl rfl
  | own i e => exact single _ rfl rfl rfl
  | mref i => exact single _ rfl rfl rfl
  | clo f c => exact single _ rfl rfl rfl
  | gp g => exact single _ rfl rfl rfl
  | _ => simp [cellsV] at hc

/-! ### Operands -/
def RelQ (γ : Gh) (w : World) (gb : Nat → Nat) : V → Value → Prop
  | .box _, _ => False
  | .lp d off, x => x = .pointer (some ⟨gb d, off, none⟩)
  | v, x => RelV γ w v x

theorem RelQ.plain {γ : Gh} {w : World} {gb : Nat → Nat} {v : V} {x : Value} (h : RelQ γ w gb v x) (hp : plainV v = true) : RelV γ w v x := by
  cases v <;> first | exact h | (simp [plainV] at hp)
theorem RelV.toQ {γ : Gh} {w : World} {gb : Nat → Nat} {v : V} {x : Value} (h : RelV γ w v x) : RelQ γ w gb v x := by
  cases v <;> first | exact h | cases h

section
variable {cx : Cx} {f : Fenv} {st : List SO}

theorem opnd_rel {γ : Gh} {w : World} {gb : Nat → Nat} {ev : Operand → Value} {xs : Array Operand} (h : EvOk γ w gb f ev xs) {x : Operand} (hx : x ∈ xs) :
    RelQ γ w gb (opnd f x) (ev x) := by
  have h1 := h x hx
  cases x with
  | tmp t =>
    simp only [opnd]
    cases hf : f t with
    | box cs => simp only [hf, RelP] at h1; exact h1
    | lp d off => simp only [hf, RelP] at h1; exact h1
    | _ => simp only [hf, RelP] at h1; exact h1
  | const v => simp only at h1; rw [h1]; exact (relV_constV v).toQ
  | global g => simp only at h1; rw [h1]; exact RelV.gp g
  | func g => simp only at h1; rw [h1]; exact RelV.c _ _ (.fn g)

theorem opnd_plain {γ : Gh} {w : World} {gb : Nat → Nat} {ev : Operand → Value} {xs : Array Operand} (h : EvOk γ w gb f ev xs) {x : Operand} (hx : x ∈ xs) {v : V}
    (hv : opnd f x = v) (hp : plainV v = true) : RelV γ w v (ev x) := by
  have := opnd_rel h hx
  rw [hv] at this
  exact this.plain hp

/-- Is there a box at the slot? -/
def isBoxAt (f : Fenv) (d : Nat) : Prop := ∃ cs, f d = .box cs

theorem comes_of_opnd {o : Oper} {x : Operand} {d off : Nat} (hx : x ∈ o.op.operands) (hv : opnd f x = .lp d off) (hb : isBoxAt f d) : Comes' o f d := by
  refine ⟨hb, ?_⟩
  cases x with
  | tmp t =>
    simp only [opnd] at hv
    cases hf : f t with
    | box cs =>
      rw [hf] at hv
      simp only [slotV, V.lp.injEq] at hv
      exact .inr (by rw [← hv.1]; exact hx)
    | lp d' off' =>
      rw [hf] at hv
      simp only [slotV, V.lp.injEq] at hv
      exact .inl ⟨t, off', hx, by rw [hf, hv.1]⟩
    | _ => rw [hf] at hv; simp [slotV] at hv
  | const v => simp only [opnd] at hv; unfold constV at hv; split at hv <;> (try split at hv) <;> cases hv
  | global g => simp [opnd] at hv
  | func g => simp [opnd] at hv

theorem out_same {γ : Gh} {w : World} {gb : Nat → Nat} {v : V} {x : Value} (hr : RelW γ st w) (hv : RelQ γ w gb v x) : Out γ w gb ⟨v, none, st⟩ x w := by
  refine ⟨γ, ⟨rfl, rfl, rfl, rfl, Nat.le_refl _, fun _ _ _ _ => rfl, fun _ h => h, fun _ h _ => .inl h, fun _ h _ => h, .refl _ _⟩, hr, ?_, by simp⟩
  cases v <;> first | exact hv | exact hv.elim

/-- An operation that computes, looks and turns nothing. -/
theorem sound_val {op : Op} {v : V} (h : ∀ o : Oper, o.op = op → ∀ st γ w gb ev, RelW γ st w → cx.G γ.base → EvOk γ w gb f ev op.operands → ContOk γ w gb f op →
      ∃ x, (execOp ev o).run cx.P w = .ok (.value x) w ∧ RelQ γ w gb v x)
    (hside : ∀ o : Oper, o.op = op → ∀ d off, v = .lp d off → Comes' o f d) : OpSound cx op f st 0 ⟨v, none, st⟩ := by
  have key : ∀ o : Oper, o.op = op → ∀ s, OpX cx o f s ⟨v, none, s⟩ := by
    intro o ho s γ w gb ev h1 h2 h3 h4
    obtain ⟨x, hx, hv⟩ := h o ho s γ w gb ev h1 h2 (ho ▸ h3) (ho ▸ h4)
    rw [hx]
    exact out_same h1 hv
  exact ⟨fun o ho => key o ho st, fun o ho => ⟨hside o ho, by simp⟩, fun _ o ho s => key o ho s, fun _ => ⟨rfl, rfl⟩, by omega, by omega⟩

/-- As sound_val, the value no pointer to a box. -/
theorem sound_plain {op : Op} {v : V} (hp : plainV v = true) (h : ∀ o : Oper, o.op = op → ∀ st γ w gb ev, RelW γ st w → cx.G γ.base → EvOk γ w gb f ev op.operands → ContOk γ w gb f op →
      ∃ x, (execOp ev o).run cx.P w = .ok (.value x) w ∧ RelV γ w v x) : OpSound cx op f st 0 ⟨v, none, st⟩ :=
  sound_val (fun o ho st γ w gb ev a b c d => let ⟨x, h1, h2⟩ := h o ho st γ w gb ev a b c d; ⟨x, h1, h2.toQ⟩) (fun o _ d off hv => by rw [hv] at hp; simp [plainV] at hp)

/-- An operation that looks into the store and turns nothing. -/
theorem sound_read {op : Op} {v : V} (hp : plainV v = true) (h : ∀ o : Oper, o.op = op → ∀ γ w gb ev, RelW γ st w → cx.G γ.base → EvOk γ w gb f ev op.operands → ContOk γ w gb f op →
      ∃ x, (execOp ev o).run cx.P w = .ok (.value x) w ∧ RelV γ w v x) : OpSound cx op f st 1 ⟨v, none, st⟩ :=
  ⟨fun o ho γ w gb ev h1 h2 h3 h4 => by
    obtain ⟨x, hx, hv⟩ := h o ho γ w gb ev h1 h2 (ho ▸ h3) (ho ▸ h4)
    rw [hx]
    exact out_same h1 hv.toQ, fun o _ => ⟨fun d off hv => by simp only at hv; rw [hv] at hp; simp [plainV] at hp, by simp⟩, by omega, fun _ => ⟨rfl, rfl⟩, by omega, by omega⟩

def liveV (f : Fenv) (v : V) : Prop := match v with
  | .lp d _ => isBoxAt f d
  | _ => True

theorem s_move {x : Operand} (hl : liveV f (opnd f x)) : OpSound cx (.move x) f st 0 ⟨opnd f x, none, st⟩ :=
  sound_val (fun o ho st γ w gb ev _ _ h3 _ => ⟨ev x, by simp [execOp, ho], opnd_rel h3 (by simp [Op.operands])⟩)
    (fun o ho d off hv => comes_of_opnd (by rw [ho]; simp [Op.operands]) hv (by rw [hv] at hl; exact hl))
theorem s_assign {x : Operand} (hl : liveV f (opnd f x)) : OpSound cx (.assign x) f st 0 ⟨opnd f x, none, st⟩ :=
  sound_val (fun o ho st γ w gb ev _ _ h3 _ => ⟨ev x, by simp [execOp, ho], opnd_rel h3 (by simp [Op.operands])⟩)
    (fun o ho d off hv => comes_of_opnd (by rw [ho]; simp [Op.operands]) hv (by rw [hv] at hl; exact hl))

theorem rel_bool {γ : Gh} {w : World} {b : Bool} {x : Value} (h : RelV γ w (.c (.bool b)) x) : x = .bool b := by cases h with | c _ _ h => cases h; rfl
theorem rel_int {γ : Gh} {w : World} {k : IntKind} {n : Int} {x : Value} (h : RelV γ w (.c (.int k n)) x) : x = .int k n := by cases h with | c _ _ h => cases h; rfl
theorem rel_str {γ : Gh} {w : World} {l : List UInt8} {x : Value} (h : RelV γ w (.c (.str l)) x) : ∃ s : ByteArray, x = .string s ∧ s.data.toList = l ∧ s.size ≤ maxLen := by
  cases h with | c _ _ h => cases h with | str s h => exact ⟨s, rfl, rfl, h⟩

theorem s_pick {c a b : Operand} {g : Bool} (hc : opnd f c = .c (.bool g)) (ha : g = true → plainV (opnd f a) = true) (hb : g = false → plainV (opnd f b) = true) :
    OpSound cx (.pick c a b) f st 0 ⟨if g then opnd f a else opnd f b, none, st⟩ := by
  refine sound_plain (by cases g <;> simp_all) fun o ho st γ w gb ev _ _ h3 _ => ?_
  have h1 := rel_bool (opnd_plain h3 (by simp [Op.operands]) hc rfl)
  cases g with
  | true =>
    have ha' := ha rfl
    exact ⟨ev a, by simp [execOp, ho, h1, asBool], by simpa using opnd_plain h3 (x := a) (by simp [Op.operands]) rfl ha'⟩
  | false =>
    have hb' := hb rfl
    exact ⟨ev b, by simp [execOp, ho, h1, asBool], by simpa using opnd_plain h3 (x := b) (by simp [Op.operands]) rfl hb'⟩

/-- A new block, at nobody's. -/
theorem out_alloc {γ : Gh} {w : World} {gb : Nat → Nat} {cs : List V} {vs : Array Value} {T : TypeId} (hr : RelW γ st w) (hrow : RelRow γ w cs vs) :
    Out γ w gb ⟨.box cs, none, st⟩ (.pointer (some ⟨w.heap.size, 0, none⟩)) (w.alloc (.cells vs T)) := by
  have hw : ∀ b, b < w.heap.size → (w.alloc (.cells vs T)).heap[b]? = w.heap[b]? := fun b hb => heap_alloc_old w _ b hb
  have hpk : ∀ b, γ.pers b → (w.alloc (.cells vs T)).heap[b]? = w.heap[b]? := fun b hb => hw b (hr.plt b hb)
  refine ⟨γ, ⟨rfl, rfl, rfl, rfl, by simp, fun b hb _ _ => hw b hb, fun _ h => h, fun _ h _ => .inl h, fun _ h _ => h, .refl _ _⟩, ?_, ?_, by simp⟩
  · exact hr.frame (by simp) hw
  · refine ⟨w.heap.size, rfl, Nat.le_refl _, by simp, fun h => absurd (hr.plt _ h) (by omega), fun h => absurd (hr.olt _ h) (by omega), by simp, vs, T, ?_, ?_⟩
    · exact heap_alloc_at w _
    · exact hrow.mono (fun _ h => h) hpk (.refl _ _)
end
end Go.L1
