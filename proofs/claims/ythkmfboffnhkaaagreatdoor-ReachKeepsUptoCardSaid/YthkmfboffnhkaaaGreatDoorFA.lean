/-
  The frame: what an argument's reading says, as cells.
  The frame: chains and texts out of readings.
  The frame: from a contract to the specification.
  The frame: chains and texts out of the readings of arguments.
  The frame: a chain out of the reading of an argument; strings with their bounds.
  The frame: a world for the witness.
-/
import Derived.Test.YthkmfboffnhkaaaGreatDoorM2
import Derived.Test.YthkmfboffnhkaaaGreatDoorRows
import Derived.ChangeArms
import Derived.ChangeStays
import Derived.Test.YthkmfboffnhkaaaGreatDoorWD
import Derived.OpenShut
import Derived.Test.YthkmfboffnhkaaaGreatDoorCards
import Derived.Test.YthkmfboffnhkaaaGreatDoorTie
import Derived.WalkKit
import Derived.ProofKit
import Derived.Deep.DeepHandedRow
import Derived.Test.YthkmfboffnhkaaaGreatDoorWF
import Derived.Test.YthkmfboffnhkaaaGreatDoorWI
import Derived.Lay
import Derived.LaidMore
import Derived.Deep.DeepWitnessRowRef
set_option linter.all false
namespace Go.Proofs.YthkmfboffnhkaaaGreatDoor
open Go Go.L1
set_option maxRecDepth 100000

/-- Plain types: no pointer, no map, no interface. -/
inductive PT where
  | b
  | i (k : IntKind)
  | s
  | sl (e : PT)
  | st (fs : List PT)

/-- Cells of a plain type; every string and every slice is of length at most B. -/
inductive Fit (B : Nat) : PT → List C → Prop
  | b (x : Bool) : Fit B .b [.bool x]
  | i (k : IntKind) (n : Int) (h : (Lit.int k n).wf = true) : Fit B (.i k) [.int k n]
  | s (l : List UInt8) (h : l.length ≤ B) : Fit B .s [.str l]
  | sl (e : PT) (xs : List (List C)) (h : xs.length ≤ B) (hx : ∀ x ∈ xs, Fit B e x) : Fit B (.sl e) [.sl xs]
  | nil : Fit B (.st []) []
  | cons (f : PT) (fs : List PT) (x y : List C) (hx : Fit B f x) (hy : Fit B (.st fs) y) : Fit B (.st (f :: fs)) (x ++ y)

mutual
def ptOf (P : Program) : Nat → TypeId → Option PT
  | 0, _ => none
  | n + 1, t => match P.underlying t with
    | some .bool => some .b
    | some (.int k) => some (.i k)
    | some .string => some .s
    | some (.slice e) => if 0 < P.cellsOf e then (ptOf P n e).map .sl else none
    | some (.struct fs) => (ptsOf P n fs.toList).map .st
    | _ => none
def ptsOf (P : Program) : Nat → List Field → Option (List PT)
  | _, [] => some []
  | 0, _ :: _ => none
  | n + 1, f :: fs => match ptOf P n f.type, ptsOf P n fs with
    | some x, some y => some (x :: y)
    | _, _ => none
end

section
variable {H : Type} {enc : TypeId × Value → H} {P : Program} {W : World} {spare : Nat → Bool} {held : Bool} {B : Nat}

theorem bulk_part {d : DataW H} : ∀ {l : List (DataW H)}, d ∈ l → Rows.uptoBulk d ≤ Rows.uptoBulkAll l
  | x :: r, h => by
    simp only [Rows.uptoBulkAll]
    rcases List.mem_cons.1 h with h | h
    · subst h; omega
    · have := bulk_part h; omega
theorem bulk_one (d : DataW H) : 1 ≤ Rows.uptoBulk d := by
  cases d with
  | lit l => cases l <;> simp [Rows.uptoBulk]
  | nil => simp [Rows.uptoBulk]
  | ptr d => simp [Rows.uptoBulk]
  | slice elems spare => simp [Rows.uptoBulk]
  | agg parts => simp [Rows.uptoBulk]
  | iface t d => simp [Rows.uptoBulk]
  | map entries => simp [Rows.uptoBulk]
  | held h => simp [Rows.uptoBulk]
theorem bulk_len : ∀ (l : List (DataW H)), l.length ≤ Rows.uptoBulkAll l
  | [] => by simp
  | x :: r => by have := bulk_one x; have := bulk_len r; simp only [Rows.uptoBulkAll, List.length_cons]; omega

/-- The cells that a reading's relation binds. -/
def Reads (W : World) (xs : List C) (cs : List Value) : Prop := xs.length = cs.length ∧ ∀ (i : Nat) c v, xs[i]? = some c → cs[i]? = some v → RelC (fun b => b < W.heap.size) W c v

theorem trod_fit (K : Kids P (· < P.types.size)) : ∀ (n fuel : Nat) (t : TypeId) (T : PT) (cs : List Value) (x : DataW H × List MemPlace), t < P.types.size → ptOf P n t = some T →
    DataW.trod enc P W 0 spare held fuel t cs = some x → Rows.uptoBulk x.1 ≤ B → ∃ xs, Fit B T xs ∧ Reads W xs cs := by
  intro n
  induction n using Nat.strongRecOn with
  | _ n ih =>
  intro fuel t T cs x ht hT h hB
  cases n with
  | zero => simp [ptOf] at hT
  | succ n =>
  unfold ptOf at hT
  split at hT
  · next hu =>
    injection hT with hT; subst hT
    obtain ⟨b, rfl, rfl⟩ := DataW.trod_bool hu h
    refine ⟨[.bool b], .b b, rfl, fun i c v hc hv => ?_⟩
    cases i with
    | zero => simp at hc hv; subst hc hv; exact .bool b
    | succ i => simp at hc
  · next k hu =>
    injection hT with hT; subst hT
    obtain ⟨m, rfl, rfl, hwf⟩ := DataW.trod_int hu h
    refine ⟨[.int k m], .i k m hwf, rfl, fun i c v hc hv => ?_⟩
    cases i with
    | zero => simp at hc hv; subst hc hv; exact .int k m
    | succ i => simp at hc
  · next hu =>
    injection hT with hT; subst hT
    obtain ⟨s, rfl, rfl, hs⟩ := DataW.trod_string hu h
    simp [Rows.uptoBulk] at hB
    refine ⟨[.str s.data.toList], .s _ (by simp; omega), rfl, fun i c v hc hv => ?_⟩
    cases i with
    | zero => simp at hc hv; subst hc hv; exact .str s hs
    | succ i => simp at hc
  · next e hu =>
    split at hT
    case isFalse => cases hT
    next hpos =>
    obtain ⟨E, hE, rfl⟩ := Option.map_eq_some_iff.1 hT
    rcases DataW.trod_slice hu h with ⟨rfl, rfl⟩ | ⟨a, len, cap, elems, rest, fuel', rfl, rfl, rfl, _, hlc, hcm, hel, hget, _⟩
    · refine ⟨[.sl []], .sl _ [] (by simp) (by simp), rfl, fun i c v hc hv => ?_⟩
      cases i with
      | zero => simp at hc hv; subst hc hv; exact .nilsl
      | succ i => simp at hc
    · simp only [Rows.uptoBulk] at hB
      have hlen : elems.length ≤ B := by have := bulk_len (elems.map (·.1)); simp at this; omega
      have hone : ∀ i, i < len → ∃ xs cs', Fit B E xs ∧ Reads W xs cs' ∧ W.cells? 0 (a.add (i * P.cellsOf e)) (P.cellsOf e) = some cs' := by
        intro i hi
        have h1 := hget i hi
        rw [List.getElem?_eq_getElem (by omega)] at h1
        obtain ⟨cs', h2, h3⟩ := Option.bind_eq_some_iff.1 h1
        have hb : Rows.uptoBulk (elems[i]'(by omega)).1 ≤ B := by
          have : (elems[i]'(by omega)).1 ∈ elems.map (·.1) := List.mem_map.2 ⟨_, List.getElem_mem _, rfl⟩
          have := bulk_part this
          omega
        obtain ⟨xs, h4, h5⟩ := ih n (by omega) _ e E cs' _ (K.slice ht hu) hE h3 hb
        exact ⟨xs, cs', h4, h5, h2⟩
      have hall : ∀ m, m ≤ len → ∃ X : List (List C), X.length = m ∧ (∀ x ∈ X, Fit B E x) ∧ ∀ i xs, X[i]? = some xs → ∃ cs', Reads W xs cs' ∧ W.cells? 0 (a.add (i * P.cellsOf e)) (P.cellsOf e) = some cs' := by
        intro m
        induction m with
        | zero => intro _; exact ⟨[], rfl, by simp, by simp⟩
        | succ m ihm =>
          intro hm
          obtain ⟨X, k1, k2, k3⟩ := ihm (by omega)
          obtain ⟨xs, cs', k4, k5, k6⟩ := hone m (by omega)
          refine ⟨X ++ [xs], by simp [k1], fun x hx => ?_, fun i ys hi => ?_⟩
          · rcases List.mem_append.1 hx with hx | hx
            · exact k2 x hx
            · simp at hx; subst hx; exact k4
          · rcases Nat.lt_or_ge i X.length with hl | hl
            · rw [List.getElem?_append_left hl] at hi; exact k3 i ys hi
            · rw [List.getElem?_append_right hl] at hi
              have : i - X.length = 0 := by have := (List.getElem?_eq_some_iff.1 hi).1; simp at this; omega
              rw [this] at hi
              simp at hi
              subst hi
              rw [show i = m by omega]
              exact ⟨cs', k5, k6⟩
      obtain ⟨X, k1, k2, k3⟩ := hall len (Nat.le_refl _)
      refine ⟨[.sl X], .sl E X (by omega) k2, rfl, fun i c v hc hv => ?_⟩
      cases i with
      | succ i => simp at hc
      | zero =>
      simp at hc hv
      subst hc hv
      have hcell : ∀ (i : Nat) x (j : Nat) c, X[i]? = some x → x[j]? = some c → ∃ v, W.cell? (a.add (i * P.cellsOf e + j)) = some v ∧ RelC (fun b => b < W.heap.size) W c v := by
        intro i x j c hi hj
        obtain ⟨cs', h1, h2⟩ := k3 i x hi
        obtain ⟨_, h3, h4⟩ := World.cells?_some h2
        have hjl := (List.getElem?_eq_some_iff.1 hj).1
        have h5 := h4 j (by rw [← h3, ← h1.1]; exact hjl)
        rw [add_add, List.getElem?_eq_getElem (by rw [← h1.1]; exact hjl)] at h5
        exact ⟨_, h5, h1.2 j c _ hj (List.getElem?_eq_getElem (by rw [← h1.1]; exact hjl))⟩
      have hne : X ≠ [] → ∃ v, W.cell? a = some v := by
        intro hX
        have h0 : 0 < X.length := List.length_pos_iff.2 hX
        obtain ⟨cs', h1, h2⟩ := k3 0 X[0] (List.getElem?_eq_getElem h0)
        obtain ⟨_, h3, h4⟩ := World.cells?_some h2
        have h5 := h4 0 hpos
        rw [List.getElem?_eq_getElem (by rw [h3]; exact hpos), add_add] at h5
        exact ⟨_, by simpa [Addr.add] using h5⟩
      refine .sl X (P.cellsOf e) a len cap (fun i j => (W.cell? (a.add (i * P.cellsOf e + j))).getD undef) (fun hX => ?_) (fun hX => ?_) k1 hlc hcm (fun i x hi => ?_) (fun i x j c hi hj => ?_) (fun i x j c hi hj => ?_)
      · obtain ⟨v, hv⟩ := hne hX
        unfold World.cell? at hv
        split at hv
        · next hh => exact (Array.getElem?_eq_some_iff.1 hh).1
        · cases hv
      · obtain ⟨v, hv⟩ := hne hX
        unfold World.cell? at hv
        split at hv
        · split at hv
          · cases hv
          · next hs => simpa using hs
        · cases hv
      · obtain ⟨cs', h1, h2⟩ := k3 i x hi
        rw [h1.1, (World.cells?_some h2).2.1]
      · obtain ⟨v, h1, _⟩ := hcell i x j c hi hj
        simp [h1]
      · obtain ⟨v, h1, h2⟩ := hcell i x j c hi hj
        simpa [h1] using h2
  · next fs hu =>
    obtain ⟨Ts, hTs, rfl⟩ := Option.map_eq_some_iff.1 hT
    obtain ⟨xs, fuel', rfl, rfl, hl, hlen, hf⟩ := DataW.trod_struct hu h
    obtain ⟨kt, ks, ko⟩ := K.struct ht hu
    simp only [Rows.uptoBulk] at hB
    have key : ∀ (m : Nat) (fl : List Field) (Ts : List PT) (ys : List (DataW H × List MemPlace)) (o : Nat), m ≤ n → ptsOf P m fl = some Ts → (∀ f ∈ fl, f.type < P.types.size) →
        (∀ y ∈ ys, Rows.uptoBulk y.1 ≤ B) → ys.length = fl.length → o + (fl.map fun f => P.cellsOf f.type).sum = cs.length →
        (∀ (j : Nat) f, fl[j]? = some f → f.offset = o + ((fl.take j).map fun f => P.cellsOf f.type).sum ∧ DataW.trod enc P W 0 spare held fuel' f.type ((cs.drop f.offset).take (P.cellsOf f.type)) = ys[j]?) →
        ∃ X, Fit B (.st Ts) X ∧ Reads W X (cs.drop o) := by
      intro m
      induction m with
      | zero =>
        intro fl Ts ys o _ hT _ _ _ ho _
        cases fl with
        | cons f fl => simp [ptsOf] at hT
        | nil =>
          simp [ptsOf] at hT
          subst hT
          simp at ho
          exact ⟨[], .nil, by simp; omega, by simp⟩
      | succ m ihm =>
        intro fl Ts ys o hm hT hk hb hyl ho hj
        cases fl with
        | nil =>
          simp [ptsOf] at hT
          subst hT
          simp at ho
          exact ⟨[], .nil, by simp; omega, by simp⟩
        | cons f fl =>
          simp only [ptsOf] at hT
          split at hT
          case h_2 => cases hT
          next T1 T2 hT1 hT2 =>
          injection hT with hT
          subst hT
          cases ys with
          | nil => simp at hyl
          | cons y ys =>
          obtain ⟨ho1, htr⟩ := hj 0 f rfl
          simp at ho1
          simp only [List.getElem?_cons_zero, ho1] at htr
          simp only [List.map_cons, List.sum_cons] at ho
          obtain ⟨X1, hX1, hR1⟩ := ih m (by omega) fuel' f.type T1 _ y (hk f (List.mem_cons_self ..)) hT1 htr (hb y (List.mem_cons_self ..))
          obtain ⟨X2, hX2, hR2⟩ := ihm fl T2 ys (o + P.cellsOf f.type) (by omega) hT2 (fun f' hf' => hk f' (List.mem_cons_of_mem _ hf')) (fun y' hy' => hb y' (List.mem_cons_of_mem _ hy')) (by simpa using hyl) (by omega) (fun j f' hf' => by
            obtain ⟨q1, q2⟩ := hj (j + 1) f' (by simpa using hf')
            simp only [List.take_succ_cons, List.map_cons, List.sum_cons, List.getElem?_cons_succ] at q1 q2
            exact ⟨by omega, q2⟩)
          have hl1 : X1.length = P.cellsOf f.type := by rw [hR1.1]; simp; omega
          refine ⟨X1 ++ X2, .cons T1 T2 X1 X2 hX1 hX2, ?_, fun i c v hc hv => ?_⟩
          · have := hR2.1
            simp at this ⊢; omega
          · rcases Nat.lt_or_ge i X1.length with hi | hi
            · rw [List.getElem?_append_left hi] at hc
              refine hR1.2 i c v hc ?_
              rw [List.getElem?_take_of_lt (by omega)]
              exact hv
            · rw [List.getElem?_append_right hi] at hc
              refine hR2.2 (i - X1.length) c v hc ?_
              simp only [List.getElem?_drop] at hv ⊢
              rw [show o + P.cellsOf f.type + (i - X1.length) = o + i by omega]
              exact hv
    obtain ⟨X, h1, h2⟩ := key n fs.toList Ts xs 0 (Nat.le_refl _) hTs kt (fun y hy => by
        have := bulk_part (l := xs.map (·.1)) (List.mem_map.2 ⟨y, hy, rfl⟩)
        omega) (by simpa using hlen) (by rw [hl, ks]; simp) (fun j f hj => ⟨by rw [ko j f hj]; simp, hf j f (by simpa using hj)⟩)
    exact ⟨X, h1, by simpa using h2⟩
  · cases hT
end
end Go.Proofs.YthkmfboffnhkaaaGreatDoor
namespace Go.Proofs.YthkmfboffnhkaaaGreatDoor
open Go Go.L1
set_option maxRecDepth 100000
set_option maxHeartbeats 4000000

def boxT : PT := .st [.s, .s, .s]
def wrapT : PT := .st [.i .i64, .i .i64, boxT]
def actT : PT := .st [.s, .i .i64, .s, .i .i64, .i .i64, .s, .s, .i .i64, .s, .sl .s, .s, boxT, .i .i64, .sl wrapT, .i .i64, .i .i64, .st [.i .i64, .i .i64]]
def keyT : PT := .st [.i .i64, .i .i64, .i .i64]
def chainT : PT := .st [.s, .sl actT, .sl keyT, .s, .i .i64, .b]
theorem pt22 : ptOf Tryz.prog 60 22 = some (.sl chainT) := by kernel_rfl
theorem pt23 : ptOf Tryz.prog 60 23 = some (.sl .s) := by kernel_rfl
theorem pt3 : ptOf Tryz.prog 60 3 = some (.i .i64) := by kernel_rfl

section
variable {B : Nat}
theorem fit_b {cs : List C} (h : Fit B .b cs) : ∃ x, cs = [.bool x] := by cases h with | b x => exact ⟨x, rfl⟩
theorem fit_i {k : IntKind} {cs : List C} (h : Fit B (.i k) cs) : ∃ n, cs = [.int k n] ∧ (Lit.int k n).wf = true := by cases h with | i k n h => exact ⟨n, rfl, h⟩
theorem fit_s {cs : List C} (h : Fit B .s cs) : ∃ l, cs = [.str l] ∧ l.length ≤ B := by cases h with | s l h => exact ⟨l, rfl, h⟩
theorem fit_sl {e : PT} {cs : List C} (h : Fit B (.sl e) cs) : ∃ xs, cs = [.sl xs] ∧ xs.length ≤ B ∧ ∀ x ∈ xs, Fit B e x := by cases h with | sl e xs h hx => exact ⟨xs, rfl, h, hx⟩
theorem fit_nil {cs : List C} (h : Fit B (.st []) cs) : cs = [] := by cases h; rfl
theorem fit_cons {f : PT} {fs : List PT} {cs : List C} (h : Fit B (.st (f :: fs)) cs) : ∃ x y, cs = x ++ y ∧ Fit B f x ∧ Fit B (.st fs) y := by
  cases h with | cons f fs x y hx hy => exact ⟨x, y, rfl, hx, hy⟩
theorem fit_list {α : Type} {e : PT} {g : α → List C} {Q : α → Prop} (h : ∀ x, Fit B e x → ∃ a, x = g a ∧ Q a) : ∀ xs : List (List C), (∀ x ∈ xs, Fit B e x) → ∃ ls : List α, xs = ls.map g ∧ ∀ a ∈ ls, Q a
  | [], _ => ⟨[], rfl, by simp⟩
  | x :: r, hx => by
    obtain ⟨a, h1, h2⟩ := h x (hx x (List.mem_cons_self ..))
    obtain ⟨ls, h3, h4⟩ := fit_list h r fun y hy => hx y (List.mem_cons_of_mem _ hy)
    exact ⟨a :: ls, by simp [h1, h3], fun b hb => by
      rcases List.mem_cons.1 hb with rfl | hb
      · exact h2
      · exact h4 b hb⟩
theorem fit_box {cs : List C} (h : Fit B boxT cs) : ∃ b : Box, cs = [.str b.nonce, .str b.data, .str b.tag] ∧ b.nonce.length ≤ B ∧ b.data.length ≤ B ∧ b.tag.length ≤ B := by
  obtain ⟨_, _, rfl, h0, h⟩ := fit_cons h
  obtain ⟨_, _, rfl, h1, h⟩ := fit_cons h
  obtain ⟨_, _, rfl, h2, h⟩ := fit_cons h
  obtain rfl := fit_nil h
  obtain ⟨a, rfl, k0⟩ := fit_s h0
  obtain ⟨b, rfl, k1⟩ := fit_s h1
  obtain ⟨c, rfl, k2⟩ := fit_s h2
  exact ⟨⟨a, b, c⟩, rfl, k0, k1, k2⟩
theorem fit_texts {cs : List C} (h : Fit B (.sl .s) cs) : ∃ l : List (List UInt8), cs = [texts l] ∧ l.length ≤ B ∧ ∀ s ∈ l, s.length ≤ B := by
  obtain ⟨xs, rfl, h1, h2⟩ := fit_sl h
  obtain ⟨ls, rfl, h3⟩ := fit_list (g := fun s : List UInt8 => [C.str s]) (Q := fun s => s.length ≤ B) (fun x hx => fit_s hx) xs h2
  exact ⟨ls, rfl, by simpa using h1, h3⟩
end
theorem wf64 {n : Int} (h : (Lit.int .i64 n).wf = true) : n ≤ 9223372036854775807 := (bounds_i64 h).2
theorem fit_wrap {cs : List C} (h : Fit tooBig wrapT cs) : ∃ w : Wrap, cs = w.cells ∧ (w.box.Fits ∧ w.to ≤ 9223372036854775807 ∧ w.eph ≤ 9223372036854775807) := by
  obtain ⟨_, _, rfl, h0, h⟩ := fit_cons h
  obtain ⟨_, _, rfl, h1, h⟩ := fit_cons h
  obtain ⟨_, _, rfl, h2, h⟩ := fit_cons h
  obtain rfl := fit_nil h
  obtain ⟨a, rfl, k0⟩ := fit_i h0
  obtain ⟨b, rfl, k1⟩ := fit_i h1
  obtain ⟨c, rfl, k2, k3, k4⟩ := fit_box h2
  exact ⟨⟨a, b, c⟩, rfl, ⟨k2, k3, k4⟩, wf64 k0, wf64 k1⟩
theorem sumL_le (l : List (List UInt8)) (h : ∀ s ∈ l, s.length ≤ tooBig) : sumL l ≤ tooBig * l.length := by
  induction l with
  | nil => simp [sumL]
  | cons x r ih =>
    have h1 := ih fun s hs => h s (List.mem_cons_of_mem _ hs)
    have h2 := h x (List.mem_cons_self ..)
    simp [sumL, Nat.mul_add] at *
    omega
theorem fit_act {cs : List C} (h : Fit tooBig actT cs) : ∃ a : Act, cs = a.cells ∧ (a.to.length ≤ 8 → a.Fits) := by
  obtain ⟨_, _, rfl, h0, h⟩ := fit_cons h
  obtain ⟨_, _, rfl, h1, h⟩ := fit_cons h
  obtain ⟨_, _, rfl, h2, h⟩ := fit_cons h
  obtain ⟨_, _, rfl, h3, h⟩ := fit_cons h
  obtain ⟨_, _, rfl, h4, h⟩ := fit_cons h
  obtain ⟨_, _, rfl, h5, h⟩ := fit_cons h
  obtain ⟨_, _, rfl, h6, h⟩ := fit_cons h
  obtain ⟨_, _, rfl, h7, h⟩ := fit_cons h
  obtain ⟨_, _, rfl, h8, h⟩ := fit_cons h
  obtain ⟨_, _, rfl, h9, h⟩ := fit_cons h
  obtain ⟨_, _, rfl, h10, h⟩ := fit_cons h
  obtain ⟨_, _, rfl, h11, h⟩ := fit_cons h
  obtain ⟨_, _, rfl, h12, h⟩ := fit_cons h
  obtain ⟨_, _, rfl, h13, h⟩ := fit_cons h
  obtain ⟨_, _, rfl, h14, h⟩ := fit_cons h
  obtain ⟨_, _, rfl, h15, h⟩ := fit_cons h
  obtain ⟨_, _, rfl, h16, h⟩ := fit_cons h
  obtain rfl := fit_nil h
  obtain ⟨author, rfl, k0⟩ := fit_s h0
  obtain ⟨seq, rfl, k1⟩ := fit_i h1
  obtain ⟨prev, rfl, k2⟩ := fit_s h2
  obtain ⟨kind, rfl, k3⟩ := fit_i h3
  obtain ⟨time, rfl, k4⟩ := fit_i h4
  obtain ⟨object, rfl, k5⟩ := fit_s h5
  obtain ⟨target, rfl, k6⟩ := fit_s h6
  obtain ⟨scope, rfl, k7⟩ := fit_i h7
  obtain ⟨group, rfl, k8⟩ := fit_s h8
  obtain ⟨to, rfl, k9, k9'⟩ := fit_texts h9
  obtain ⟨text, rfl, k10⟩ := fit_s h10
  obtain ⟨body, rfl, k11, k11', k11''⟩ := fit_box h11
  obtain ⟨epoch, rfl, k12⟩ := fit_i h12
  obtain ⟨ws, rfl, k13, k13'⟩ := fit_sl h13
  obtain ⟨wraps, rfl, k13''⟩ := fit_list (fun x hx => fit_wrap hx) ws k13'
  obtain ⟨n, rfl, k14⟩ := fit_i h14
  obtain ⟨m, rfl, k15⟩ := fit_i h15
  obtain ⟨_, _, rfl, h17, h20⟩ := fit_cons h16
  obtain ⟨_, _, rfl, h18, h19⟩ := fit_cons h20
  obtain rfl := fit_nil h19
  obtain ⟨sigE, rfl, k16⟩ := fit_i h17
  obtain ⟨sigS, rfl, k17⟩ := fit_i h18
  refine ⟨⟨author, seq, prev, kind, time, object, target, scope, group, to, text, body, epoch, wraps, n, m, sigE, sigS⟩, rfl, fun h8 => ?_⟩
  refine ⟨k0, k2, k5, k6, k8, k10, ⟨k11, k11', k11''⟩, k9, ?_, by simpa using k13, k13'', k3, ?_⟩
  · have h1 := sumL_le to k9'
    have h2 : to.length ≤ 8 := h8
    have h3 := Nat.mul_le_mul_left tooBig h2
    have h4 : tooBig * 8 = 8388608 := by decide
    show sumL to ≤ 8388608
    omega
  · have e1 := wf64 k1; have e3 := wf64 k3; have e4 := wf64 k4; have e7 := wf64 k7; have e12 := wf64 k12; have e14 := wf64 k14; have e15 := wf64 k15; have e16 := wf64 k16; have e17 := wf64 k17
    intro x hx
    simp at hx
    rcases hx with rfl | rfl | rfl | rfl | rfl | rfl | rfl | rfl | rfl <;> assumption
theorem fit_key {cs : List C} (h : Fit tooBig keyT cs) : ∃ k : KeyAt, cs = k.cells ∧ True := by
  obtain ⟨_, _, rfl, h0, h⟩ := fit_cons h
  obtain ⟨_, _, rfl, h1, h⟩ := fit_cons h
  obtain ⟨_, _, rfl, h2, h⟩ := fit_cons h
  obtain rfl := fit_nil h
  obtain ⟨a, rfl, k0⟩ := fit_i h0
  obtain ⟨b, rfl, k1⟩ := fit_i h1
  obtain ⟨c, rfl, k2⟩ := fit_i h2
  exact ⟨⟨a, b, c⟩, rfl, trivial⟩
theorem fit_chain {cs : List C} (h : Fit tooBig chainT cs) : ∃ c : Chain, cs = c.cells ∧ ∀ a ∈ c.acts, a.to.length ≤ 8 → a.Fits := by
  obtain ⟨_, _, rfl, h0, h⟩ := fit_cons h
  obtain ⟨_, _, rfl, h1, h⟩ := fit_cons h
  obtain ⟨_, _, rfl, h2, h⟩ := fit_cons h
  obtain ⟨_, _, rfl, h3, h⟩ := fit_cons h
  obtain ⟨_, _, rfl, h4, h⟩ := fit_cons h
  obtain ⟨_, _, rfl, h5, h⟩ := fit_cons h
  obtain rfl := fit_nil h
  obtain ⟨id, rfl, _⟩ := fit_s h0
  obtain ⟨ls, rfl, _, k1⟩ := fit_sl h1
  obtain ⟨acts, rfl, k1'⟩ := fit_list (fun x hx => fit_act hx) ls k1
  obtain ⟨ks, rfl, _, k2⟩ := fit_sl h2
  obtain ⟨keys, rfl, _⟩ := fit_list (fun x hx => fit_key hx) ks k2
  obtain ⟨prev, rfl, _⟩ := fit_s h3
  obtain ⟨gen, rfl, _⟩ := fit_i h4
  obtain ⟨fork, rfl⟩ := fit_b h5
  exact ⟨⟨id, acts, keys, prev, gen, fork⟩, rfl, k1'⟩
theorem fit_chains {cs : List C} (h : Fit tooBig (.sl chainT) cs) : ∃ l : List Chain, cs = [.sl (l.map Chain.cells)] ∧ l.length ≤ tooBig ∧ ∀ c ∈ l, ∀ a ∈ c.acts, a.to.length ≤ 8 → a.Fits := by
  obtain ⟨xs, rfl, h1, h2⟩ := fit_sl h
  obtain ⟨ls, rfl, h3⟩ := fit_list (fun x hx => fit_chain hx) xs h2
  exact ⟨ls, rfl, by simpa using h1, h3⟩
end Go.Proofs.YthkmfboffnhkaaaGreatDoor
namespace Go.Proofs.YthkmfboffnhkaaaGreatDoor
open Go Go.L1 Go.ChangeShapes Go.WideShapes Go.ChangeAt Go.RowKit
set_option maxRecDepth 100000
set_option maxHeartbeats 4000000

theorem kidsT : Kids Tryz.prog (· < Tryz.prog.types.size) := kids_rows (by kernel_rfl) (by kernel_rfl)
theorem fullT : ∀ t e, t < Tryz.prog.types.size → Tryz.prog.underlying t = some (.slice e) → 0 < Tryz.prog.cellsOf e := slices_full_of _ (by kernel_rfl)

/-- The world of a call, its store empty. -/
def gh0 (W : World) : Gh := ⟨W, fun b => b < W.heap.size, []⟩
theorem relW0 (W : World) : RelW (gh0 W) [] W :=
  ⟨rfl, Nat.le_refl _, fun b hb => ⟨hb, rfl⟩, fun b hb => hb, fun b ⟨_, _, h, _⟩ => by simp [gh0] at h, fun b _ ⟨_, _, h, _⟩ => by simp [gh0] at h, fun i j l l' b h => by simp [gh0] at h,
    fun i l h => by simp [gh0] at h, fun i l o h => by simp [gh0] at h⟩
structure Kept (W W' : World) : Prop where
  os : W'.os = W.os
  output : W'.output = W.output
  heap : ∀ b, b < W.heap.size → W'.heap[b]? = W.heap[b]?
theorem fn_true {g : FuncId} {args : List V} (h : FnOK Tryz.prog GW g args [] (.c (.bool true)) []) {W : World} (hG : GW W) {vals : Array Value} (hs : vals.size = args.length)
    (hr : ∀ (i : Nat) v x, args[i]? = some v → vals[i]? = some x → RelV (gh0 W) W v x) : Calls Tryz.prog g vals W fun e W' => e = .returned (.bool true) ∧ Kept W W' := by
  refine (h.2 (gh0 W) W vals (relW0 W) hG hs hr).mono fun e W' ⟨γ', x, he, _, hx, hev⟩ => ?_
  cases hx with
  | c _ _ hx =>
    cases hx with
    | bool b => exact ⟨he, hev.os, hev.output, fun b hb => hev.keep b hb fun ⟨_, _, h, _⟩ => by simp [gh0] at h⟩

section
variable {H : Type} {enc : TypeId × Value → H} {W W' : World}
theorem trodAll_kept (hk : Kept W W') {sp : Nat → Bool} : ∀ {ts : List TypeId} {vs : List Value} {ds : List (DataW H)} {ps : List MemPlace}, (∀ t ∈ ts, t < Tryz.prog.types.size) →
    DataW.TrodAll enc Tryz.prog W 0 (fun _ => true) true ts vs ds ps → (∀ p ∈ ps, p.block < W.heap.size) → (∀ p ∈ ps, sp p.block = true) → DataW.TrodAll enc Tryz.prog W' 0 sp true ts vs ds ps
  | [], [], [], _, _, h, _, _ => h
  | t :: ts, v :: vs, d :: ds, _, ht, ⟨p, q, ⟨n, h1⟩, h2, he⟩, hl, hs => by
    subst he
    refine ⟨p, q, ⟨n, DataW.trod_stays kidsT (fun {t e} => fullT t e) (fun h => by cases h) (ht t (List.mem_cons_self ..)) h1 (fun x hx => ?_) fun x hx => hs x (List.mem_append_left _ hx)⟩,
      trodAll_kept hk (fun t' ht' => ht t' (List.mem_cons_of_mem _ ht')) h2 (fun x hx => hl x (List.mem_append_right _ hx)) (fun x hx => hs x (List.mem_append_right _ hx)), rfl⟩
    have hb := hl x (List.mem_append_left _ hx)
    cases x with
    | cell b off => exact cell_of_heap (a := ⟨b, off, none⟩) (hk.heap b hb)
    | map b => exact hk.heap b hb
theorem trodAll_len {base : Nat} {sp : Nat → Bool} {held : Bool} : ∀ {ts : List TypeId} {vs : List Value} {ds : List (DataW H)} {ps : List MemPlace}, DataW.TrodAll enc Tryz.prog W base sp held ts vs ds ps → ds.length = ts.length
  | [], [], [], _, _ => rfl
  | _ :: _, _ :: _, _ :: _, _, ⟨_, _, _, h, _⟩ => by simp [trodAll_len h]
theorem post_true {f : Func} {s : ChangeSpec} {apart fresh handsOn again : Bool} {args : Array Value} {ds gs : List (DataW H)} {before : List MemPlace} (hv : s.vars = [])
    (hW : DataW.Whole enc Tryz.prog f.params.toList s.vars apart W args.toList ds gs before) (hfn : ∀ ds : List (DataW H), ds.length = f.params.toList.length → s.fn H ds = { results := [.lit (.bool true)], args := ds })
    (hres : f.resultTypes = #[4]) (hb : Tryz.prog.underlying 4 = some .bool) (hts : ∀ t ∈ f.params.toList, t < Tryz.prog.types.size) (hk : Kept W W') :
    s.post enc Tryz.prog f apart fresh handsOn again W args (.bool true) W' := by
  have hlt := hW.lt
  have hW0 := hW
  obtain ⟨p, q, hA, hV, rfl, hz, hn⟩ := hW
  rw [hv] at hV
  obtain ⟨rfl, rfl⟩ := trodVars_none hV
  have hfn' := hfn (ds ++ []) (by rw [List.append_nil]; exact (trodAll_len hA))
  rw [List.append_nil] at hfn'
  have hold : ∀ x ∈ p ++ [], (fun b => decide (b < W.heap.size)) x.block = true := fun x hx => by simpa using hlt x hx
  have hr : ∀ (b : Nat) (sp : Nat → Bool) (hd : Bool), DataW.TrodAll enc Tryz.prog W' b sp hd f.resultTypes.toList ((Value.bool true).resultList f.resultTypes.size) (s.fn H (ds ++ [])).results [] := by
    intro b sp hd
    rw [List.append_nil, hfn', hres]
    exact trodAll_cons_mk (shut_bool hb _) trodAll_mk0
  have ha : ∀ sp : Nat → Bool, (∀ x ∈ p ++ [], sp x.block = true) → DataW.TrodAll enc Tryz.prog W' 0 sp true f.params.toList args.toList (s.fn H (ds ++ [])).args p := by
    intro sp hsp
    rw [List.append_nil, hfn']
    exact trodAll_kept hk hts hA (fun x hx => hlt x (by simpa using hx)) (fun x hx => hsp x (by simpa using hx))
  have hvv : ∀ sp : Nat → Bool, DataW.TrodVars enc Tryz.prog W' sp s.vars (s.fn H (ds ++ [])).vars [] := by
    intro sp
    rw [List.append_nil, hfn', hv]
    exact rfl
  have hkb : ∀ may, W.keptBut W' may := fun may => World.keptBut_mono (fun _ h => h.elim) (World.keptBut_none_iff.2 ⟨hk.os, hk.output, hk.heap⟩)
  refine ⟨ds, [], p ++ [], [], p, [], hW0, hr _ _ _, ha _ hold, hvv _, hkb _, fun _ => ?_⟩
  refine ⟨?_, _, _, ([] ++ p) ++ [], ⟨[] ++ p, [], trodAll_append (ha _ (fun _ _ => rfl)) (hr _ _ _), hvv _, rfl, ?_, ?_⟩, ?_⟩
  · exact ok_one hres rfl (okWide_bool_mk hb _)
  · intro b off hp
    have hp' : MemPlace.cell b off ∈ p ++ [] := by simpa using hp
    have := hlt _ hp'
    rw [frozen_of_heap (a := ⟨b, off, none⟩) (hk.heap b this)]
    exact hz b off hp'
  · intro h
    simpa using hn h
  · intro x hx _
    simpa using hx
end
end Go.Proofs.YthkmfboffnhkaaaGreatDoor
namespace Go.Proofs.YthkmfboffnhkaaaGreatDoor
open Go Go.L1 Go.ChangeShapes Go.WideShapes Go.ChangeAt Go.RowKit
set_option maxRecDepth 100000
set_option maxHeartbeats 4000000

section
variable {H : Type} {enc : TypeId × Value → H} {W : World}
theorem small_le {ds gs : List (DataW H)} (h : Rows.uptoSmall H (ds ++ gs) = true) : ∀ d ∈ ds, Rows.uptoBulk d ≤ tooBig := by
  intro d hd
  have h1 := bulk_part (l := ds ++ gs) (List.mem_append_left _ hd)
  have h2 := of_decide_eq_true h
  show Rows.uptoBulk d ≤ 1048576
  omega
theorem cells_one {v : Value} (h : v.cells = #[v]) : v.cells.toList = [v] := by rw [h]
theorem read_one {t : TypeId} {T : PT} {v : Value} {d : DataW H} {p : List MemPlace} (ht : t < Tryz.prog.types.size) (hT : ptOf Tryz.prog 60 t = some T) (hv : v.cells = #[v])
    (h : DataW.Trod enc Tryz.prog W 0 (fun _ => true) true t v d p) (hB : Rows.uptoBulk d ≤ tooBig) : ∃ c, Fit tooBig T [c] ∧ RelV (gh0 W) W (.c c) v := by
  obtain ⟨fuel, h⟩ := h
  rw [cells_one hv] at h
  obtain ⟨xs, h1, h2⟩ := trod_fit kidsT 60 fuel t T [v] _ ht hT h hB
  have hl := h2.1
  match xs, hl with
  | [c], _ => exact ⟨c, h1, .c c v (h2.2 0 c v rfl rfl)⟩
theorem read_chains {b0 : Nat} {v : Value} {d : DataW H} {p : List MemPlace} (hok : Value.okWide Tryz.prog W .any b0 22 v) (h : DataW.Trod enc Tryz.prog W 0 (fun _ => true) true 22 v d p) (hB : Rows.uptoBulk d ≤ tooBig) :
    ∃ l : List Chain, RelV (gh0 W) W (chains l) v ∧ l.length ≤ tooBig ∧ (fewS l = true → FitsAll l) := by
  obtain ⟨a0, len, cap, rfl⟩ := okWide_slice Tryz.underlying22 hok
  obtain ⟨c, h1, h2⟩ := read_one (of_decide_eq_true (by kernel_rfl)) pt22 rfl h hB
  obtain ⟨l, h3, h4, h5⟩ := fit_chains h1
  injection h3 with h3
  subst h3
  refine ⟨l, h2, h4, fun hw c hc a ha => h5 c hc a ha ?_⟩
  simp only [fewS, Bool.and_eq_true, List.all_eq_true] at hw
  have := hw.2 c hc
  simp only [chainFew, Bool.and_eq_true, List.all_eq_true] at this
  have := this.2 a ha
  simp only [actFew, Bool.and_eq_true, decide_eq_true_eq] at this
  exact this.1.1.1
theorem read_texts {b0 : Nat} {v : Value} {d : DataW H} {p : List MemPlace} (hok : Value.okWide Tryz.prog W .any b0 23 v) (h : DataW.Trod enc Tryz.prog W 0 (fun _ => true) true 23 v d p) (hB : Rows.uptoBulk d ≤ tooBig) :
    ∃ l : List Str, RelV (gh0 W) W (.c (texts l)) v ∧ l.length ≤ tooBig := by
  obtain ⟨a0, len, cap, rfl⟩ := okWide_slice Tryz.underlying23 hok
  obtain ⟨c, h1, h2⟩ := read_one (of_decide_eq_true (by kernel_rfl)) pt23 rfl h hB
  obtain ⟨l, h3, h4, _⟩ := fit_texts h1
  injection h3 with h3
  subst h3
  exact ⟨l, h2, h4⟩
theorem read_str {b0 : Nat} {v : Value} {d : DataW H} {p : List MemPlace} (hok : Value.okWide Tryz.prog W .any b0 9 v) (h : DataW.Trod enc Tryz.prog W 0 (fun _ => true) true 9 v d p) (hB : Rows.uptoBulk d ≤ tooBig) :
    ∃ l : Str, RelV (gh0 W) W (.c (.str l)) v ∧ l.length ≤ tooBig := by
  obtain ⟨s, rfl⟩ := okWide_string Tryz.underlying9 hok
  obtain ⟨fuel, hf⟩ := h
  obtain ⟨s', h, hx, hs⟩ := DataW.trod_string Tryz.underlying9 hf
  simp [Value.cells] at h
  subst h
  injection hx with hx _
  subst hx
  refine ⟨s.data.toList, .c _ _ (.str s hs), ?_⟩
  simp [Rows.uptoBulk] at hB ⊢
  omega
end
end Go.Proofs.YthkmfboffnhkaaaGreatDoor
namespace Go.Proofs.YthkmfboffnhkaaaGreatDoor
open Go Go.L1 Go.ChangeShapes Go.WideShapes Go.ChangeAt Go.RowKit
set_option maxRecDepth 100000
set_option maxHeartbeats 4000000
theorem pt40 : ptOf Tryz.prog 60 40 = some chainT := by kernel_rfl
theorem fit_chain2 {cs : List C} (h : Fit tooBig chainT cs) : ∃ c : Chain, cs = c.cells ∧ c.acts.length ≤ tooBig ∧ ∀ a ∈ c.acts, a.to.length ≤ 8 → a.Fits := by
  obtain ⟨_, _, rfl, h0, h⟩ := fit_cons h
  obtain ⟨_, _, rfl, h1, h⟩ := fit_cons h
  obtain ⟨_, _, rfl, h2, h⟩ := fit_cons h
  obtain ⟨_, _, rfl, h3, h⟩ := fit_cons h
  obtain ⟨_, _, rfl, h4, h⟩ := fit_cons h
  obtain ⟨_, _, rfl, h5, h⟩ := fit_cons h
  obtain rfl := fit_nil h
  obtain ⟨id, rfl, _⟩ := fit_s h0
  obtain ⟨ls, rfl, hl, k1⟩ := fit_sl h1
  obtain ⟨acts, rfl, k1'⟩ := fit_list (fun x hx => fit_act hx) ls k1
  obtain ⟨ks, rfl, _, k2⟩ := fit_sl h2
  obtain ⟨keys, rfl, _⟩ := fit_list (fun x hx => fit_key hx) ks k2
  obtain ⟨prev, rfl, _⟩ := fit_s h3
  obtain ⟨gen, rfl, _⟩ := fit_i h4
  obtain ⟨fork, rfl⟩ := fit_b h5
  exact ⟨⟨id, acts, keys, prev, gen, fork⟩, rfl, by simpa using hl, k1'⟩
section
variable {H : Type} {enc : TypeId × Value → H} {W : World}
theorem read_chain {b0 : Nat} {v : Value} {d : DataW H} {p : List MemPlace} (hok : Value.okWide Tryz.prog W .any b0 40 v) (h : DataW.Trod enc Tryz.prog W 0 (fun _ => true) true 40 v d p) (hB : Rows.uptoBulk d ≤ tooBig) :
    ∃ c : Chain, RelV (gh0 W) W (agg c.cells) v ∧ c.acts.length ≤ tooBig ∧ (chainFew c = true → ∀ a ∈ c.acts, a.Fits) := by
  obtain ⟨vs, rfl, -⟩ := okWide_struct Tryz.underlying40 hok
  obtain ⟨fuel, h⟩ := h
  obtain ⟨xs, h1, h2⟩ := trod_fit kidsT 60 fuel 40 chainT _ _ (of_decide_eq_true (by kernel_rfl)) pt40 h hB
  obtain ⟨c, rfl, h4, h5⟩ := fit_chain2 h1
  refine ⟨c, ?_, h4, fun hw a ha => h5 a ha ?_⟩
  · refine .agg _ vs (by have := h2.1; simp [Value.cells] at this ⊢; exact this.symm) fun i x y hx hy => ?_
    rw [List.getElem?_map] at hx
    cases hq : c.cells[i]? with
    | none => rw [hq] at hx; cases hx
    | some z =>
      rw [hq] at hx
      simp only [Option.map_some, Option.some.injEq] at hx
      subst hx
      exact .c _ _ (h2.2 i z y hq (by simpa [Value.cells] using hy))
  · simp only [chainFew, Bool.and_eq_true, List.all_eq_true] at hw
    have := hw.2 a ha
    simp only [actFew, Bool.and_eq_true, decide_eq_true_eq] at this
    exact this.1.1.1
theorem fit_chain3 {cs : List C} (h : Fit tooBig chainT cs) : ∃ c : Chain, cs = c.cells ∧ c.id.length ≤ tooBig := by
  obtain ⟨_, _, rfl, h0, h⟩ := fit_cons h
  obtain ⟨_, _, rfl, h1, h⟩ := fit_cons h
  obtain ⟨_, _, rfl, h2, h⟩ := fit_cons h
  obtain ⟨_, _, rfl, h3, h⟩ := fit_cons h
  obtain ⟨_, _, rfl, h4, h⟩ := fit_cons h
  obtain ⟨_, _, rfl, h5, h⟩ := fit_cons h
  obtain rfl := fit_nil h
  obtain ⟨id, rfl, hi⟩ := fit_s h0
  obtain ⟨ls, rfl, hl, k1⟩ := fit_sl h1
  obtain ⟨acts, rfl, k1'⟩ := fit_list (fun x hx => fit_act hx) ls k1
  obtain ⟨ks, rfl, _, k2⟩ := fit_sl h2
  obtain ⟨keys, rfl, _⟩ := fit_list (fun x hx => fit_key hx) ks k2
  obtain ⟨prev, rfl, _⟩ := fit_s h3
  obtain ⟨gen, rfl, _⟩ := fit_i h4
  obtain ⟨fork, rfl⟩ := fit_b h5
  exact ⟨⟨id, acts, keys, prev, gen, fork⟩, rfl, hi⟩
theorem read_chain2 {b0 : Nat} {v : Value} {d : DataW H} {p : List MemPlace} (hok : Value.okWide Tryz.prog W .any b0 40 v) (h : DataW.Trod enc Tryz.prog W 0 (fun _ => true) true 40 v d p) (hB : Rows.uptoBulk d ≤ tooBig) :
    ∃ c : Chain, RelV (gh0 W) W (agg c.cells) v ∧ c.acts.length ≤ tooBig ∧ (chainFew c = true → ∀ a ∈ c.acts, a.Fits) ∧ c.id.length ≤ tooBig := by
  have h' := h
  obtain ⟨c, k1, k2, k3⟩ := read_chain hok h hB
  refine ⟨c, k1, k2, k3, ?_⟩
  obtain ⟨vs, rfl, -⟩ := okWide_struct Tryz.underlying40 hok
  obtain ⟨fuel, h⟩ := h'
  obtain ⟨xs, h1, h2⟩ := trod_fit kidsT 60 fuel 40 chainT _ _ (of_decide_eq_true (by kernel_rfl)) pt40 h hB
  obtain ⟨c', rfl, h4⟩ := fit_chain3 h1
  cases k1 with
  | agg _ _ hl hh =>
    have hv0 : ∃ x, vs[0]? = some x := ⟨vs[0]'(by rw [hl]; simp [Chain.cells]), Array.getElem?_eq_getElem _⟩
    obtain ⟨x, hx⟩ := hv0
    have e1 := hh 0 (.c (.str c.id)) x (by simp [Chain.cells]) hx
    have e2 := h2.2 0 (.str c'.id) x (by simp [Chain.cells]) (by simpa [Value.cells] using hx)
    cases e1 with
    | c _ _ e1 =>
      have q1 := relC_str e1
      have q2 := relC_str e2
      rw [q1] at q2
      injection q2 with q2
      have q3 := congrArg ByteArray.data q2
      have q4 := congrArg Array.toList q3
      simp at q4
      rw [q4]
      exact h4
theorem read_texts2 {b0 : Nat} {v : Value} {d : DataW H} {p : List MemPlace} (hok : Value.okWide Tryz.prog W .any b0 23 v) (h : DataW.Trod enc Tryz.prog W 0 (fun _ => true) true 23 v d p) (hB : Rows.uptoBulk d ≤ tooBig) :
    ∃ l : List Str, RelV (gh0 W) W (.c (texts l)) v ∧ l.length ≤ tooBig ∧ ∀ s ∈ l, s.length ≤ tooBig := by
  obtain ⟨a0, len, cap, rfl⟩ := okWide_slice Tryz.underlying23 hok
  obtain ⟨c, h1, h2⟩ := read_one (of_decide_eq_true (by kernel_rfl)) pt23 rfl h hB
  obtain ⟨l, h3, h4, h5⟩ := fit_texts h1
  injection h3 with h3
  subst h3
  exact ⟨l, h2, h4, h5⟩
end
end Go.Proofs.YthkmfboffnhkaaaGreatDoor
namespace Go.Proofs.YthkmfboffnhkaaaGreatDoor
open Go Go.ChangeShapes Go.WideShapes Go.ChangeAt Go.RowKit
set_option maxRecDepth 100000
set_option maxHeartbeats 4000000

/-- The door's world, and the great table. -/
noncomputable def laidW (os : Os) : World := (World.doorLaid Tryz.prog 168 os).layVars Tryz.prog [("unicode/utf8.first", Rows.laid_unicode_utf8_first)]
theorem laidW_os (os : Os) : (laidW os).os = os := World.layVars_os _ _ _
noncomputable def memW (os : Os) (args : Array Value) : World := ((laidW os).forCall (fun _ _ => 0) ⟨#[], args, []⟩).memory
theorem laidW_met (os : Os) (args : Array Value) : laidMetH Tryz.prog Rows.listsGrowsUptoRow.laid (memW os args) :=
  laidMetH_of_parts3 (fuel := 12) (laidMet_layVars (w0 := World.doorLaid Tryz.prog 168 os) ["unicode/utf8.first"] [4] (by kernel_rfl) (by kernel_rfl) (by kernel_rfl)
    (LaidIn.of_run _ 12 (by kernel_rfl) (by kernel_rfl) (by kernel_rfl) (by kernel_rfl))) (by kernel_rfl) (by kernel_rfl)
end Go.Proofs.YthkmfboffnhkaaaGreatDoor
