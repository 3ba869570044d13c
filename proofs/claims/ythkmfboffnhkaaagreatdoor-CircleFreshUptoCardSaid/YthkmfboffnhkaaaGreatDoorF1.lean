/-
  The frame: what an argument's reading says, as cells.
-/
import Derived.Test.YthkmfboffnhkaaaGreatDoorM2
import Derived.Test.YthkmfboffnhkaaaGreatDoorRows
import Derived.ChangeArms
import Derived.ChangeStays
set_option linter.all false
namespace Go.Proofs.YthkmfboffnhkaaaGreatDoor
open Go Go.L1
set_option maxRecDepth 100000

/-- Plain types: no pointer, no map, no interface. -/
inductive PT where
  | b
  | i (k : IntKind)
  | s
  | sl (e : PT)
  | st (fs : List PT)

/-- Cells of a plain type; every string and every slice is of length at most B. -/
inductive Fit (B : Nat) : PT → List C → Prop
  | b (x : Bool) : Fit B .b [.bool x]
  | i (k : IntKind) (n : Int) (h : (Lit.int k n).wf = true) : Fit B (.i k) [.int k n]
  | s (l : List UInt8) (h : l.length ≤ B) : Fit B .s [.str l]
  | sl (e : PT) (xs : List (List C)) (h : xs.length ≤ B) (hx : ∀ x ∈ xs, Fit B e x) : Fit B (.sl e) [.sl xs]
  | nil : Fit B (.st []) []
  | cons (f : PT) (fs : List PT) (x y : List C) (hx : Fit B f x) (hy : Fit B (.st fs) y) : Fit B (.st (f :: fs)) (x ++ y)

mutual
def ptOf (P : Program) : Nat → TypeId → Option PT
  | 0, _ => none
  | n + 1, t => match P.underlying t with
    | some .bool => some .b
    | some (.int k) => some (.i k)
    | some .string => some .s
    | some (.slice e) => if 0 < P.cellsOf e then (ptOf P n e).map .sl else none
    | some (.struct fs) => (ptsOf P n fs.toList).map .st
    | _ => none
def ptsOf (P : Program) : Nat → List Field → Option (List PT)
  | _, [] => some []
  | 0, _ :: _ => none
  | n + 1, f :: fs => match ptOf P n f.type, ptsOf P n fs with
    | some x, some y => some (x :: y)
    | _, _ => none
end

section
variable {H : Type} {enc : TypeId × Value → H} {P : Program} {W : World} {spare : Nat → Bool} {held : Bool} {B : Nat}

theorem bulk_part {d : DataW H} : ∀ {l : List (DataW H)}, d ∈ l → Rows.uptoBulk d ≤ Rows.uptoBulkAll l
  | x :: r, h => by
    simp only [Rows.uptoBulkAll]
    rcases List.mem_cons.1 h with h | h
    · subst h; omega
    · have := bulk_part h; omega
theorem bulk_one (d : DataW H) : 1 ≤ Rows.uptoBulk d := by
  cases d with
  | lit l => cases l <;> simp [Rows.uptoBulk]
  | nil => simp [Rows.uptoBulk]
  | ptr d => simp [Rows.uptoBulk]
  | slice elems spare => simp [Rows.uptoBulk]
  | agg parts => simp [Rows.uptoBulk]
  | iface t d => simp [Rows.uptoBulk]
  | map entries => simp [Rows.uptoBulk]
  | held h => simp [Rows.uptoBulk]
theorem bulk_len : ∀ (l : List (DataW H)), l.length ≤ Rows.uptoBulkAll l
  | [] => by simp
  | x :: r => by have := bulk_one x; have := bulk_len r; simp only [Rows.uptoBulkAll, List.length_cons]; omega

/-- The cells that a reading's relation binds. -/
def Reads (W : World) (xs : List C) (cs : List Value) : Prop := xs.length = cs.length ∧ ∀ (i : Nat) c v, xs[i]? = some c → cs[i]? = some v → RelC (fun b => b < W.heap.size) W c v

theorem trod_fit (K : Kids P (· < P.types.size)) : ∀ (n fuel : Nat) (t : TypeId) (T : PT) (cs : List Value) (x : DataW H × List MemPlace), t < P.types.size → ptOf P n t = some T →
    DataW.trod enc P W 0 spare held fuel t cs = some x → Rows.uptoBulk x.1 ≤ B → ∃ xs, Fit B T xs ∧ Reads W xs cs := by
  intro n
  induction n using Nat.strongRecOn with
  | _ n ih =>
  intro fuel t T cs x ht hT h hB
  cases n with
  | zero => simp [ptOf] at hT
  | succ n =>
  unfold ptOf at hT
  split at hT
  · next hu =>
    injection hT with hT; subst hT
    obtain ⟨b, rfl, rfl⟩ := DataW.trod_bool hu h
    refine ⟨[.bool b], .b b, rfl, fun i c v hc hv => ?_⟩
    cases i with
    | zero => simp at hc hv; subst hc hv; exact .bool b
    | succ i => simp at hc
  · next k hu =>
    injection hT with hT; subst hT
    obtain ⟨m, rfl, rfl, hwf⟩ := DataW.trod_int hu h
    refine ⟨[.int k m], .i k m hwf, rfl, fun i c v hc hv => ?_⟩
    cases i with
    | zero => simp at hc hv; subst hc hv; exact .int k m
    | succ i => simp at hc
  · next hu =>
    injection hT with hT; subst hT
    obtain ⟨s, rfl, rfl, hs⟩ := DataW.trod_string hu h
    simp [Rows.uptoBulk] at hB
    refine ⟨[.str s.data.toList], .s _ (by simp; omega), rfl, fun i c v hc hv => ?_⟩
    cases i with
    | zero => simp at hc hv; subst hc hv; exact .str s hs
    | succ i => simp at hc
  · next e hu =>
    split at hT
    case isFalse => cases hT
    next hpos =>
    obtain ⟨E, hE, rfl⟩ := Option.map_eq_some_iff.1 hT
    rcases DataW.trod_slice hu h with ⟨rfl, rfl⟩ | ⟨a, len, cap, elems, rest, fuel', rfl, rfl, rfl, _, hlc, hcm, hel, hget, _⟩
    · refine ⟨[.sl []], .sl _ [] (by simp) (by simp), rfl, fun i c v hc hv => ?_⟩
      cases i with
      | zero => simp at hc hv; subst hc hv; exact .nilsl
      | succ i => simp at hc
    · simp only [Rows.uptoBulk] at hB
      have hlen : elems.length ≤ B := by have := bulk_len (elems.map (·.1)); simp at this; omega
      have hone : ∀ i, i < len → ∃ xs cs', Fit B E xs ∧ Reads W xs cs' ∧ W.cells? 0 (a.add (i * P.cellsOf e)) (P.cellsOf e) = some cs' := by
        intro i hi
        have h1 := hget i hi
        rw [List.getElem?_eq_getElem (by omega)] at h1
        obtain ⟨cs', h2, h3⟩ := Option.bind_eq_some_iff.1 h1
        have hb : Rows.uptoBulk (elems[i]'(by omega)).1 ≤ B := by
          have : (elems[i]'(by omega)).1 ∈ elems.map (·.1) := List.mem_map.2 ⟨_, List.getElem_mem _, rfl⟩
          have := bulk_part this
          omega
        obtain ⟨xs, h4, h5⟩ := ih n (by omega) _ e E cs' _ (K.slice ht hu) hE h3 hb
        exact ⟨xs, cs', h4, h5, h2⟩
      have hall : ∀ m, m ≤ len → ∃ X : List (List C), X.length = m ∧ (∀ x ∈ X, Fit B E x) ∧ ∀ i xs, X[i]? = some xs → ∃ cs', Reads W xs cs' ∧ W.cells? 0 (a.add (i * P.cellsOf e)) (P.cellsOf e) = some cs' := by
        intro m
        induction m with
        | zero => intro _; exact ⟨[], rfl, by simp, by simp⟩
        | succ m ihm =>
          intro hm
          obtain ⟨X, k1, k2, k3⟩ := ihm (by omega)
          obtain ⟨xs, cs', k4, k5, k6⟩ := hone m (by omega)
          refine ⟨X ++ [xs], by simp [k1], fun x hx => ?_, fun i ys hi => ?_⟩
          · rcases List.mem_append.1 hx with hx | hx
            · exact k2 x hx
            · simp at hx; subst hx; exact k4
          · rcases Nat.lt_or_ge i X.length with hl | hl
            · rw [List.getElem?_append_left hl] at hi; exact k3 i ys hi
            · rw [List.getElem?_append_right hl] at hi
              have : i - X.length = 0 := by have := (List.getElem?_eq_some_iff.1 hi).1; simp at this; omega
              rw [this] at hi
              simp at hi
              subst hi
              rw [show i = m by omega]
              exact ⟨cs', k5, k6⟩
      obtain ⟨X, k1, k2, k3⟩ := hall len (Nat.le_refl _)
      refine ⟨[.sl X], .sl E X (by omega) k2, rfl, fun i c v hc hv => ?_⟩
      cases i with
      | succ i => simp at hc
      | zero =>
      simp at hc hv
      subst hc hv
      have hcell : ∀ (i : Nat) x (j : Nat) c, X[i]? = some x → x[j]? = some c → ∃ v, W.cell? (a.add (i * P.cellsOf e + j)) = some v ∧ RelC (fun b => b < W.heap.size) W c v := by
        intro i x j c hi hj
        obtain ⟨cs', h1, h2⟩ := k3 i x hi
        obtain ⟨_, h3, h4⟩ := World.cells?_some h2
        have hjl := (List.getElem?_eq_some_iff.1 hj).1
        have h5 := h4 j (by rw [← h3, ← h1.1]; exact hjl)
        rw [add_add, List.getElem?_eq_getElem (by rw [← h1.1]; exact hjl)] at h5
        exact ⟨_, h5, h1.2 j c _ hj (List.getElem?_eq_getElem (by rw [← h1.1]; exact hjl))⟩
      have hne : X ≠ [] → ∃ v, W.cell? a = some v := by
        intro hX
        have h0 : 0 < X.length := List.length_pos_iff.2 hX
        obtain ⟨cs', h1, h2⟩ := k3 0 X[0] (List.getElem?_eq_getElem h0)
        obtain ⟨_, h3, h4⟩ := World.cells?_some h2
        have h5 := h4 0 hpos
        rw [List.getElem?_eq_getElem (by rw [h3]; exact hpos), add_add] at h5
        exact ⟨_, by simpa [Addr.add] using h5⟩
      refine .sl X (P.cellsOf e) a len cap (fun i j => (W.cell? (a.add (i * P.cellsOf e + j))).getD undef) (fun hX => ?_) (fun hX => ?_) k1 hlc hcm (fun i x hi => ?_) (fun i x j c hi hj => ?_) (fun i x j c hi hj => ?_)
      · obtain ⟨v, hv⟩ := hne hX
        unfold World.cell? at hv
        split at hv
        · next hh => exact (Array.getElem?_eq_some_iff.1 hh).1
        · cases hv
      · obtain ⟨v, hv⟩ := hne hX
        unfold World.cell? at hv
        split at hv
        · split at hv
          · cases hv
          · next hs => simpa using hs
        · cases hv
      · obtain ⟨cs', h1, h2⟩ := k3 i x hi
        rw [h1.1, (World.cells?_some h2).2.1]
      · obtain ⟨v, h1, _⟩ := hcell i x j c hi hj
        simp [h1]
      · obtain ⟨v, h1, h2⟩ := hcell i x j c hi hj
        simpa [h1] using h2
  · next fs hu =>
    obtain ⟨Ts, hTs, rfl⟩ := Option.map_eq_some_iff.1 hT
    obtain ⟨xs, fuel', rfl, rfl, hl, hlen, hf⟩ := DataW.trod_struct hu h
    obtain ⟨kt, ks, ko⟩ := K.struct ht hu
    simp only [Rows.uptoBulk] at hB
    have key : ∀ (m : Nat) (fl : List Field) (Ts : List PT) (ys : List (DataW H × List MemPlace)) (o : Nat), m ≤ n → ptsOf P m fl = some Ts → (∀ f ∈ fl, f.type < P.types.size) →
        (∀ y ∈ ys, Rows.uptoBulk y.1 ≤ B) → ys.length = fl.length → o + (fl.map fun f => P.cellsOf f.type).sum = cs.length →
        (∀ (j : Nat) f, fl[j]? = some f → f.offset = o + ((fl.take j).map fun f => P.cellsOf f.type).sum ∧ DataW.trod enc P W 0 spare held fuel' f.type ((cs.drop f.offset).take (P.cellsOf f.type)) = ys[j]?) →
        ∃ X, Fit B (.st Ts) X ∧ Reads W X (cs.drop o) := by
      intro m
      induction m with
      | zero =>
        intro fl Ts ys o _ hT _ _ _ ho _
        cases fl with
        | cons f fl => simp [ptsOf] at hT
        | nil =>
          simp [ptsOf] at hT
          subst hT
          simp at ho
          exact ⟨[], .nil, by simp; omega, by simp⟩
      | succ m ihm =>
        intro fl Ts ys o hm hT hk hb hyl ho hj
        cases fl with
        | nil =>
          simp [ptsOf] at hT
          subst hT
          simp at ho
          exact ⟨[], .nil, by simp; omega, by simp⟩
        | cons f fl =>
          simp only [ptsOf] at hT
          split at hT
          case h_2 => cases hT
          next T1 T2 hT1 hT2 =>
          injection hT with hT
          subst hT
          cases ys with
          | nil => simp at hyl
          | cons y ys =>
          obtain ⟨ho1, htr⟩ := hj 0 f rfl
          simp at ho1
          simp only [List.getElem?_cons_zero, ho1] at htr
          simp only [List.map_cons, List.sum_cons] at ho
          obtain ⟨X1, hX1, hR1⟩ := ih m (by omega) fuel' f.type T1 _ y (hk f (List.mem_cons_self ..)) hT1 htr (hb y (List.mem_cons_self ..))
          obtain ⟨X2, hX2, hR2⟩ := ihm fl T2 ys (o + P.cellsOf f.type) (by omega) hT2 (fun f' hf' => hk f' (List.mem_cons_of_mem _ hf')) (fun y' hy' => hb y' (List.mem_cons_of_mem _ hy')) (by simpa using hyl) (by omega) (fun j f' hf' => by
            obtain ⟨q1, q2⟩ := hj (j + 1) f' (by simpa using hf')
            simp only [List.take_succ_cons, List.map_cons, List.sum_cons, List.getElem?_cons_succ] at q1 q2
            exact ⟨by omega, q2⟩)
          have hl1 : X1.length = P.cellsOf f.type := by rw [hR1.1]; simp; omega
          refine ⟨X1 ++ X2, .cons T1 T2 X1 X2 hX1 hX2, ?_, fun i c v hc hv => ?_⟩
          · have := hR2.1
            simp at this ⊢; omega
          · rcases Nat.lt_or_ge i X1.length with hi | hi
            · rw [List.getElem?_append_left hi] at hc
              refine hR1.2 i c v hc ?_
              rw [List.getElem?_take_of_lt (by omega)]
              exact hv
            · rw [List.getElem?_append_right hi] at hc
              refine hR2.2 (i - X1.length) c v hc ?_
              simp only [List.getElem?_drop] at hv ⊢
              rw [show o + P.cellsOf f.type + (i - X1.length) = o + i by omega]
              exact hv
    obtain ⟨X, h1, h2⟩ := key n fs.toList Ts xs 0 (Nat.le_refl _) hTs kt (fun y hy => by
        have := bulk_part (l := xs.map (·.1)) (List.mem_map.2 ⟨y, hy, rfl⟩)
        omega) (by simpa using hlen) (by rw [hl, ks]; simp) (fun j f hj => ⟨by rw [ko j f hj]; simp, hf j f (by simpa using hj)⟩)
    exact ⟨X, h1, by simpa using h2⟩
  · cases hT
end
end Go.Proofs.YthkmfboffnhkaaaGreatDoor
