/-
  The frame: a chain out of the reading of an argument; strings with their bounds.
-/
import Derived.Test.YthkmfboffnhkaaaGreatDoorF4
set_option linter.all false
namespace Go.Proofs.YthkmfboffnhkaaaGreatDoor
open Go Go.L1 Go.ChangeShapes Go.WideShapes Go.ChangeAt Go.RowKit
set_option maxRecDepth 100000
set_option maxHeartbeats 4000000
theorem pt40 : ptOf Tryz.prog 60 40 = some chainT := by kernel_rfl
theorem fit_chain2 {cs : List C} (h : Fit tooBig chainT cs) : ∃ c : Chain, cs = c.cells ∧ c.acts.length ≤ tooBig ∧ ∀ a ∈ c.acts, a.to.length ≤ 8 → a.Fits := by
  obtain ⟨_, _, rfl, h0, h⟩ := fit_cons h
  obtain ⟨_, _, rfl, h1, h⟩ := fit_cons h
  obtain ⟨_, _, rfl, h2, h⟩ := fit_cons h
  obtain ⟨_, _, rfl, h3, h⟩ := fit_cons h
  obtain ⟨_, _, rfl, h4, h⟩ := fit_cons h
  obtain ⟨_, _, rfl, h5, h⟩ := fit_cons h
  obtain rfl := fit_nil h
  obtain ⟨id, rfl, _⟩ := fit_s h0
  obtain ⟨ls, rfl, hl, k1⟩ := fit_sl h1
  obtain ⟨acts, rfl, k1'⟩ := fit_list (fun x hx => fit_act hx) ls k1
  obtain ⟨ks, rfl, _, k2⟩ := fit_sl h2
  obtain ⟨keys, rfl, _⟩ := fit_list (fun x hx => fit_key hx) ks k2
  obtain ⟨prev, rfl, _⟩ := fit_s h3
  obtain ⟨gen, rfl, _⟩ := fit_i h4
  obtain ⟨fork, rfl⟩ := fit_b h5
  exact ⟨⟨id, acts, keys, prev, gen, fork⟩, rfl, by simpa using hl, k1'⟩
section
variable {H : Type} {enc : TypeId × Value → H} {W : World}
theorem read_chain {b0 : Nat} {v : Value} {d : DataW H} {p : List MemPlace} (hok : Value.okWide Tryz.prog W .any b0 40 v) (h : DataW.Trod enc Tryz.prog W 0 (fun _ => true) true 40 v d p) (hB : Rows.uptoBulk d ≤ tooBig) :
    ∃ c : Chain, RelV (gh0 W) W (agg c.cells) v ∧ c.acts.length ≤ tooBig ∧ (chainFew c = true → ∀ a ∈ c.acts, a.Fits) := by
  obtain ⟨vs, rfl, -⟩ := okWide_struct Tryz.underlying40 hok
  obtain ⟨fuel, h⟩ := h
  obtain ⟨xs, h1, h2⟩ := trod_fit kidsT 60 fuel 40 chainT _ _ (of_decide_eq_true (by kernel_rfl)) pt40 h hB
  obtain ⟨c, rfl, h4, h5⟩ := fit_chain2 h1
  refine ⟨c, ?_, h4, fun hw a ha => h5 a ha ?_⟩
  · refine .agg _ vs (by have := h2.1; simp [Value.cells] at this ⊢; exact this.symm) fun i x y hx hy => ?_
    rw [List.getElem?_map] at hx
    cases hq : c.cells[i]? with
    | none => rw [hq] at hx; cases hx
    | some z =>
      rw [hq] at hx
      simp only [Option.map_some, Option.some.injEq] at hx
      subst hx
      exact .c _ _ (h2.2 i z y hq (by simpa [Value.cells] using hy))
  · simp only [chainFew, Bool.and_eq_true, List.all_eq_true] at hw
    have := hw.2 a ha
    simp only [actFew, Bool.and_eq_true, decide_eq_true_eq] at this
    exact this.1.1.1
theorem fit_chain3 {cs : List C} (h : Fit tooBig chainT cs) : ∃ c : Chain, cs = c.cells ∧ c.id.length ≤ tooBig := by
  obtain ⟨_, _, rfl, h0, h⟩ := fit_cons h
  obtain ⟨_, _, rfl, h1, h⟩ := fit_cons h
  obtain ⟨_, _, rfl, h2, h⟩ := fit_cons h
  obtain ⟨_, _, rfl, h3, h⟩ := fit_cons h
  obtain ⟨_, _, rfl, h4, h⟩ := fit_cons h
  obtain ⟨_, _, rfl, h5, h⟩ := fit_cons h
  obtain rfl := fit_nil h
  obtain ⟨id, rfl, hi⟩ := fit_s h0
  obtain ⟨ls, rfl, hl, k1⟩ := fit_sl h1
  obtain ⟨acts, rfl, k1'⟩ := fit_list (fun x hx => fit_act hx) ls k1
  obtain ⟨ks, rfl, _, k2⟩ := fit_sl h2
  obtain ⟨keys, rfl, _⟩ := fit_list (fun x hx => fit_key hx) ks k2
  obtain ⟨prev, rfl, _⟩ := fit_s h3
  obtain ⟨gen, rfl, _⟩ := fit_i h4
  obtain ⟨fork, rfl⟩ := fit_b h5
  exact ⟨⟨id, acts, keys, prev, gen, fork⟩, rfl, hi⟩
theorem read_chain2 {b0 : Nat} {v : Value} {d : DataW H} {p : List MemPlace} (hok : Value.okWide Tryz.prog W .any b0 40 v) (h : DataW.Trod enc Tryz.prog W 0 (fun _ => true) true 40 v d p) (hB : Rows.uptoBulk d ≤ tooBig) :
    ∃ c : Chain, RelV (gh0 W) W (agg c.cells) v ∧ c.acts.length ≤ tooBig ∧ (chainFew c = true → ∀ a ∈ c.acts, a.Fits) ∧ c.id.length ≤ tooBig := by
  have h' := h
  obtain ⟨c, k1, k2, k3⟩ := read_chain hok h hB
  refine ⟨c, k1, k2, k3, ?_⟩
  obtain ⟨vs, rfl, -⟩ := okWide_struct Tryz.underlying40 hok
  obtain ⟨fuel, h⟩ := h'
  obtain ⟨xs, h1, h2⟩ := trod_fit kidsT 60 fuel 40 chainT _ _ (of_decide_eq_true (by kernel_rfl)) pt40 h hB
  obtain ⟨c', rfl, h4⟩ := fit_chain3 h1
  cases k1 with
  | agg _ _ hl hh =>
    have hv0 : ∃ x, vs[0]? = some x := ⟨vs[0]'(by rw [hl]; simp [Chain.cells]), Array.getElem?_eq_getElem _⟩
    obtain ⟨x, hx⟩ := hv0
    have e1 := hh 0 (.c (.str c.id)) x (by simp [Chain.cells]) hx
    have e2 := h2.2 0 (.str c'.id) x (by simp [Chain.cells]) (by simpa [Value.cells] using hx)
    cases e1 with
    | c _ _ e1 =>
      have q1 := relC_str e1
      have q2 := relC_str e2
      rw [q1] at q2
      injection q2 with q2
      have q3 := congrArg ByteArray.data q2
      have q4 := congrArg Array.toList q3
      simp at q4
      rw [q4]
      exact h4
theorem read_texts2 {b0 : Nat} {v : Value} {d : DataW H} {p : List MemPlace} (hok : Value.okWide Tryz.prog W .any b0 23 v) (h : DataW.Trod enc Tryz.prog W 0 (fun _ => true) true 23 v d p) (hB : Rows.uptoBulk d ≤ tooBig) :
    ∃ l : List Str, RelV (gh0 W) W (.c (texts l)) v ∧ l.length ≤ tooBig ∧ ∀ s ∈ l, s.length ≤ tooBig := by
  obtain ⟨a0, len, cap, rfl⟩ := okWide_slice Tryz.underlying23 hok
  obtain ⟨c, h1, h2⟩ := read_one (of_decide_eq_true (by kernel_rfl)) pt23 rfl h hB
  obtain ⟨l, h3, h4, h5⟩ := fit_texts h1
  injection h3 with h3
  subst h3
  exact ⟨l, h2, h4, h5⟩
end
end Go.Proofs.YthkmfboffnhkaaaGreatDoor
