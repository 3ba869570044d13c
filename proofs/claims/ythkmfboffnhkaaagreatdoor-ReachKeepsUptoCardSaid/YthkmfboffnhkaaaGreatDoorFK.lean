/-
  The frame: a chain with the number of its keys; a list of activities.
-/
import Derived.Test.YthkmfboffnhkaaaGreatDoorFA
set_option linter.all false
namespace Go.Proofs.YthkmfboffnhkaaaGreatDoor
open Go Go.L1 Go.ChangeShapes Go.WideShapes Go.ChangeAt Go.RowKit
set_option maxRecDepth 100000
set_option maxHeartbeats 4000000
theorem pt37 : ptOf Tryz.prog 60 37 = some (.sl actT) := by kernel_rfl
theorem fit_acts {cs : List C} (h : Fit tooBig (.sl actT) cs) : ∃ l : List Act, cs = [.sl (l.map Act.cells)] ∧ l.length ≤ tooBig ∧ ∀ a ∈ l, a.to.length ≤ 8 → a.Fits := by
  obtain ⟨xs, rfl, h1, h2⟩ := fit_sl h
  obtain ⟨l, rfl, h3⟩ := fit_list (fun x hx => fit_act hx) xs h2
  exact ⟨l, rfl, by simpa using h1, h3⟩
theorem fit_chaink {cs : List C} (h : Fit tooBig chainT cs) : ∃ c : Chain, cs = c.cells ∧ (c.acts.length ≤ tooBig ∧ c.keys.length ≤ tooBig) ∧ ∀ a ∈ c.acts, a.to.length ≤ 8 → a.Fits := by
  obtain ⟨_, _, rfl, h0, h⟩ := fit_cons h
  obtain ⟨_, _, rfl, h1, h⟩ := fit_cons h
  obtain ⟨_, _, rfl, h2, h⟩ := fit_cons h
  obtain ⟨_, _, rfl, h3, h⟩ := fit_cons h
  obtain ⟨_, _, rfl, h4, h⟩ := fit_cons h
  obtain ⟨_, _, rfl, h5, h⟩ := fit_cons h
  obtain rfl := fit_nil h
  obtain ⟨id, rfl, _⟩ := fit_s h0
  obtain ⟨ls, rfl, hl, k1⟩ := fit_sl h1
  obtain ⟨acts, rfl, k1'⟩ := fit_list (fun x hx => fit_act hx) ls k1
  obtain ⟨ks, rfl, hk, k2⟩ := fit_sl h2
  obtain ⟨keys, rfl, _⟩ := fit_list (fun x hx => fit_key hx) ks k2
  obtain ⟨prev, rfl, _⟩ := fit_s h3
  obtain ⟨gen, rfl, _⟩ := fit_i h4
  obtain ⟨fork, rfl⟩ := fit_b h5
  exact ⟨⟨id, acts, keys, prev, gen, fork⟩, rfl, ⟨by simpa using hl, by simpa using hk⟩, k1'⟩
section
variable {H : Type} {enc : TypeId × Value → H} {W : World}
theorem read_acts {b0 : Nat} {v : Value} {d : DataW H} {p : List MemPlace} (hok : Value.okWide Tryz.prog W .any b0 37 v) (h : DataW.Trod enc Tryz.prog W 0 (fun _ => true) true 37 v d p) (hB : Rows.uptoBulk d ≤ tooBig) :
    ∃ l : List Act, RelV (gh0 W) W (.c (.sl (l.map Act.cells))) v ∧ l.length ≤ tooBig ∧ (l.all actFew = true → ∀ a ∈ l, a.Fits) := by
  obtain ⟨a0, len, cap, rfl⟩ := okWide_slice Tryz.underlying37 hok
  obtain ⟨c, h1, h2⟩ := read_one (of_decide_eq_true (by kernel_rfl)) pt37 rfl h hB
  obtain ⟨l, h3, h4, h5⟩ := fit_acts h1
  injection h3 with h3
  subst h3
  refine ⟨l, h2, h4, fun hw a ha => h5 a ha ?_⟩
  have := List.all_eq_true.1 hw a ha
  simp only [actFew, Bool.and_eq_true, decide_eq_true_eq] at this
  exact this.1.1.1
theorem read_chaink {b0 : Nat} {v : Value} {d : DataW H} {p : List MemPlace} (hok : Value.okWide Tryz.prog W .any b0 40 v) (h : DataW.Trod enc Tryz.prog W 0 (fun _ => true) true 40 v d p) (hB : Rows.uptoBulk d ≤ tooBig) :
    ∃ c : Chain, RelV (gh0 W) W (agg c.cells) v ∧ (c.acts.length ≤ tooBig ∧ c.keys.length ≤ tooBig) ∧ (chainFew c = true → ∀ a ∈ c.acts, a.Fits) := by
  obtain ⟨vs, rfl, -⟩ := okWide_struct Tryz.underlying40 hok
  obtain ⟨fuel, h⟩ := h
  obtain ⟨xs, h1, h2⟩ := trod_fit kidsT 60 fuel 40 chainT _ _ (of_decide_eq_true (by kernel_rfl)) pt40 h hB
  obtain ⟨c, rfl, h4, h5⟩ := fit_chaink h1
  refine ⟨c, ?_, h4, fun hw a ha => h5 a ha ?_⟩
  · refine .agg _ vs (by have := h2.1; simp [Value.cells] at this ⊢; exact this.symm) fun i x y hx hy => ?_
    rw [List.getElem?_map] at hx
    cases hq : c.cells[i]? with
    | none => rw [hq] at hx; cases hx
    | some z =>
      rw [hq] at hx
      simp only [Option.map_some, Option.some.injEq] at hx
      subst hx
      exact .c _ _ (h2.2 i z y hq (by simpa [Value.cells] using hy))
  · simp only [chainFew, Bool.and_eq_true, List.all_eq_true] at hw
    have := hw.2 a ha
    simp only [actFew, Bool.and_eq_true, decide_eq_true_eq] at this
    exact this.1.1.1
end
end Go.Proofs.YthkmfboffnhkaaaGreatDoor
