/-
  The frame: chains and texts out of the readings of arguments.
-/
import Derived.Test.YthkmfboffnhkaaaGreatDoorF3
import Derived.Test.YthkmfboffnhkaaaGreatDoorWJ
set_option linter.all false
namespace Go.Proofs.YthkmfboffnhkaaaGreatDoor
open Go Go.L1 Go.ChangeShapes Go.WideShapes Go.ChangeAt Go.RowKit
set_option maxRecDepth 100000
set_option maxHeartbeats 4000000

section
variable {H : Type} {enc : TypeId × Value → H} {W : World}
theorem small_le {ds gs : List (DataW H)} (h : Rows.uptoSmall H (ds ++ gs) = true) : ∀ d ∈ ds, Rows.uptoBulk d ≤ tooBig := by
  intro d hd
  have h1 := bulk_part (l := ds ++ gs) (List.mem_append_left _ hd)
  have h2 := of_decide_eq_true h
  show Rows.uptoBulk d ≤ 1048576
  omega
theorem cells_one {v : Value} (h : v.cells = #[v]) : v.cells.toList = [v] := by rw [h]
theorem read_one {t : TypeId} {T : PT} {v : Value} {d : DataW H} {p : List MemPlace} (ht : t < Tryz.prog.types.size) (hT : ptOf Tryz.prog 60 t = some T) (hv : v.cells = #[v])
    (h : DataW.Trod enc Tryz.prog W 0 (fun _ => true) true t v d p) (hB : Rows.uptoBulk d ≤ tooBig) : ∃ c, Fit tooBig T [c] ∧ RelV (gh0 W) W (.c c) v := by
  obtain ⟨fuel, h⟩ := h
  rw [cells_one hv] at h
  obtain ⟨xs, h1, h2⟩ := trod_fit kidsT 60 fuel t T [v] _ ht hT h hB
  have hl := h2.1
  match xs, hl with
  | [c], _ => exact ⟨c, h1, .c c v (h2.2 0 c v rfl rfl)⟩
theorem read_chains {b0 : Nat} {v : Value} {d : DataW H} {p : List MemPlace} (hok : Value.okWide Tryz.prog W .any b0 22 v) (h : DataW.Trod enc Tryz.prog W 0 (fun _ => true) true 22 v d p) (hB : Rows.uptoBulk d ≤ tooBig) :
    ∃ l : List Chain, RelV (gh0 W) W (chains l) v ∧ l.length ≤ tooBig ∧ (fewS l = true → FitsAll l) := by
  obtain ⟨a0, len, cap, rfl⟩ := okWide_slice Tryz.underlying22 hok
  obtain ⟨c, h1, h2⟩ := read_one (of_decide_eq_true (by kernel_rfl)) pt22 rfl h hB
  obtain ⟨l, h3, h4, h5⟩ := fit_chains h1
  injection h3 with h3
  subst h3
  refine ⟨l, h2, h4, fun hw c hc a ha => h5 c hc a ha ?_⟩
  simp only [fewS, Bool.and_eq_true, List.all_eq_true] at hw
  have := hw.2 c hc
  simp only [chainFew, Bool.and_eq_true, List.all_eq_true] at this
  have := this.2 a ha
  simp only [actFew, Bool.and_eq_true, decide_eq_true_eq] at this
  exact this.1.1.1
theorem read_texts {b0 : Nat} {v : Value} {d : DataW H} {p : List MemPlace} (hok : Value.okWide Tryz.prog W .any b0 23 v) (h : DataW.Trod enc Tryz.prog W 0 (fun _ => true) true 23 v d p) (hB : Rows.uptoBulk d ≤ tooBig) :
    ∃ l : List Str, RelV (gh0 W) W (.c (texts l)) v ∧ l.length ≤ tooBig := by
  obtain ⟨a0, len, cap, rfl⟩ := okWide_slice Tryz.underlying23 hok
  obtain ⟨c, h1, h2⟩ := read_one (of_decide_eq_true (by kernel_rfl)) pt23 rfl h hB
  obtain ⟨l, h3, h4, _⟩ := fit_texts h1
  injection h3 with h3
  subst h3
  exact ⟨l, h2, h4⟩
theorem read_str {b0 : Nat} {v : Value} {d : DataW H} {p : List MemPlace} (hok : Value.okWide Tryz.prog W .any b0 9 v) (h : DataW.Trod enc Tryz.prog W 0 (fun _ => true) true 9 v d p) (hB : Rows.uptoBulk d ≤ tooBig) :
    ∃ l : Str, RelV (gh0 W) W (.c (.str l)) v ∧ l.length ≤ tooBig := by
  obtain ⟨s, rfl⟩ := okWide_string Tryz.underlying9 hok
  obtain ⟨fuel, hf⟩ := h
  obtain ⟨s', h, hx, hs⟩ := DataW.trod_string Tryz.underlying9 hf
  simp [Value.cells] at h
  subst h
  injection hx with hx _
  subst hx
  refine ⟨s.data.toList, .c _ _ (.str s hs), ?_⟩
  simp [Rows.uptoBulk] at hB ⊢
  omega
end
end Go.Proofs.YthkmfboffnhkaaaGreatDoor
