/-
  Walks: facts that the laws of the lists share.
-/
import Derived.Test.YthkmfboffnhkaaaGreatDoorW22
set_option linter.all false
namespace Go.Proofs.YthkmfboffnhkaaaGreatDoor
open Go Go.L1
set_option maxRecDepth 100000
set_option maxHeartbeats 4000000

theorem hasS_mem {E : Entry → Prop} {now : Int} {l : List Listing} (h : OutOK now E l) {x : Listing} (hx : x ∈ l) : hasS l x.actor = some x := by
  unfold hasS
  cases hf : l.find? (fun y => y.actor == x.actor) with
  | none =>
    have := List.find?_eq_none.1 hf x hx
    simp [-getElem?_pos] at this
  | some y =>
    have h1 := List.mem_of_find?_eq_some hf
    have h2 := List.find?_some hf
    simp [-getElem?_pos] at h2
    rw [h.one h1 hx h2]
theorem hasS_no {l : List Listing} {a : Str} (h : ∀ y ∈ l, y.actor ≠ a) : hasS l a = none := by
  unfold hasS
  rw [List.find?_eq_none]
  intro y hy
  simpa [-getElem?_pos] using h y hy
theorem len_le_of_mem {α : Type} : ∀ {l m : List α}, l.Nodup → (∀ x ∈ l, x ∈ m) → l.length ≤ m.length
  | [], _, _, _ => Nat.zero_le _
  | a :: l, m, hn, hs => by
    have ha := hs a (List.mem_cons_self ..)
    obtain ⟨p, q, rfl⟩ := List.append_of_mem ha
    have hn' := List.nodup_cons.1 hn
    have := len_le_of_mem (l := l) (m := p ++ q) hn'.2 fun x hx => by
      have h1 := hs x (List.mem_cons_of_mem _ hx)
      have h2 : x ≠ a := fun h => hn'.1 (h ▸ hx)
      simp [-getElem?_pos] at h1 ⊢
      rcases h1 with h1 | h1 | h1
      · exact .inl h1
      · exact absurd h1 h2
      · exact .inr h1
    simp [-getElem?_pos] at this ⊢; omega
theorem OutOK.nodup {E : Entry → Prop} {now : Int} {l : List Listing} (h : OutOK now E l) : l.Nodup := by
  refine h.asc.imp ?_
  intro a b hab he
  rw [he] at hab
  exact slt_irrefl _ hab
theorem ofS_len (cs : List Chain) (ks : List Str) (now : Int) (h : ∀ k ∈ ks, (findC cs k).acts.length ≤ 1000) : (ofS digestS cs ks now).length ≤ 1000 * ks.length := by
  refine Nat.le_trans ?_ (allS_len digestS cs ks h)
  unfold ofS outS
  rw [List.length_map, (sorted_perm _).length_eq, List.length_map]
  exact bestS_len now _
theorem few_acts {cs : List Chain} (h : fewS cs = true) (k : Str) : (findC cs k).acts.length ≤ 1000 := by
  unfold findC findS
  cases hf : cs.find? (fun x => x.id == k) with
  | none => simp [-getElem?_pos, noChain]
  | some c =>
    have hm := List.mem_of_find?_eq_some hf
    simp only [fewS, Bool.and_eq_true, List.all_eq_true] at h
    have := h.2 c hm
    simp only [chainFew, Bool.and_eq_true, decide_eq_true_eq] at this
    simp only [Option.getD_some]; omega
def FitsAll (cs : List Chain) : Prop := ∀ c ∈ cs, ∀ a ∈ c.acts, a.Fits
theorem fits_find {cs : List Chain} (h : FitsAll cs) (k : Str) : ∀ a ∈ (findC cs k).acts, a.Fits := by
  unfold findC findS
  cases hf : cs.find? (fun x => x.id == k) with
  | none => simp [-getElem?_pos, noChain]
  | some c => exact h c (List.mem_of_find?_eq_some hf)
theorem few_cs {cs : List Chain} (h : fewS cs = true) : cs.length ≤ 6 := by
  simp only [fewS, Bool.and_eq_true, decide_eq_true_eq] at h; exact h.1
theorem lof_ok {cs : List Chain} (hf : FitsAll cs) (hw : fewS cs = true) (ks : List Str) (now : Int) (hks : ks.length ≤ 1000000) (s : List SO) :
    FnOK Tryz.prog GW 17 [chains cs, .c (texts ks), .c (.int .i64 now)] s (listings (ofS digestS cs ks now)) s :=
  of_ok cs ks now (by have := few_cs hw; omega) (fun k _ => fits_find hf k) (fun k _ => few_acts hw k) hks s
end Go.Proofs.YthkmfboffnhkaaaGreatDoor
