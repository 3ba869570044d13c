/-
  Sets of strings as maps; rows of strings compared.
-/
import Derived.Test.YthkmfboffnhkaaaGreatDoorWF
import Derived.Test.YthkmfboffnhkaaaGreatDoorTZ
set_option linter.all false
namespace Go.Proofs.YthkmfboffnhkaaaGreatDoor
attribute [local simp] agoraref21_Same_R0 agoraref21_Same_R1 agoraref21_Same_R2 agoraref21_Same_R3 agoraref21_Same_R4 agoraref21_Same_R6 agoraref21_Same_R7 agoraref21_Same_B1 agoraref21_Same_R5 agoraref21_Same_W1 agoraref21_Same_B0 agoraref21_Same_R8 agoraref21_Same_L agoraref21_Same_ks
open Go Go.L1 Go.RowKit Go.Maps
set_option maxRecDepth 100000
set_option maxHeartbeats 4000000

/-- A set of strings, as a map's entries. -/
def setC (l : List Str) : List (List C × List C) := l.map fun s => ([C.str s], [C.bool true])
theorem setC_keys (l : List Str) : keysIn .string (setC l) = true := by simp [-getElem?_pos, setC, keysIn, keyIn1, keyIn]
theorem setC_find (x : Str) : ∀ (l : List Str) (i : Nat), (x ∈ l → ∃ j, mfind (.str x) (setC l) i = some (i + j, [C.bool true]) ∧ l[j]? = some x) ∧ (x ∉ l → mfind (.str x) (setC l) i = none)
  | [], i => ⟨fun h => by simp [-getElem?_pos] at h, fun _ => rfl⟩
  | y :: l, i => by
    by_cases h : x = y
    · subst h
      exact ⟨fun _ => ⟨0, by simp [-getElem?_pos, setC, mfind, sameC], rfl⟩, fun h => absurd (List.mem_cons_self ..) h⟩
    · have h2 : sameC (.str x) [.str y] = false := by simpa [-getElem?_pos, sameC] using h
      obtain ⟨k1, k2⟩ := setC_find x l (i + 1)
      have e : mfind (.str x) (setC (y :: l)) i = mfind (.str x) (setC l) (i + 1) := by simp [-getElem?_pos, setC, mfind, h2]
      rw [e]
      refine ⟨fun hm => ?_, fun hm => k2 (fun h3 => hm (List.mem_cons_of_mem _ h3))⟩
      obtain ⟨j, q1, q2⟩ := k1 ((List.mem_cons.1 hm).resolve_left h)
      exact ⟨j + 1, by rw [q1]; congr 2; omega, q2⟩
theorem setC_put (x : Str) (l : List Str) : mput (.str x) [.bool true] (setC l) = setC (if x ∈ l then l else l ++ [x]) := by
  unfold mput
  by_cases h : x ∈ l
  · obtain ⟨j, q1, q2⟩ := (setC_find x l 0).1 h
    rw [q1, if_pos h]
    apply List.ext_getElem?
    intro i
    by_cases hi : i = j
    · subst hi
      simp only [Nat.zero_add]
      rw [List.getElem?_set_self (by simp [-getElem?_pos, setC]; exact lt_of_some q2)]
      simp [-getElem?_pos, setC, q2]
    · simp only [Nat.zero_add]
      rw [List.getElem?_set_ne (Ne.symm hi)]
  · rw [(setC_find x l 0).2 h, if_neg h]; simp [-getElem?_pos, setC]
theorem setC_del (x : Str) (l : List Str) : mdel (.str x) (setC l) = setC (l.eraseP (· == x)) := by
  unfold mdel
  have key : ∀ (l : List Str) (i : Nat), (x ∈ l → ∃ j, mfind (.str x) (setC l) i = some (i + j, [C.bool true]) ∧ l.eraseIdx j = l.eraseP (· == x)) ∧ (x ∉ l → l.eraseP (· == x) = l) := by
    intro l
    induction l with
    | nil => intro i; exact ⟨fun h => by simp [-getElem?_pos] at h, fun _ => rfl⟩
    | cons y l ih =>
      intro i
      by_cases h : x = y
      · subst h
        exact ⟨fun _ => ⟨0, by simp [-getElem?_pos, setC, mfind, sameC], by simp [-getElem?_pos]⟩, fun h => absurd (List.mem_cons_self ..) h⟩
      · have h2 : sameC (.str x) [.str y] = false := by simpa [-getElem?_pos, sameC] using h
        have h3 : (y == x) = false := by simpa [-getElem?_pos] using fun he : y = x => h he.symm
        obtain ⟨k1, k2⟩ := ih (i + 1)
        have e : mfind (.str x) (setC (y :: l)) i = mfind (.str x) (setC l) (i + 1) := by simp [-getElem?_pos, setC, mfind, h2]
        rw [e]
        refine ⟨fun hm => ?_, fun hm => ?_⟩
        · obtain ⟨j, q1, q2⟩ := k1 ((List.mem_cons.1 hm).resolve_left h)
          exact ⟨j + 1, by rw [q1]; congr 2; omega, by rw [List.eraseP_cons, h3]; simp [-getElem?_pos, q2]⟩
        · rw [List.eraseP_cons, h3, k2 (fun h4 => hm (List.mem_cons_of_mem _ h4))]; simp [-getElem?_pos]
  by_cases h : x ∈ l
  · obtain ⟨j, q1, q2⟩ := (key l 0).1 h
    rw [q1, ← q2]
    simp [-getElem?_pos, setC, eraseIdx_map']
  · rw [(setC_find x l 0).2 h, (key l 0).2 h]
theorem eqLg_iff {α : Type} {f : α → α → Bool} (hf : ∀ x y, f x y = true ↔ x = y) {xs ys : List α} : eqL f xs ys = true ↔ xs = ys := by
  induction xs generalizing ys with
  | nil => cases ys <;> simp [-getElem?_pos, eqL]
  | cons x xs ih => cases ys <;> simp [-getElem?_pos, eqL, hf, ih]
def strEq (x y : Str) : Bool := x == y
theorem strEq_iff {x y : Str} : strEq x y = true ↔ x = y := by simp [-getElem?_pos, strEq]
theorem sameS_ok (xs ys : List Str) (hl : xs.length ≤ 1000000000) (s : List SO) : FnOK Tryz.prog GW 34 [.c (texts xs), .c (texts ys)] s (.c (.bool (eqL strEq xs ys))) s := by
  refine agoraref21_Same_F.pu {} (by simp [-getElem?_pos]) rfl ?_
  by_cases hlen : xs.length = ys.length
  · simp [-getElem?_pos, texts, hlen]
    refine loopM_intro (fun m e st => ∃ i : Nat, m = xs.length - i ∧ i ≤ xs.length ∧ st = s ∧ eqL strEq (xs.take i) (ys.take i) = true ∧
      e = [(5, .c (I i)), (0, .c (texts xs)), (1, .c (texts ys))]) xs.length _ ?_ ⟨0, rfl, Nat.zero_le _, rfl, rfl, rfl⟩ ?_
    · simp [-getElem?_pos, texts]
    rintro m e st ⟨i, rfl, hi, rfl, hall, rfl⟩
    by_cases h : i < xs.length
    · obtain ⟨x, hx⟩ := get_of_lt h
      obtain ⟨y, hy⟩ := get_of_lt (hlen ▸ h)
      have hw := wrap_succ h (by omega)
      simp [-getElem?_pos, texts, h, hx, hy, mixed, hw]
      refine ⟨fun h1 => eqL_bad hx hy (by simpa [-getElem?_pos, strEq] using h1), fun h1 => againM_i _ _ ?_ ?_ ⟨i + 1, rfl, h, rfl, ?_, rfl⟩⟩
      · omega
      · simp [-getElem?_pos, texts]
      · rw [eqL_snoc hall hx hy]; simpa [-getElem?_pos, strEq] using h1
    · have he : i = xs.length := by omega
      have h2 : ys.take i = ys := List.take_of_length_le (by omega)
      rw [he, List.take_length, ← he, h2] at hall
      simp [-getElem?_pos, texts, h, hall]
  · have h3 : ¬ (xs.length : Int) = ys.length := by omega
    simp [-getElem?_pos, texts, h3, eqL_len hlen]
end Go.Proofs.YthkmfboffnhkaaaGreatDoor
