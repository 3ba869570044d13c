/-
  Walks: equality of lists.
  Walks: equality of activities.
-/
import Derived.Test.YthkmfboffnhkaaaGreatDoorSP
import Derived.Test.YthkmfboffnhkaaaGreatDoorTA
set_option linter.all false
namespace Go.Proofs.YthkmfboffnhkaaaGreatDoor
attribute [local simp] slices_Equal_Lstring_string_R0 slices_Equal_Lstring_string_R1 slices_Equal_Lstring_string_R2 slices_Equal_Lstring_string_R3 slices_Equal_Lstring_string_R4 slices_Equal_Lstring_string_R5 slices_Equal_Lstring_string_R6 slices_Equal_Lstring_string_R7 slices_Equal_Lstring_string_B1 slices_Equal_Lstring_string_R8 slices_Equal_Lstring_string_W1 slices_Equal_Lstring_string_B0 slices_Equal_Lstring_string_R9 slices_Equal_Lstring_string_L slices_Equal_Lstring_string_ks slices_Equal_Lapi_Wrap_api_Wrap_R0 slices_Equal_Lapi_Wrap_api_Wrap_R1 slices_Equal_Lapi_Wrap_api_Wrap_R2 slices_Equal_Lapi_Wrap_api_Wrap_R3 slices_Equal_Lapi_Wrap_api_Wrap_R4 slices_Equal_Lapi_Wrap_api_Wrap_R5 slices_Equal_Lapi_Wrap_api_Wrap_R6 slices_Equal_Lapi_Wrap_api_Wrap_R7 slices_Equal_Lapi_Wrap_api_Wrap_B1 slices_Equal_Lapi_Wrap_api_Wrap_R8 slices_Equal_Lapi_Wrap_api_Wrap_W1 slices_Equal_Lapi_Wrap_api_Wrap_B0 slices_Equal_Lapi_Wrap_api_Wrap_R9 slices_Equal_Lapi_Wrap_api_Wrap_L slices_Equal_Lapi_Wrap_api_Wrap_ks act_Same_R0 act_Same_R1 act_Same_R2 act_Same_R3 act_Same_L act_Same_ks
open Go Go.L1
set_option maxRecDepth 100000

/-- Lists are equal, element by element. -/
def eqL {α : Type} (f : α → α → Bool) : List α → List α → Bool
  | [], [] => true
  | x :: xs, y :: ys => f x y && eqL f xs ys
  | _, _ => false
theorem eqL_len {α : Type} {f : α → α → Bool} : ∀ {xs ys : List α}, xs.length ≠ ys.length → eqL f xs ys = false
  | [], [], h => absurd rfl h
  | [], _ :: _, _ => rfl
  | _ :: _, [], _ => rfl
  | x :: xs, y :: ys, h => by
    have := eqL_len (f := f) (xs := xs) (ys := ys) (by simpa [-getElem?_pos] using h)
    simp [-getElem?_pos, eqL, this]
theorem eqL_snoc {α : Type} {f : α → α → Bool} : ∀ {xs ys : List α} {i : Nat} {x y : α}, eqL f (xs.take i) (ys.take i) = true → xs[i]? = some x → ys[i]? = some y → eqL f (xs.take (i + 1)) (ys.take (i + 1)) = f x y
  | [], _, _, _, _, _, hx, _ => by simp [-getElem?_pos] at hx
  | _ :: _, [], _, _, _, _, _, hy => by simp [-getElem?_pos] at hy
  | a :: xs, b :: ys, 0, x, y, _, hx, hy => by simp [-getElem?_pos] at hx hy; subst hx hy; simp [-getElem?_pos, eqL]
  | a :: xs, b :: ys, i + 1, x, y, h, hx, hy => by
    simp only [List.take_succ_cons, eqL, Bool.and_eq_true] at h ⊢
    rw [h.1, eqL_snoc h.2 (by simpa [-getElem?_pos] using hx) (by simpa [-getElem?_pos] using hy)]; rfl
theorem eqL_bad {α : Type} {f : α → α → Bool} : ∀ {xs ys : List α} {i : Nat} {x y : α}, xs[i]? = some x → ys[i]? = some y → f x y = false → eqL f xs ys = false
  | [], _, _, _, _, hx, _, _ => by simp [-getElem?_pos] at hx
  | _ :: _, [], _, _, _, _, hy, _ => by simp [-getElem?_pos] at hy
  | a :: xs, b :: ys, 0, x, y, hx, hy, h => by simp [-getElem?_pos] at hx hy; subst hx hy; simp [-getElem?_pos, eqL, h]
  | a :: xs, b :: ys, i + 1, x, y, hx, hy, h => by
    have := eqL_bad (f := f) (xs := xs) (ys := ys) (by simpa [-getElem?_pos] using hx) (by simpa [-getElem?_pos] using hy) h
    simp [-getElem?_pos, eqL, this]

theorem equalTexts_ok (xs ys : List (List UInt8)) (hl : xs.length ≤ 1073741824) (s : List SO) : FnOK Tryz.prog GW 69 [.c (texts xs), .c (texts ys)] s (.c (.bool (eqL (· == ·) xs ys))) s := by
  refine slices_Equal_Lstring_string_F.pu {} (by simp [-getElem?_pos]) rfl ?_
  by_cases hlen : xs.length = ys.length
  · simp [-getElem?_pos, texts, hlen]
    refine loopM_intro (fun m e st => ∃ i : Nat, m = xs.length - i ∧ i ≤ xs.length ∧ st = s ∧ eqL (· == ·) (xs.take i) (ys.take i) = true ∧
      e = [(13, .c (I i)), (12, .c (I xs.length)), (0, .c (texts xs)), (1, .c (texts ys))]) xs.length _ ?_ ⟨0, rfl, Nat.zero_le _, rfl, rfl, rfl⟩ ?_
    · simp [-getElem?_pos, texts, hlen]
    rintro m e st ⟨i, rfl, hi, rfl, hall, rfl⟩
    by_cases h : i < xs.length
    · obtain ⟨x, hx⟩ := get_of_lt h
      obtain ⟨y, hy⟩ := get_of_lt (hlen ▸ h)
      have hw := wrap_succ h (by omega)
      simp [-getElem?_pos, texts, h, hx, hy, mixed, hw]
      refine ⟨fun h1 => eqL_bad hx hy (by simpa [-getElem?_pos] using h1), fun h1 => againM_i _ _ ?_ ?_ ⟨i + 1, rfl, h, rfl, ?_, rfl⟩⟩
      · omega
      · simp [-getElem?_pos, texts]
      · rw [eqL_snoc hall hx hy]; simpa [-getElem?_pos] using h1
    · have he : i = xs.length := by omega
      have h2 : ys.take i = ys := List.take_of_length_le (by omega)
      rw [he, List.take_length, ← he, h2] at hall
      simp [-getElem?_pos, h, hall]
  · have h3 : ¬ (xs.length : Int) = ys.length := by omega
    simp [-getElem?_pos, texts, h3, eqL_len hlen]

def wrapsC (l : List Wrap) : C := .sl (l.map Wrap.cells)
def wrapEq (x y : Wrap) : Bool := (x.to == y.to) && ((x.eph == y.eph) && ((x.box.nonce == y.box.nonce) && ((x.box.data == y.box.data) && (x.box.tag == y.box.tag))))
theorem equalWraps_ok (xs ys : List Wrap) (hl : xs.length ≤ 1073741824) (s : List SO) : FnOK Tryz.prog GW 246 [.c (wrapsC xs), .c (wrapsC ys)] s (.c (.bool (eqL wrapEq xs ys))) s := by
  refine slices_Equal_Lapi_Wrap_api_Wrap_F.pu {} (by simp [-getElem?_pos]) rfl ?_
  by_cases hlen : xs.length = ys.length
  · simp [-getElem?_pos, wrapsC, hlen]
    refine loopM_intro (fun m e st => ∃ i : Nat, m = xs.length - i ∧ i ≤ xs.length ∧ st = s ∧ eqL wrapEq (xs.take i) (ys.take i) = true ∧
      e = [(13, .c (I i)), (12, .c (I xs.length)), (0, .c (wrapsC xs)), (1, .c (wrapsC ys))]) xs.length _ ?_ ⟨0, rfl, Nat.zero_le _, rfl, rfl, rfl⟩ ?_
    · simp [-getElem?_pos, wrapsC, hlen]
    rintro m e st ⟨i, rfl, hi, rfl, hall, rfl⟩
    by_cases h : i < xs.length
    · obtain ⟨x, hx⟩ := get_of_lt h
      obtain ⟨y, hy⟩ := get_of_lt (hlen ▸ h)
      have hw := wrap_succ h (by omega)
      simp [-getElem?_pos, wrapsC, h, hx, hy, mixed, hw, Wrap.cells]
      refine ⟨fun h1 => eqL_bad hx hy ?_, fun h1 h2 h3 h4 h5 => againM_i _ _ ?_ ?_ ⟨i + 1, rfl, h, rfl, ?_, rfl⟩⟩
      · rw [Bool.eq_false_iff]; intro ht; simp [-getElem?_pos, wrapEq] at ht; simp_all
      · omega
      · simp [-getElem?_pos, wrapsC]
      · rw [eqL_snoc hall hx hy]; simp [-getElem?_pos, wrapEq, h1, h2, h3, h4, h5]
    · have he : i = xs.length := by omega
      have h2 : ys.take i = ys := List.take_of_length_le (by omega)
      rw [he, List.take_length, ← he, h2] at hall
      simp [-getElem?_pos, h, hall]
  · have h3 : ¬ (xs.length : Int) = ys.length := by omega
    simp [-getElem?_pos, wrapsC, h3, eqL_len hlen]
end Go.Proofs.YthkmfboffnhkaaaGreatDoor
namespace Go.Proofs.YthkmfboffnhkaaaGreatDoor
attribute [local simp] slices_Equal_Lstring_string_R0 slices_Equal_Lstring_string_R1 slices_Equal_Lstring_string_R2 slices_Equal_Lstring_string_R3 slices_Equal_Lstring_string_R4 slices_Equal_Lstring_string_R5 slices_Equal_Lstring_string_R6 slices_Equal_Lstring_string_R7 slices_Equal_Lstring_string_B1 slices_Equal_Lstring_string_R8 slices_Equal_Lstring_string_W1 slices_Equal_Lstring_string_B0 slices_Equal_Lstring_string_R9 slices_Equal_Lstring_string_L slices_Equal_Lstring_string_ks slices_Equal_Lapi_Wrap_api_Wrap_R0 slices_Equal_Lapi_Wrap_api_Wrap_R1 slices_Equal_Lapi_Wrap_api_Wrap_R2 slices_Equal_Lapi_Wrap_api_Wrap_R3 slices_Equal_Lapi_Wrap_api_Wrap_R4 slices_Equal_Lapi_Wrap_api_Wrap_R5 slices_Equal_Lapi_Wrap_api_Wrap_R6 slices_Equal_Lapi_Wrap_api_Wrap_R7 slices_Equal_Lapi_Wrap_api_Wrap_B1 slices_Equal_Lapi_Wrap_api_Wrap_R8 slices_Equal_Lapi_Wrap_api_Wrap_W1 slices_Equal_Lapi_Wrap_api_Wrap_B0 slices_Equal_Lapi_Wrap_api_Wrap_R9 slices_Equal_Lapi_Wrap_api_Wrap_L slices_Equal_Lapi_Wrap_api_Wrap_ks act_Same_R0 act_Same_R1 act_Same_R2 act_Same_R3 act_Same_L act_Same_ks
open Go Go.L1
set_option maxRecDepth 100000
set_option maxHeartbeats 4000000

def sameRest (a b : Act) : Bool :=
  (a.author == b.author) && (a.seq == b.seq) && (a.prev == b.prev) && (a.kind == b.kind) && (a.time == b.time) && (a.object == b.object) && (a.target == b.target) && (a.scope == b.scope) &&
    (a.group == b.group) && (a.text == b.text) && ((a.body.nonce == b.body.nonce) && ((a.body.data == b.body.data) && (a.body.tag == b.body.tag))) && (a.epoch == b.epoch) && (a.n == b.n) && (a.m == b.m) &&
    ((a.sigE == b.sigE) && (a.sigS == b.sigS))
def sameS (a b : Act) : Bool := eqL (· == ·) a.to b.to && eqL wrapEq a.wraps b.wraps && sameRest a b
theorem same_ok (a b : Act) (h1 : a.to.length ≤ 1073741824) (h2 : a.wraps.length ≤ 1073741824) (s : List SO) : FnOK Tryz.prog GW 227 [agg a.cells, agg b.cells] s (.c (.bool (sameS a b))) s := by
  refine act_Same_F.pu {} (by simp [-getElem?_pos]) rfl ?_
  simp (config := { maxSteps := 10000000 }) [-getElem?_pos, agg, Act.cells]
  refine callW0 (equalTexts_ok a.to b.to h1) rfl ?_
  simp (config := { maxSteps := 10000000 }) [-getElem?_pos]
  refine exY_i (!eqL wrapEq a.wraps b.wraps) ⟨fun _ => callW0 (equalWraps_ok a.wraps b.wraps h2) rfl (by simp [-getElem?_pos]), fun h => ?_, fun h3 h4 => ?_⟩
  · rw [Bool.eq_false_iff]; intro ht
    simp only [sameS, Bool.and_eq_true] at ht
    simp_all
  have hs : sameS a b = sameRest a b := by simp only [sameS]; simp_all
  rw [hs]
  repeat' first
    | rfl
    | (intros; rfl)
    | apply exY_and
    | intro _
end Go.Proofs.YthkmfboffnhkaaaGreatDoor
