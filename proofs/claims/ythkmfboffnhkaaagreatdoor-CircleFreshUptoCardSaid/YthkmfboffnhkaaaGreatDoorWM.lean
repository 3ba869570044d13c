/-
  Walks: labels.
-/
import Derived.Test.YthkmfboffnhkaaaGreatDoorWJ
import Derived.Test.YthkmfboffnhkaaaGreatDoorWV
import Derived.Test.YthkmfboffnhkaaaGreatDoorTM
set_option linter.all false
namespace Go.Proofs
open Go.RowKit Go.Maps Go.Sort Go.Shelf
def Tryz.keysM_ren : Go.Shelf.Ren := ⟨fun | 7 => 65 | 10 => 105 | n => n, fun | 23 => 116 | 26 => 9 | 3 => 3 | 28 => 109 | 0 => 0 | 27 => 108 | 33 => 131 | 4 => 4 | n => n, fun | n => n⟩
theorem Tryz.keysM : Go.Proofs.SlLaysZ.n7 Tryz.prog Tryz.keysM_ren := {
  mixed := by kernel_rfl,
  f7 := ⟨Tryz.f65.name, by decide, Tryz.func65.trans (congrArg some (by kernel_rfl))⟩,
  f10 := ⟨Tryz.f105.name, by decide, Tryz.func105.trans (congrArg some (by kernel_rfl))⟩,
  t0 := Tryz.underlying0,
  a0 := Tryz.isAgg0,
  z0 := Tryz.sizeOf0,
  v0 := Tryz.zeroValue0,
  t4 := Tryz.underlying4,
  a4 := Tryz.isAgg4,
  z4 := Tryz.sizeOf4,
  v4 := Tryz.zeroValue4,
  t23 := Tryz.underlying116,
  a23 := Tryz.isAgg116,
  z23 := Tryz.sizeOf116,
  v23 := Tryz.zeroValue116,
  t26 := Tryz.underlying9,
  a26 := Tryz.isAgg9,
  z26 := Tryz.sizeOf9,
  v26 := Tryz.zeroValue9,
  t27 := Tryz.underlying108,
  a27 := Tryz.isAgg108,
  z27 := Tryz.sizeOf108,
  v27 := Tryz.zeroValue108,
  t28 := Tryz.underlying109,
  a28 := Tryz.isAgg109,
  z28 := Tryz.sizeOf109,
  v28 := Tryz.zeroValue109,
  t33 := Tryz.underlying131,
  a33 := Tryz.isAgg131,
  z33 := Tryz.sizeOf131,
  v33 := Tryz.zeroValue131 }
theorem Tryz.keysM_in (mb : Option Nat) (w : World) : Calls Tryz.prog 65 #[.map mb] w fun e w' => e = .returned (.func (.func 105) #[] #[.pointer (some ⟨w.heap.size, 0, none⟩)]) ∧ ∃ T, w' = w.alloc (.cells #[.map mb] T) := by
  refine ((callsIn_wide (n := 5)).1 (AnyZ.keys_in Tryz.keysM Fence.wide 5 trivial rfl mb w)).mono ?_
  rintro e w' ⟨rfl, rfl⟩
  exact ⟨rfl, _, rfl⟩
end Go.Proofs
namespace Go.Proofs.YthkmfboffnhkaaaGreatDoor
attribute [local simp] agoraref34_Same_R0 agoraref34_Same_R1 agoraref34_Same_R2 agoraref34_Same_R3 agoraref34_Same_R4 agoraref34_Same_R6 agoraref34_Same_R7 agoraref34_Same_B1 agoraref34_Same_R5 agoraref34_Same_W1 agoraref34_Same_B0 agoraref34_Same_R8 agoraref34_Same_L agoraref34_Same_ks agoraref21_Same_R0 agoraref21_Same_R1 agoraref21_Same_R2 agoraref21_Same_R3 agoraref21_Same_R4 agoraref21_Same_R6 agoraref21_Same_R7 agoraref21_Same_B1 agoraref21_Same_R5 agoraref21_Same_W1 agoraref21_Same_B0 agoraref21_Same_R8 agoraref21_Same_L agoraref21_Same_ks maps_Values_map_int_string_int_string_R0 maps_Values_map_int_string_int_string_R1 maps_Values_map_int_string_int_string_L maps_Values_map_int_string_int_string_ks label_Valid_R0 label_Valid_R1 label_Valid_R2 label_Valid_R3 label_Valid_R4 label_Valid_R5 label_Valid_R6 label_Valid_R7 label_Valid_R8 label_Valid_R9 label_Valid_R10 label_Valid_R11 label_Valid_R12 label_Valid_R13 label_Valid_R14 label_Valid_R15 label_Valid_B2 label_Valid_B1 label_Valid_R16 label_Valid_W1 label_Valid_B0 label_Valid_R17 label_Valid_L label_Valid_ks
open Go Go.L1 Go.RowKit Go.Maps
set_option maxRecDepth 100000
set_option maxHeartbeats 4000000

/-! ### Maps by strings -/
/-- A set of strings, as a map's entries. -/
def setC (l : List Str) : List (List C × List C) := l.map fun s => ([C.str s], [C.bool true])
theorem setC_keys (l : List Str) : keysIn .string (setC l) = true := by simp [-getElem?_pos, setC, keysIn, keyIn1, keyIn]
theorem setC_find (x : Str) : ∀ (l : List Str) (i : Nat), (x ∈ l → ∃ j, mfind (.str x) (setC l) i = some (i + j, [C.bool true]) ∧ l[j]? = some x) ∧ (x ∉ l → mfind (.str x) (setC l) i = none)
  | [], i => ⟨fun h => by simp [-getElem?_pos] at h, fun _ => rfl⟩
  | y :: l, i => by
    by_cases h : x = y
    · subst h
      exact ⟨fun _ => ⟨0, by simp [-getElem?_pos, setC, mfind, sameC], rfl⟩, fun h => absurd (List.mem_cons_self ..) h⟩
    · have h2 : sameC (.str x) [.str y] = false := by simpa [-getElem?_pos, sameC] using h
      obtain ⟨k1, k2⟩ := setC_find x l (i + 1)
      have e : mfind (.str x) (setC (y :: l)) i = mfind (.str x) (setC l) (i + 1) := by simp [-getElem?_pos, setC, mfind, h2]
      rw [e]
      refine ⟨fun hm => ?_, fun hm => k2 (fun h3 => hm (List.mem_cons_of_mem _ h3))⟩
      obtain ⟨j, q1, q2⟩ := k1 ((List.mem_cons.1 hm).resolve_left h)
      exact ⟨j + 1, by rw [q1]; congr 2; omega, q2⟩
theorem setC_put (x : Str) (l : List Str) : mput (.str x) [.bool true] (setC l) = setC (if x ∈ l then l else l ++ [x]) := by
  unfold mput
  by_cases h : x ∈ l
  · obtain ⟨j, q1, q2⟩ := (setC_find x l 0).1 h
    rw [q1, if_pos h]
    apply List.ext_getElem?
    intro i
    by_cases hi : i = j
    · subst hi
      simp only [Nat.zero_add]
      rw [List.getElem?_set_self (by simp [-getElem?_pos, setC]; exact lt_of_some q2)]
      simp [-getElem?_pos, setC, q2]
    · simp only [Nat.zero_add]
      rw [List.getElem?_set_ne (Ne.symm hi)]
  · rw [(setC_find x l 0).2 h, if_neg h]; simp [-getElem?_pos, setC]
theorem setC_del (x : Str) (l : List Str) : mdel (.str x) (setC l) = setC (l.eraseP (· == x)) := by
  unfold mdel
  have key : ∀ (l : List Str) (i : Nat), (x ∈ l → ∃ j, mfind (.str x) (setC l) i = some (i + j, [C.bool true]) ∧ l.eraseIdx j = l.eraseP (· == x)) ∧ (x ∉ l → l.eraseP (· == x) = l) := by
    intro l
    induction l with
    | nil => intro i; exact ⟨fun h => by simp [-getElem?_pos] at h, fun _ => rfl⟩
    | cons y l ih =>
      intro i
      by_cases h : x = y
      · subst h
        exact ⟨fun _ => ⟨0, by simp [-getElem?_pos, setC, mfind, sameC], by simp [-getElem?_pos]⟩, fun h => absurd (List.mem_cons_self ..) h⟩
      · have h2 : sameC (.str x) [.str y] = false := by simpa [-getElem?_pos, sameC] using h
        have h3 : (y == x) = false := by simpa [-getElem?_pos] using fun he : y = x => h he.symm
        obtain ⟨k1, k2⟩ := ih (i + 1)
        have e : mfind (.str x) (setC (y :: l)) i = mfind (.str x) (setC l) (i + 1) := by simp [-getElem?_pos, setC, mfind, h2]
        rw [e]
        refine ⟨fun hm => ?_, fun hm => ?_⟩
        · obtain ⟨j, q1, q2⟩ := k1 ((List.mem_cons.1 hm).resolve_left h)
          exact ⟨j + 1, by rw [q1]; congr 2; omega, by rw [List.eraseP_cons, h3]; simp [-getElem?_pos, q2]⟩
        · rw [List.eraseP_cons, h3, k2 (fun h4 => hm (List.mem_cons_of_mem _ h4))]; simp [-getElem?_pos]
  by_cases h : x ∈ l
  · obtain ⟨j, q1, q2⟩ := (key l 0).1 h
    rw [q1, ← q2]
    simp [-getElem?_pos, setC, eraseIdx_map']
  · rw [(setC_find x l 0).2 h, (key l 0).2 h]
/-- Numbers by strings. -/
def cntC (m : List (Str × Nat)) : List (List C × List C) := m.map fun p => ([C.str p.1], [I p.2])
theorem cntC_keys (m : List (Str × Nat)) : keysIn .string (cntC m) = true := by simp [-getElem?_pos, cntC, keysIn, keyIn1, keyIn]
theorem cntC_find (k : Str) : ∀ (m : List (Str × Nat)) (i : Nat), (k ∈ m.map (·.1) → ∃ j, mfind (.str k) (cntC m) i = some (i + j, [I (getM k m)]) ∧ ∀ v : Nat, v = getM k m + 1 → (cntC m).set j ([C.str k], [I v]) = cntC (incM k m)) ∧
    (k ∉ m.map (·.1) → mfind (.str k) (cntC m) i = none ∧ getM k m = 0 ∧ incM k m = m ++ [(k, 1)])
  | [], i => ⟨fun h => by simp [-getElem?_pos] at h, fun _ => ⟨rfl, rfl, rfl⟩⟩
  | p :: m, i => by
    by_cases h : p.1 = k
    · refine ⟨fun _ => ⟨0, by simp [-getElem?_pos, cntC, mfind, sameC, h, getM], fun v hv => ?_⟩, fun hn => absurd (by simp [-getElem?_pos, h]) hn⟩
      subst hv
      simp [-getElem?_pos, cntC, incM, h, getM]
    · have h2 : sameC (.str k) [.str p.1] = false := by simpa [-getElem?_pos, sameC] using fun he : k = p.1 => h he.symm
      obtain ⟨k1, k2⟩ := cntC_find k m (i + 1)
      have e : mfind (.str k) (cntC (p :: m)) i = mfind (.str k) (cntC m) (i + 1) := by simp [-getElem?_pos, cntC, mfind, h2]
      have g : getM k (p :: m) = getM k m := by simp [-getElem?_pos, getM, h]
      rw [e, g]
      refine ⟨fun hm => ?_, fun hm => ?_⟩
      · have hm' : k ∈ m.map (·.1) := by
          simp only [List.map_cons, List.mem_cons] at hm
          exact hm.resolve_left fun he => h he.symm
        obtain ⟨j, q1, q2⟩ := k1 hm'
        refine ⟨j + 1, by rw [q1]; congr 2; omega, fun v hv => ?_⟩
        have := q2 v hv
        simp only [cntC] at this ⊢
        simp [-getElem?_pos, incM, h, this]
      · have hm' : k ∉ m.map (·.1) := fun h3 => hm (by simp only [List.map_cons, List.mem_cons]; exact .inr h3)
        obtain ⟨q1, q2, q3⟩ := k2 hm'
        exact ⟨q1, q2, by simp [-getElem?_pos, incM, h, q3]⟩
theorem cntC_put {k : Str} {m : List (Str × Nat)} {v : Nat} (hv : v = getM k m + 1) : mput (.str k) [I v] (cntC m) = cntC (incM k m) := by
  unfold mput
  by_cases h : k ∈ m.map (·.1)
  · obtain ⟨j, q1, q2⟩ := (cntC_find k m 0).1 h
    rw [q1]
    simpa [-getElem?_pos] using q2 v hv
  · obtain ⟨q1, q2, q3⟩ := (cntC_find k m 0).2 h
    rw [q1, q3, hv, q2]; simp [-getElem?_pos, cntC]

/-! ### Lists, element by element -/
def Cnt.cells (c : Cnt) : List C := [.str c.name, I c.n]
def counts (l : List Cnt) : C := .sl (l.map Cnt.cells)
def cntEq (x y : Cnt) : Bool := (x.name == y.name) && (x.n == y.n)
theorem cntEq_iff {x y : Cnt} : cntEq x y = true ↔ x = y := by
  obtain ⟨a, b⟩ := x
  obtain ⟨a', b'⟩ := y
  simp [-getElem?_pos, cntEq]
theorem eqLg_iff {α : Type} {f : α → α → Bool} (hf : ∀ x y, f x y = true ↔ x = y) {xs ys : List α} : eqL f xs ys = true ↔ xs = ys := by
  induction xs generalizing ys with
  | nil => cases ys <;> simp [-getElem?_pos, eqL]
  | cons x xs ih => cases ys <;> simp [-getElem?_pos, eqL, hf, ih]
theorem sameC_ok (xs ys : List Cnt) (hl : xs.length ≤ 1000000000) (s : List SO) : FnOK Tryz.prog GW 25 [.c (counts xs), .c (counts ys)] s (.c (.bool (eqL cntEq xs ys))) s := by
  refine agoraref34_Same_F.pu {} (by simp [-getElem?_pos]) rfl ?_
  by_cases hlen : xs.length = ys.length
  · simp [-getElem?_pos, counts, hlen]
    refine loopM_intro (fun m e st => ∃ i : Nat, m = xs.length - i ∧ i ≤ xs.length ∧ st = s ∧ eqL cntEq (xs.take i) (ys.take i) = true ∧
      e = [(5, .c (I i)), (0, .c (counts xs)), (1, .c (counts ys))]) xs.length _ ?_ ⟨0, rfl, Nat.zero_le _, rfl, rfl, rfl⟩ ?_
    · simp [-getElem?_pos, counts]
    rintro m e st ⟨i, rfl, hi, rfl, hall, rfl⟩
    by_cases h : i < xs.length
    · obtain ⟨x, hx⟩ := get_of_lt h
      obtain ⟨y, hy⟩ := get_of_lt (hlen ▸ h)
      have hw := wrap_succ h (by omega)
      simp [-getElem?_pos, counts, h, hx, hy, mixed, hw, Cnt.cells]
      refine ⟨fun h1 => eqL_bad hx hy ?_, fun h1 h2 => againM_i _ _ ?_ ?_ ⟨i + 1, rfl, h, rfl, ?_, rfl⟩⟩
      · rw [Bool.eq_false_iff]; intro ht; rw [cntEq_iff] at ht; subst ht; simp [-getElem?_pos] at h1
      · omega
      · simp [-getElem?_pos, counts]
      · rw [eqL_snoc hall hx hy]; simp only [cntEq, h1]; simp [-getElem?_pos]; omega
    · have he : i = xs.length := by omega
      have h2 : ys.take i = ys := List.take_of_length_le (by omega)
      rw [he, List.take_length, ← he, h2] at hall
      simp [-getElem?_pos, counts, h, hall]
  · have h3 : ¬ (xs.length : Int) = ys.length := by omega
    simp [-getElem?_pos, counts, h3, eqL_len hlen]
def strEq (x y : Str) : Bool := x == y
theorem strEq_iff {x y : Str} : strEq x y = true ↔ x = y := by simp [-getElem?_pos, strEq]
theorem sameS_ok (xs ys : List Str) (hl : xs.length ≤ 1000000000) (s : List SO) : FnOK Tryz.prog GW 34 [.c (texts xs), .c (texts ys)] s (.c (.bool (eqL strEq xs ys))) s := by
  refine agoraref21_Same_F.pu {} (by simp [-getElem?_pos]) rfl ?_
  by_cases hlen : xs.length = ys.length
  · simp [-getElem?_pos, texts, hlen]
    refine loopM_intro (fun m e st => ∃ i : Nat, m = xs.length - i ∧ i ≤ xs.length ∧ st = s ∧ eqL strEq (xs.take i) (ys.take i) = true ∧
      e = [(5, .c (I i)), (0, .c (texts xs)), (1, .c (texts ys))]) xs.length _ ?_ ⟨0, rfl, Nat.zero_le _, rfl, rfl, rfl⟩ ?_
    · simp [-getElem?_pos, texts]
    rintro m e st ⟨i, rfl, hi, rfl, hall, rfl⟩
    by_cases h : i < xs.length
    · obtain ⟨x, hx⟩ := get_of_lt h
      obtain ⟨y, hy⟩ := get_of_lt (hlen ▸ h)
      have hw := wrap_succ h (by omega)
      simp [-getElem?_pos, texts, h, hx, hy, mixed, hw]
      refine ⟨fun h1 => eqL_bad hx hy (by simpa [-getElem?_pos, strEq] using h1), fun h1 => againM_i _ _ ?_ ?_ ⟨i + 1, rfl, h, rfl, ?_, rfl⟩⟩
      · omega
      · simp [-getElem?_pos, texts]
      · rw [eqL_snoc hall hx hy]; simpa [-getElem?_pos, strEq] using h1
    · have he : i = xs.length := by omega
      have h2 : ys.take i = ys := List.take_of_length_le (by omega)
      rw [he, List.take_length, ← he, h2] at hall
      simp [-getElem?_pos, texts, h, hall]
  · have h3 : ¬ (xs.length : Int) = ys.length := by omega
    simp [-getElem?_pos, texts, h3, eqL_len hlen]

/-! ### label.Valid -/
theorem values_ok (m : List (Nat × Str)) {st : List SO} {id : Nat} (hm : st[id]? = some (.map false false (givC m))) : FnOK Tryz.prog GW 67 [.mref id] st (.clo 106 [.ptr st.length 0]) (st ++ [.box [.mref id]]) := by
  refine maps_Values_map_int_string_int_string_F.full { esc := [1] } (by simp [-getElem?_pos]) fun hst => ?_
  simp [-getElem?_pos]
  refine endsX_i (by simp [-getElem?_pos]) (stOk_snoc hst fun v hv => ?_) ?_ (by simp [-getElem?_pos])
  · simp [-getElem?_pos] at hv; subst hv; exact .mref _ (by have := lt_of_some hm; omega)
  · exact .clo _ _ fun v hv => by simp [-getElem?_pos] at hv; subst hv; exact .ptr _ _ (by simp [-getElem?_pos])
theorem givC_keys (m : List (Nat × Str)) : keysIn (.int .i64) (givC m) = true := by simp [-getElem?_pos, givC, keysIn, keyIn1, keyIn]
theorem mfind_giv (k : Nat) : ∀ (m : List (Nat × Str)) (i : Nat), mfind (I k) (givC m) i = ((m.findIdx? fun p => p.1 == k).bind fun j => (m[j]?).map fun p => (i + j, [C.str p.2]))
  | [], i => by simp [-getElem?_pos, givC, mfind]
  | p :: r, i => by
    have ih := mfind_giv k r (i + 1)
    simp only [givC, List.map_cons, mfind, List.findIdx?_cons]
    by_cases h : p.1 = k
    · simp [-getElem?_pos, h, sameC]
    · have h1 : sameC (I k) [I p.1] = false := by simp [-getElem?_pos, sameC]; omega
      have h2 : (p.1 == k) = false := by simpa [-getElem?_pos] using h
      simp only [h1, h2, Bool.false_eq_true, if_false]
      rw [show (r.map fun p => ([I p.1], [C.str p.2])) = givC r from rfl, ih]
      cases r.findIdx? (fun p => p.1 == k) <;> simp [-getElem?_pos]
      next j => cases r[j]? <;> simp [-getElem?_pos]; omega
theorem mdel_giv (k : Nat) (m : List (Nat × Str)) : mdel (I k) (givC m) = givC (m.eraseP fun p => p.1 == k) := by
  unfold mdel
  rw [mfind_giv, List.eraseP_eq_eraseIdx]
  cases hf : m.findIdx? (fun p => p.1 == k) with
  | none => simp [-getElem?_pos]
  | some j =>
    obtain ⟨hlt, _⟩ := List.findIdx?_eq_some_iff_getElem.1 hf
    simp [-getElem?_pos, List.getElem?_eq_getElem hlt, givC, eraseIdx_map']
theorem mput_giv {k : Nat} {m : List (Nat × Str)} (e : Str) (h : ∀ p ∈ m, p.1 < k) : mput (I k) [C.str e] (givC m) = givC (m ++ [(k, e)]) := by
  unfold mput
  rw [mfind_giv]
  have : m.findIdx? (fun p => p.1 == k) = none := by
    rw [List.findIdx?_eq_none_iff]
    intro p hp
    have := h p hp
    simp [-getElem?_pos]; omega
  simp [-getElem?_pos, this, givC]
theorem placeN_keys {α : Type} {dg : Act → Str} {acts : List Act} {sel : Act → Option α} : ∀ n, ((placeN dg acts sel n).map (·.1)).Pairwise (· < ·)
  | 0 => by simp [-getElem?_pos, placeN]
  | n + 1 => by
    have ih := placeN_keys (dg := dg) (acts := acts) (sel := sel) n
    simp only [placeN]
    cases ha : acts[n]? with
    | none => exact ih
    | some a =>
      simp only [stepP]
      split
      · rw [List.map_append, List.pairwise_append]
        refine ⟨ih, by simp [-getElem?_pos], fun x hx y hy => ?_⟩
        obtain ⟨p, hp, rfl⟩ := List.mem_map.1 hx
        simp [-getElem?_pos] at hy
        subst hy
        exact (placeN_mem _ p hp).1
      · split
        · split
          · split
            · exact ih.sublist (List.eraseP_sublist.map _)
            · exact ih
          · exact ih
        · exact ih
theorem valid_ok (cs : List Chain) (b t : Str) (hcs : cs.length ≤ 1000000000) (hc : ∀ a ∈ (findC cs b).acts, a.Fits) (hl : (findC cs b).acts.length ≤ 1000000000) (s : List SO) :
    FnOK Tryz.prog GW 26 [chains cs, .c (.str b), .c (.str t)] s (.c (texts (validS digestS cs b t))) s := by
  refine label_Valid_F.pu { frz := [(999, [6])] } (by simp [-getElem?_pos]) rfl ?_
  simp [-getElem?_pos, List.lookup, mixed, chains]
  refine callW0 (res := findR cs b) (find_ok cs (by omega) b) rfl ?_
  have hno : (findS cs b).isSome = false → (findC cs b).acts = [] := fun h => by
    unfold findC
    cases hq : findS cs b with
    | none => rfl
    | some c => rw [hq] at h; cases h
  have hsp : validS digestS cs b t = if t = [] then [] else validA digestS (findC cs b).acts t := rfl
  simp only [findR]
  generalize (findS cs b).isSome = ok at hno ⊢
  generalize findC cs b = cc at hc hl hno hsp ⊢
  simp [-getElem?_pos, List.lookup, mixed, agg, Chain.cells]
  refine exY_i (t == []) ⟨fun _ => by first | rfl | simp [-getElem?_pos], fun h => ?_, fun hok ht => ?_⟩
  · rw [hsp]
    rcases h with h | h
    · rw [hno h]
      split <;> simp [-getElem?_pos, texts, validA, givenN, placeN, ascS, sorted, dedupA]
    · rw [if_pos (by simpa [-getElem?_pos] using h)]; rfl
  have ht' : ¬ t = [] := by simpa [-getElem?_pos] using ht
  rw [if_neg ht'] at hsp
  refine loopM_intro (fun m e st => ∃ i : Nat, m = cc.acts.length - i ∧ i ≤ cc.acts.length ∧ st = s ++ [.map false false (givC (givenN digestS cc.acts t i))] ∧
    e = [(30, .c (I i)), (29, .c (I cc.acts.length)), (28, .c (.sl (cc.acts.map Act.cells))), (9, .mref s.length),
      (7, .box [.c (.str cc.id), .c (.sl (cc.acts.map Act.cells)), .c (.sl (cc.keys.map KeyAt.cells)), .c (.str cc.prev), .c (I cc.gen), .c (.bool cc.fork)]), (2, .c (.str t))]) cc.acts.length _ ?_ ⟨0, rfl, Nat.zero_le _, by simp [-getElem?_pos, givenN, placeN, givC], rfl⟩ ?_
  · simp [-getElem?_pos]
  rintro m e st ⟨i, rfl, hi, rfl, rfl⟩
  by_cases h : i < cc.acts.length
  · obtain ⟨a, ha⟩ := get_of_lt h
    have hw := wrap_succ h (by omega)
    have haf := hc a (List.mem_of_getElem? ha)
    have hstep : givenN digestS cc.acts t (i + 1) = stepP digestS cc.acts (selL t) i a (givenN digestS cc.acts t i) := by simp only [givenN, placeN, ha]
    have hlt : ∀ p ∈ givenN digestS cc.acts t i, p.1 < i := fun p hp => (placeN_mem i p hp).1
    generalize givenN digestS cc.acts t i = m at hstep hlt
    by_cases h17 : a.kind = 17
    · simp (config := { maxSteps := 10000000 }) [-getElem?_pos, List.lookup, mixed, h, ha, Act.cells, h17, givC_keys, hw]
      have hput := mput_giv (k := i) a.text hlt
      refine exY_i (a.target == t) ⟨fun _ => rfl, fun hm => againM_i _ _ ?_ ?_ ⟨i + 1, rfl, h, ?_, rfl⟩, fun hm1 hm2 => againM_i _ _ ?_ ?_ ⟨i + 1, rfl, h, ?_, rfl⟩⟩
      · omega
      · simp [-getElem?_pos]
      · rw [hput, hstep]
        have hm' : a.object = t ∨ a.target = t := by simpa [-getElem?_pos] using hm
        simp [-getElem?_pos, stepP, selL, h17, hm']
      · omega
      · simp [-getElem?_pos]
      · rw [hstep]
        have hm' : ¬ (a.object = t ∨ a.target = t) := by simp [-getElem?_pos] at hm1 hm2; simp [-getElem?_pos, hm1, hm2]
        simp [-getElem?_pos, stepP, selL, h17, hm']
    · by_cases h6 : a.kind = 6
      · simp (config := { maxSteps := 10000000 }) [-getElem?_pos, List.lookup, mixed, h, ha, Act.cells, h17, h6, givC_keys, hw]
        refine callW0 (res := indexR cc a.object) (fun s' => index_ok cc hc (by omega) a.object s') rfl ?_
        simp (config := { maxSteps := 10000000 }) [-getElem?_pos, List.lookup, mixed, h, ha, Act.cells, h17, h6, givC_keys, hw, indexR]
        refine exY_i (decide ((indexS digestS cc.acts a.object).getD 0 < i)) ⟨fun _ => rfl, fun h1 h2 => againM_i _ _ ?_ ?_ ⟨i + 1, rfl, h, ?_, rfl⟩, fun h1 => againM_i _ _ ?_ ?_ ⟨i + 1, rfl, h, ?_, rfl⟩⟩
        · omega
        · simp [-getElem?_pos]
        · rw [mdel_giv, hstep]
          obtain ⟨q, hq⟩ := Option.isSome_iff_exists.1 h1
          rw [hq] at h2
          simp [-getElem?_pos] at h2
          simp [-getElem?_pos, stepP, selL, h6, hq, h2]
        · omega
        · simp [-getElem?_pos]
        · rw [hstep]
          cases hq : indexS digestS cc.acts a.object with
          | none => simp [-getElem?_pos, stepP, selL, h6, hq]
          | some q =>
            have h3 := h1 (by rw [hq]; rfl)
            rw [hq] at h3
            simp [-getElem?_pos] at h3
            have h4 : ¬ q < i := by omega
            simp [-getElem?_pos, stepP, selL, h6, hq, h4]
      · simp (config := { maxSteps := 10000000 }) [-getElem?_pos, List.lookup, mixed, h, ha, Act.cells, h17, h6, givC_keys, hw]
        refine againM_i _ _ ?_ ?_ ⟨i + 1, rfl, h, ?_, rfl⟩
        · omega
        · simp [-getElem?_pos]
        · rw [hstep]; simp [-getElem?_pos, stepP, selL, h17, h6]
  · have he : i = cc.acts.length := by omega
    subst he
    simp (config := { maxSteps := 10000000 }) [-getElem?_pos, List.lookup, mixed]
    have hkeys : ((givenN digestS cc.acts t cc.acts.length).map (·.1)).Nodup := (placeN_keys _).imp fun {a b} hab he => by omega
    have hmem : ∀ p ∈ givenN digestS cc.acts t cc.acts.length, p.1 ≤ 1000000000 ∧ p.2.length ≤ 9223372036854775807 := fun p hp => by
      obtain ⟨q1, a, q2, q3⟩ := placeN_mem _ p hp
      obtain ⟨_, _, q4⟩ := selL_some q3
      have hf := hc a (List.mem_of_getElem? q2)
      have := hf.text
      unfold tooBig at this
      rw [q4]
      exact ⟨by omega, by omega⟩
    have hlen : (givenN digestS cc.acts t cc.acts.length).length ≤ cc.acts.length := placeN_len _
    have hval : validA digestS cc.acts t = dedupA (sorted ((givenN digestS cc.acts t cc.acts.length).map (·.2))) := rfl
    generalize givenN digestS cc.acts t cc.acts.length = M at hkeys hmem hlen hval ⊢
    refine callW2 (values_ok M (by simp [-getElem?_pos])) rfl ?_
    simp (config := { maxSteps := 10000000 }) [-getElem?_pos, List.lookup, mixed]
    refine callW2 (sortedSeq_ok (M.map (·.2)) (fun k hk => by obtain ⟨p, hp, rfl⟩ := List.mem_map.1 hk; exact (hmem p hp).2) (enters_of Tryz.func106 (by kernel_rfl) rfl)
      (values_seq M hkeys (fun p hp => (hmem p hp).1) (fun p hp => (hmem p hp).2) (by omega) (bid := s.length + 1) (id := s.length) (by simp [-getElem?_pos]) (by simp [-getElem?_pos]))) rfl ?_
    simp (config := { maxSteps := 10000000 }) [-getElem?_pos, List.lookup, mixed]
    refine callW2 (compactOwn_ok (sorted (M.map (·.2))) (by rw [(sorted_perm _).length_eq]; simp [-getElem?_pos]; omega) (id := s.length + 2) (ep := 0) (by simp [-getElem?_pos])) rfl ?_
    simp (config := { maxSteps := 10000000 }) [-getElem?_pos, List.lookup, mixed, hsp, hval, texts, strs]
end Go.Proofs.YthkmfboffnhkaaaGreatDoor
