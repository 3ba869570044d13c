/-
  Walks: the laws' helpers.
-/
import Derived.Test.YthkmfboffnhkaaaGreatDoorW21
set_option linter.all false
namespace Go.Proofs.YthkmfboffnhkaaaGreatDoor
open Go Go.L1
set_option maxRecDepth 100000
set_option maxHeartbeats 4000000

def listEq (x y : Listing) : Bool := (x.actor == y.actor) && ((x.reason == y.reason) && ((x.by_ == y.by_) && (x.until_ == y.until_)))
theorem listEq_iff {x y : Listing} : listEq x y = true ↔ x = y := by
  obtain ⟨a, b, c, d⟩ := x
  obtain ⟨a', b', c', d'⟩ := y
  simp [-getElem?_pos, listEq]
theorem sameL_ok (xs ys : List Listing) (hl : xs.length ≤ 1000000000) (s : List SO) : FnOK Tryz.prog GW 18 [listings xs, listings ys] s (.c (.bool (eqL listEq xs ys))) s := by
  refine agoraref37_Same_pu {} (by simp [-getElem?_pos]) rfl ?_
  by_cases hlen : xs.length = ys.length
  · simp [-getElem?_pos, agoraref37_Same_R0, agoraref37_Same_R1, agoraref37_Same_R2, agoraref37_Same_R3, agoraref37_Same_R4, agoraref37_Same_R6, agoraref37_Same_R7, agoraref37_Same_B1, agoraref37_Same_R5, agoraref37_Same_W1, agoraref37_Same_B0, agoraref37_Same_R8, agoraref37_Same_L, agoraref37_Same_ks, listings, hlen]
    refine loopM_intro (fun m e st => ∃ i : Nat, m = xs.length - i ∧ i ≤ xs.length ∧ st = s ∧ eqL listEq (xs.take i) (ys.take i) = true ∧
      e = [(5, .c (I i)), (0, listings xs), (1, listings ys)]) xs.length _ ?_ ⟨0, rfl, Nat.zero_le _, rfl, rfl, rfl⟩ ?_
    · simp [-getElem?_pos, listings]
    rintro m e st ⟨i, rfl, hi, rfl, hall, rfl⟩
    by_cases h : i < xs.length
    · obtain ⟨x, hx⟩ := get_of_lt h
      obtain ⟨y, hy⟩ := get_of_lt (hlen ▸ h)
      have hw := wrap_succ h (by omega)
      simp [-getElem?_pos, agoraref37_Same_R0, agoraref37_Same_R1, agoraref37_Same_R2, agoraref37_Same_R3, agoraref37_Same_R4, agoraref37_Same_R6, agoraref37_Same_R7, agoraref37_Same_B1, agoraref37_Same_R5, agoraref37_Same_W1, agoraref37_Same_B0, agoraref37_Same_R8, agoraref37_Same_L, agoraref37_Same_ks, listings, h, hx, hy, mixed, hw, Listing.cells]
      refine ⟨fun h1 => eqL_bad hx hy ?_, fun h1 h2 h3 h4 => againM_i _ _ ?_ ?_ ⟨i + 1, rfl, h, rfl, ?_, rfl⟩⟩
      · rw [Bool.eq_false_iff]; intro ht; rw [listEq_iff] at ht; subst ht; simp [-getElem?_pos] at h1
      · omega
      · simp [-getElem?_pos, listings]
      · rw [eqL_snoc hall hx hy]; simp [-getElem?_pos, listEq, h1, h2, h3, h4]
    · have he : i = xs.length := by omega
      have h2 : ys.take i = ys := List.take_of_length_le (by omega)
      rw [he, List.take_length, ← he, h2] at hall
      simp [-getElem?_pos, agoraref37_Same_R0, agoraref37_Same_R1, agoraref37_Same_R2, agoraref37_Same_R3, agoraref37_Same_R4, agoraref37_Same_R6, agoraref37_Same_R7, agoraref37_Same_B1, agoraref37_Same_R5, agoraref37_Same_W1, agoraref37_Same_B0, agoraref37_Same_R8, agoraref37_Same_L, agoraref37_Same_ks, listings, h, hall]
  · have h3 : ¬ (xs.length : Int) = ys.length := by omega
    simp [-getElem?_pos, agoraref37_Same_R0, agoraref37_Same_R1, agoraref37_Same_R2, agoraref37_Same_R3, agoraref37_Same_R4, agoraref37_Same_R6, agoraref37_Same_R7, agoraref37_Same_B1, agoraref37_Same_R5, agoraref37_Same_W1, agoraref37_Same_B0, agoraref37_Same_R8, agoraref37_Same_L, agoraref37_Same_ks, listings, h3, eqL_len hlen]
theorem eqL_iff {xs ys : List Listing} : eqL listEq xs ys = true ↔ xs = ys := by
  induction xs generalizing ys with
  | nil => cases ys <;> simp [-getElem?_pos, eqL]
  | cons x xs ih => cases ys <;> simp [-getElem?_pos, eqL, listEq_iff, ih]

theorem hasRef_ok (l : List Str) (hl : l.length ≤ 1000000000) (a : Str) (s : List SO) : FnOK Tryz.prog GW 20 [.c (texts l), .c (.str a)] s (.c (.bool (l.any fun x => x == a))) s := by
  refine agoraref21_Has_pu {} (by simp [-getElem?_pos]) rfl ?_
  simp [-getElem?_pos, agoraref21_Has_R0, agoraref21_Has_R1, agoraref21_Has_R2, agoraref21_Has_R4, agoraref21_Has_R5, agoraref21_Has_B1, agoraref21_Has_R3, agoraref21_Has_W1, agoraref21_Has_B0, agoraref21_Has_R6, agoraref21_Has_L, agoraref21_Has_ks, texts]
  refine loopM_intro (fun m e st => ∃ i : Nat, m = l.length - i ∧ i ≤ l.length ∧ st = s ∧ (l.take i).any (fun x => x == a) = false ∧
    e = [(5, .c (I i)), (0, .c (texts l)), (1, .c (.str a))]) l.length _ ?_ ⟨0, rfl, Nat.zero_le _, rfl, rfl, rfl⟩ ?_
  · simp [-getElem?_pos, texts]
  rintro m e st ⟨i, rfl, hi, rfl, hall, rfl⟩
  by_cases h : i < l.length
  · obtain ⟨x, hx⟩ := get_of_lt h
    have hw := wrap_succ h (by omega)
    simp [-getElem?_pos, agoraref21_Has_R0, agoraref21_Has_R1, agoraref21_Has_R2, agoraref21_Has_R4, agoraref21_Has_R5, agoraref21_Has_B1, agoraref21_Has_R3, agoraref21_Has_W1, agoraref21_Has_B0, agoraref21_Has_R6, agoraref21_Has_L, agoraref21_Has_ks, texts, h, hx, hw]
    refine ⟨fun h1 => ?_, fun h1 => againM_i _ _ ?_ ?_ ⟨i + 1, rfl, h, rfl, ?_, rfl⟩⟩
    · first
        | exact ⟨x, List.mem_of_getElem? hx, h1⟩
        | (have := List.mem_of_getElem? hx; rw [h1] at this; simpa [-getElem?_pos] using this)
    · omega
    · simp [-getElem?_pos, texts]
    · rw [List.take_add_one, hx, List.any_append, hall]; simp [-getElem?_pos, h1]
  · have he : i = l.length := by omega
    rw [he, List.take_length] at hall
    simp [-getElem?_pos, agoraref21_Has_R0, agoraref21_Has_R1, agoraref21_Has_R2, agoraref21_Has_R4, agoraref21_Has_R5, agoraref21_Has_B1, agoraref21_Has_R3, agoraref21_Has_W1, agoraref21_Has_B0, agoraref21_Has_R6, agoraref21_Has_L, agoraref21_Has_ks, texts, h]
    simpa [-getElem?_pos] using hall

def actFew (a : Act) : Bool := decide (a.to.length ≤ 8) && decide (a.wraps.length ≤ 8) && decide (a.text.length ≤ 600) && decide (a.body.data.length ≤ 600)
def chainFew (c : Chain) : Bool := decide (c.acts.length ≤ 24) && c.acts.all actFew
def fewS (cs : List Chain) : Bool := decide (cs.length ≤ 6) && cs.all chainFew
theorem few_ok (cs : List Chain) (hl : cs.length ≤ 1000000000) (s : List SO) : FnOK Tryz.prog GW 16 [chains cs] s (.c (.bool (fewS cs))) s := by
  refine agoralaw37_few_pu {} (by simp [-getElem?_pos]) rfl ?_
  simp [-getElem?_pos, agoralaw37_few_R0, agoralaw37_few_R1, agoralaw37_few_R2, agoralaw37_few_R3, agoralaw37_few_R4, agoralaw37_few_R6, agoralaw37_few_R7, agoralaw37_few_R8, agoralaw37_few_R9, agoralaw37_few_R11, agoralaw37_few_R12, agoralaw37_few_R13, agoralaw37_few_B3, agoralaw37_few_R10, agoralaw37_few_W1, agoralaw37_few_B2, agoralaw37_few_B1, agoralaw37_few_R5, agoralaw37_few_W2, agoralaw37_few_B0, agoralaw37_few_R14, agoralaw37_few_L, agoralaw37_few_ks, chains]
  refine ⟨fun h => by simp [-getElem?_pos, fewS]; omega, fun h6 => ?_⟩
  refine loopM_intro (fun m e st => ∃ i : Nat, m = cs.length - i ∧ i ≤ cs.length ∧ st = s ∧ (cs.take i).all chainFew = true ∧ e = [(3, .c (I i)), (0, chains cs)]) cs.length _ ?_ ⟨0, rfl, Nat.zero_le _, rfl, rfl, rfl⟩ ?_
  · simp [-getElem?_pos, chains]
  rintro m e st ⟨i, rfl, hi, rfl, hall, rfl⟩
  by_cases h : i < cs.length
  · obtain ⟨c, hc⟩ := get_of_lt h
    have hw := wrap_succ h (by omega)
    have hbad : chainFew c = false → fewS cs = false := fun hb => by
      simp only [fewS, all_false hc hb, Bool.and_false]
    simp [-getElem?_pos, agoralaw37_few_R0, agoralaw37_few_R1, agoralaw37_few_R2, agoralaw37_few_R3, agoralaw37_few_R4, agoralaw37_few_R6, agoralaw37_few_R7, agoralaw37_few_R8, agoralaw37_few_R9, agoralaw37_few_R11, agoralaw37_few_R12, agoralaw37_few_R13, agoralaw37_few_B3, agoralaw37_few_R10, agoralaw37_few_W1, agoralaw37_few_B2, agoralaw37_few_B1, agoralaw37_few_R5, agoralaw37_few_W2, agoralaw37_few_B0, agoralaw37_few_R14, agoralaw37_few_L, agoralaw37_few_ks, chains, h, hc, Chain.cells]
    refine ⟨fun h1 => hbad (by simp [-getElem?_pos, chainFew]; omega), fun h24 => ?_⟩
    refine loopM_intro (fun m e st' => ∃ j : Nat, m = c.acts.length - j ∧ j ≤ c.acts.length ∧ st' = st ∧ (c.acts.take j).all actFew = true ∧ e = [(4, .c (I j)), (3, .c (I i)), (0, chains cs)]) c.acts.length _ ?_ ⟨0, rfl, Nat.zero_le _, rfl, rfl, rfl⟩ ?_
    · simp [-getElem?_pos, chains]
    rintro m e st' ⟨j, rfl, hj, rfl, hallj, rfl⟩
    by_cases hjl : j < c.acts.length
    · obtain ⟨a, ha⟩ := get_of_lt hjl
      have hwj := wrap_succ hjl (by omega)
      simp (config := { maxSteps := 10000000 }) [-getElem?_pos, agoralaw37_few_R0, agoralaw37_few_R1, agoralaw37_few_R2, agoralaw37_few_R3, agoralaw37_few_R4, agoralaw37_few_R6, agoralaw37_few_R7, agoralaw37_few_R8, agoralaw37_few_R9, agoralaw37_few_R11, agoralaw37_few_R12, agoralaw37_few_R13, agoralaw37_few_B3, agoralaw37_few_R10, agoralaw37_few_W1, agoralaw37_few_B2, agoralaw37_few_B1, agoralaw37_few_R5, agoralaw37_few_W2, agoralaw37_few_B0, agoralaw37_few_R14, agoralaw37_few_L, agoralaw37_few_ks, chains, h, hc, Chain.cells, hjl, ha, Act.cells, texts]
      have hbada : actFew a = false → fewS cs = false := fun hb => hbad (by simp only [chainFew, all_false ha hb, Bool.and_false])
      refine exY_i (decide (8 < (a.wraps.length : Int))) ⟨fun _ => rfl, exY_i (decide (600 < (a.text.length : Int))) ⟨fun _ _ => rfl, exY_i (decide (600 < (a.body.data.length : Int))) ⟨fun _ _ _ => rfl, fun hb => hbada ?_, fun k1 k2 k3 k4 => againM_i _ _ ?_ ?_ ⟨j + 1, rfl, hjl, rfl, ?_, rfl⟩⟩⟩⟩
      · simp only [decide_eq_true_eq] at hb
        rw [Bool.eq_false_iff]
        intro ht
        simp only [actFew, Bool.and_eq_true, decide_eq_true_eq] at ht
        omega
      · omega
      · simp [-getElem?_pos, hwj, chains]
      · refine all_take hallj ha ?_
        simp only [decide_eq_false_iff_not] at k2 k3 k4
        simp only [actFew, Bool.and_eq_true, decide_eq_true_eq]
        omega
    · have he : j = c.acts.length := by omega
      rw [he, List.take_length] at hallj
      have hcf : chainFew c = true := by simp [-getElem?_pos, chainFew, hallj]; omega
      simp (config := { maxSteps := 10000000 }) [-getElem?_pos, agoralaw37_few_R0, agoralaw37_few_R1, agoralaw37_few_R2, agoralaw37_few_R3, agoralaw37_few_R4, agoralaw37_few_R6, agoralaw37_few_R7, agoralaw37_few_R8, agoralaw37_few_R9, agoralaw37_few_R11, agoralaw37_few_R12, agoralaw37_few_R13, agoralaw37_few_B3, agoralaw37_few_R10, agoralaw37_few_W1, agoralaw37_few_B2, agoralaw37_few_B1, agoralaw37_few_R5, agoralaw37_few_W2, agoralaw37_few_B0, agoralaw37_few_R14, agoralaw37_few_L, agoralaw37_few_ks, chains, h, hc, Chain.cells, hjl]
      refine againM_i _ _ ?_ ?_ ⟨i + 1, rfl, h, rfl, all_take hall hc hcf, rfl⟩
      · omega
      · simp [-getElem?_pos, hw, chains]
  · have he : i = cs.length := by omega
    rw [he, List.take_length] at hall
    simp [-getElem?_pos, agoralaw37_few_R0, agoralaw37_few_R1, agoralaw37_few_R2, agoralaw37_few_R3, agoralaw37_few_R4, agoralaw37_few_R6, agoralaw37_few_R7, agoralaw37_few_R8, agoralaw37_few_R9, agoralaw37_few_R11, agoralaw37_few_R12, agoralaw37_few_R13, agoralaw37_few_B3, agoralaw37_few_R10, agoralaw37_few_W1, agoralaw37_few_B2, agoralaw37_few_B1, agoralaw37_few_R5, agoralaw37_few_W2, agoralaw37_few_B0, agoralaw37_few_R14, agoralaw37_few_L, agoralaw37_few_ks, chains, h, fewS, hall]
    omega
def byS : Str := [48, 48, 48, 48, 48, 48, 48, 48, 48, 48, 48, 48, 48, 48, 97, 49]
def onS : Str := [48, 48, 48, 48, 48, 48, 48, 48, 48, 48, 48, 48, 48, 48, 98, 50]
def smallAct (t x : Str) (n : Int) : Act := ⟨[], 0, [], 23, 0, [], t, 0, [], [], x, noBox, 0, [], n, 0, 0, 0⟩
def smallChain : Chain := ⟨byS, [smallAct onS [115, 112, 97, 109] 9, smallAct onS [98, 111, 116] 9, smallAct byS [120] 5], [], [], 0, false⟩
theorem smallAct_fits (t x : Str) (n : Int) (h1 : t.length ≤ tooBig) (h2 : x.length ≤ tooBig) (h3 : n ≤ 9223372036854775807) : (smallAct t x n).Fits := by
  refine ⟨by simp [-getElem?_pos, smallAct], by simp [-getElem?_pos, smallAct], by simp [-getElem?_pos, smallAct], h1, by simp [-getElem?_pos, smallAct], h2, ⟨by simp [-getElem?_pos, smallAct, noBox], by simp [-getElem?_pos, smallAct, noBox], by simp [-getElem?_pos, smallAct, noBox]⟩, by simp [-getElem?_pos, smallAct], by simp [-getElem?_pos, smallAct, sumL], by simp [-getElem?_pos, smallAct], by simp [-getElem?_pos, smallAct],
    wf_small (by simp [-getElem?_pos, smallAct]) (by simp [-getElem?_pos, smallAct]), ?_⟩
  intro k hk
  simp [-getElem?_pos, smallAct] at hk
  omega
theorem small_of : ofS digestS [smallChain] [byS] 5 = [⟨onS, [98, 111, 116], byS, 9⟩] := by
  have h1 : byS ≠ onS := by decide
  simp [-getElem?_pos, ofS, allS, entriesS, findC, findS, smallChain, entN, stepE, entryOf, smallAct, bestS, stepB, getB, putB, winsO, better, outS, sorted, byS, onS]
theorem small_nil : ofS digestS [] [byS] 0 = [] := by
  simp [-getElem?_pos, ofS, allS, entriesS, findC, findS, noChain, entN, bestS, outS, sorted]
theorem small_ok (s : List SO) : FnOK Tryz.prog GW 15 [] s (.c (.bool true)) s := by
  refine agoralaw37_small_pu {} (by simp [-getElem?_pos]) rfl ?_
  simp (config := { maxSteps := 10000000 }) [-getElem?_pos, agoralaw37_small_R0, agoralaw37_small_R1, agoralaw37_small_R2, agoralaw37_small_R3, agoralaw37_small_R4, agoralaw37_small_R5, agoralaw37_small_R6, agoralaw37_small_R7, agoralaw37_small_R8, agoralaw37_small_L, agoralaw37_small_ks, mixed]
  have hfind : ∀ k ∈ [byS], findC [smallChain] k = smallChain := by
    intro k hk
    simp [-getElem?_pos] at hk
    subst hk
    simp [-getElem?_pos, findC, findS, smallChain]
  refine callW0 (res := listings (ofS digestS [smallChain] [byS] 5)) (fun s' => of_ok [smallChain] [byS] 5 (by simp [-getElem?_pos]) (fun k hk a ha => ?_) (fun k hk => by rw [hfind k hk]; simp [-getElem?_pos, smallChain]) (by simp [-getElem?_pos]) s') rfl ?_
  · rw [hfind k hk] at ha
    simp [-getElem?_pos, smallChain] at ha
    rcases ha with rfl | rfl | rfl <;> exact smallAct_fits _ _ _ (by simp [-getElem?_pos, onS, byS, tooBig]) (by simp [-getElem?_pos, tooBig]) (by omega)
  rw [small_of]
  simp (config := { maxSteps := 10000000 }) [-getElem?_pos, agoralaw37_small_R0, agoralaw37_small_R1, agoralaw37_small_R2, agoralaw37_small_R3, agoralaw37_small_R4, agoralaw37_small_R5, agoralaw37_small_R6, agoralaw37_small_R7, agoralaw37_small_R8, agoralaw37_small_L, agoralaw37_small_ks, mixed, listings, Listing.cells]
  refine callW0 (has_ok [⟨onS, [98, 111, 116], byS, 9⟩] (by simp [-getElem?_pos]) onS) rfl ?_
  simp (config := { maxSteps := 10000000 }) [-getElem?_pos, agoralaw37_small_R0, agoralaw37_small_R1, agoralaw37_small_R2, agoralaw37_small_R3, agoralaw37_small_R4, agoralaw37_small_R5, agoralaw37_small_R6, agoralaw37_small_R7, agoralaw37_small_R8, agoralaw37_small_L, agoralaw37_small_ks, mixed, agg, hasR, hasS, listings, Listing.cells]
  have hne : (onS == byS) = false := by decide
  refine callW0 (has_ok [⟨onS, [98, 111, 116], byS, 9⟩] (by simp [-getElem?_pos]) byS) rfl ?_
  simp (config := { maxSteps := 10000000 }) [-getElem?_pos, agoralaw37_small_R0, agoralaw37_small_R1, agoralaw37_small_R2, agoralaw37_small_R3, agoralaw37_small_R4, agoralaw37_small_R5, agoralaw37_small_R6, agoralaw37_small_R7, agoralaw37_small_R8, agoralaw37_small_L, agoralaw37_small_ks, mixed, agg, hasR, hasS, listings, Listing.cells, hne, noListing]
  refine callW0 (has_ok [] (by simp [-getElem?_pos]) onS) rfl ?_
  simp (config := { maxSteps := 10000000 }) [-getElem?_pos, agoralaw37_small_R0, agoralaw37_small_R1, agoralaw37_small_R2, agoralaw37_small_R3, agoralaw37_small_R4, agoralaw37_small_R5, agoralaw37_small_R6, agoralaw37_small_R7, agoralaw37_small_R8, agoralaw37_small_L, agoralaw37_small_ks, mixed, agg, hasR, hasS, listings, Listing.cells, noListing]
  refine callW0 (res := listings (ofS digestS [] [byS] 0)) (fun s' => of_ok [] [byS] 0 (by simp [-getElem?_pos]) (fun k hk a ha => ?_) (fun k hk => by simp [-getElem?_pos, findC, findS, noChain]) (by simp [-getElem?_pos]) s') rfl ?_
  · simp [-getElem?_pos, findC, findS, noChain] at ha
  rw [small_nil]
  simp (config := { maxSteps := 10000000 }) [-getElem?_pos, agoralaw37_small_R0, agoralaw37_small_R1, agoralaw37_small_R2, agoralaw37_small_R3, agoralaw37_small_R4, agoralaw37_small_R5, agoralaw37_small_R6, agoralaw37_small_R7, agoralaw37_small_R8, agoralaw37_small_L, agoralaw37_small_ks, mixed, agg, hasR, hasS, listings, Listing.cells, noListing]
  refine exY_i true ⟨?_, exY_i true ⟨fun _ => rfl, exY_i true ⟨fun _ _ => rfl, exY_i true ⟨fun _ _ _ => rfl, exY_i true ⟨fun _ _ _ _ => rfl, by simp [-getElem?_pos]⟩⟩⟩⟩⟩
  refine callW0 (sameL_ok [⟨onS, [98, 111, 116], byS, 9⟩] [⟨onS, [98, 111, 116], byS, 9⟩] (by simp [-getElem?_pos])) rfl ?_
  simp [-getElem?_pos, eqL_iff.mpr rfl, agoralaw37_small_R0, agoralaw37_small_R1, agoralaw37_small_R2, agoralaw37_small_R3, agoralaw37_small_R4, agoralaw37_small_R5, agoralaw37_small_R6, agoralaw37_small_R7, agoralaw37_small_R8, agoralaw37_small_L, agoralaw37_small_ks]
end Go.Proofs.YthkmfboffnhkaaaGreatDoor
