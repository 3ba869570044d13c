/-
  Walks: reach.May, and the helpers of reach's laws.
-/
import Derived.Test.YthkmfboffnhkaaaGreatDoorRC
import Derived.Test.YthkmfboffnhkaaaGreatDoorWT
set_option linter.all false
namespace Go.Proofs.YthkmfboffnhkaaaGreatDoor
attribute [local simp] slices_Index_Lstring_string_R0 slices_Index_Lstring_string_R1 slices_Index_Lstring_string_R2 slices_Index_Lstring_string_R3 slices_Index_Lstring_string_R4 slices_Index_Lstring_string_R5 slices_Index_Lstring_string_B1 slices_Index_Lstring_string_R6 slices_Index_Lstring_string_W1 slices_Index_Lstring_string_B0 slices_Index_Lstring_string_R7 slices_Index_Lstring_string_L slices_Index_Lstring_string_ks slices_Contains_Lstring_string_R0 slices_Contains_Lstring_string_R1 slices_Contains_Lstring_string_L slices_Contains_Lstring_string_ks reach_May_R0 reach_May_R1 reach_May_R2 reach_May_L reach_May_ks agoralaw25_short_R0 agoralaw25_short_R1 agoralaw25_short_R2 agoralaw25_short_R3 agoralaw25_short_R4 agoralaw25_short_R6 agoralaw25_short_R7 agoralaw25_short_R8 agoralaw25_short_B1 agoralaw25_short_R5 agoralaw25_short_W1 agoralaw25_short_B0 agoralaw25_short_R9 agoralaw25_short_L agoralaw25_short_ks agoralaw25_few_R0 agoralaw25_few_R1 agoralaw25_few_R2 agoralaw25_few_R3 agoralaw25_few_R4 agoralaw25_few_R6 agoralaw25_few_R7 agoralaw25_few_B1 agoralaw25_few_R5 agoralaw25_few_W1 agoralaw25_few_B0 agoralaw25_few_R8 agoralaw25_few_L agoralaw25_few_ks
open Go Go.L1 Go.RowKit Go.Maps
set_option maxRecDepth 100000
set_option maxHeartbeats 4000000

theorem indexS_ok (l : List Str) (hl : l.length ≤ 1000000000) (a : Str) (s : List SO) : FnOK Tryz.prog GW 110 [.c (texts l), .c (.str a)] s (.c (I (idx (fun x => a == x) l))) s := by
  refine slices_Index_Lstring_string_F.pu {} (by simp [-getElem?_pos]) rfl ?_
  simp [-getElem?_pos, texts]
  refine loopM_intro (fun m e st => ∃ i : Nat, m = l.length - i ∧ i ≤ l.length ∧ st = s ∧ (l.take i).all (fun x => !(a == x)) = true ∧
    e = [(8, .c (I i)), (7, .c (I l.length)), (0, .c (texts l)), (1, .c (.str a))]) l.length _ ?_ ⟨0, rfl, Nat.zero_le _, rfl, rfl, rfl⟩ ?_
  · simp [-getElem?_pos, texts]
  rintro m e st ⟨i, rfl, hi, rfl, hall, rfl⟩
  by_cases h : i < l.length
  · obtain ⟨x, hx⟩ := get_of_lt h
    have hw := wrap_succ h (by omega)
    simp [-getElem?_pos, texts, h, hx, hw]
    refine ⟨fun h1 => (idx_found (p := fun x => a == x) hall hx (by simp [-getElem?_pos, h1])).symm, fun h1 => againM_i _ _ ?_ ?_ ⟨i + 1, rfl, h, rfl, all_take hall hx (by simp [-getElem?_pos, h1]), rfl⟩⟩
    · omega
    · simp [-getElem?_pos, texts]
  · have h2 := idx_none hall (by omega)
    simp [-getElem?_pos, texts, h]
    exact h2.symm
theorem contains_ok72 (l : List Str) (hl : l.length ≤ 1000000000) (a : Str) (s : List SO) : FnOK Tryz.prog GW 72 [.c (texts l), .c (.str a)] s (.c (.bool (l.contains a))) s := by
  refine slices_Contains_Lstring_string_F.pu {} (by simp [-getElem?_pos]) rfl ?_
  simp [-getElem?_pos, texts]
  refine callW0 (indexS_ok l hl a) rfl ?_
  simp [-getElem?_pos, texts]
  rcases idx_spec (fun x => a == x) l with ⟨h, h2⟩ | ⟨i, x, h, h2, h3⟩
  · rw [h]
    constructor
    · intro h0; omega
    · intro ha; have := h2 a ha; simp [-getElem?_pos] at this
  · rw [h]
    have : a = x := by simpa [-getElem?_pos] using h3
    exact ⟨fun _ => this ▸ List.mem_of_getElem? h2, fun _ => by omega⟩
theorem readers_len (c : Chain) (i : Int) (hc : ∀ a ∈ c.acts, a.Fits) (hl : c.acts.length ≤ 100000000) : (readersS digestS c i).1.length ≤ 900000001 := by
  unfold readersS
  split
  · split
    · next a ha =>
      have hm := members_le c i a.scope a.group a.to hc hl (hc a (List.mem_of_getElem? ha)).toBig
      split
      · split
        · simp [-getElem?_pos]
        · split
          · rw [(sorted_perm _).length_eq]; simp [-getElem?_pos]; omega
          · simp [-getElem?_pos]
      · simp [-getElem?_pos]
    · simp [-getElem?_pos]
  · simp [-getElem?_pos]
theorem may_ok (c : Chain) (i : Int) (r : Str) (hc : ∀ a ∈ c.acts, a.Fits) (hl : c.acts.length ≤ 100000000) (s : List SO) :
    FnOK Tryz.prog GW 38 [agg c.cells, .c (I i), .c (.str r)] s (.c (.bool (mayS digestS c i r))) s := by
  refine reach_May_F.pu {} (by simp [-getElem?_pos]) rfl ?_
  simp [-getElem?_pos, List.lookup, mixed, agg, Chain.cells]
  refine callW0 (readers_ok c i hc hl) rfl ?_
  simp [-getElem?_pos, List.lookup, mixed, agg, Chain.cells]
  unfold mayS
  have hrl := readers_len c i hc hl
  generalize readersS digestS c i = R at hrl ⊢
  obtain ⟨l, b⟩ := R
  refine exY_i (l.contains r) ⟨fun _ => ?_, rfl⟩
  refine callW0 (contains_ok72 l (by simp only at hrl; omega) r) rfl ?_
  simp [-getElem?_pos, List.lookup, mixed, agg, Chain.cells]
theorem short25_ok (c : Chain) (s : List SO) : FnOK Tryz.prog GW 36 [agg c.cells] s (.c (.bool (chainFew c))) s := by
  refine agoralaw25_short_F.pu {} (by simp [-getElem?_pos]) rfl ?_
  simp [-getElem?_pos, List.lookup, mixed, agg, Chain.cells]
  refine ⟨fun h1 => by simp [-getElem?_pos, chainFew]; omega, fun h24 => ?_⟩
  refine loopM_intro (fun m e st => ∃ j : Nat, m = c.acts.length - j ∧ j ≤ c.acts.length ∧ st = s ∧ (c.acts.take j).all actFew = true ∧ e = [(3, .c (I j)),
    (1, .box [.c (.str c.id), .c (.sl (c.acts.map Act.cells)), .c (.sl (c.keys.map KeyAt.cells)), .c (.str c.prev), .c (I c.gen), .c (.bool c.fork)])]) c.acts.length _ ?_ ⟨0, rfl, Nat.zero_le _, rfl, rfl, rfl⟩ ?_
  · simp [-getElem?_pos]
  rintro m e st ⟨j, rfl, hj, rfl, hallj, rfl⟩
  by_cases hjl : j < c.acts.length
  · obtain ⟨a, ha⟩ := get_of_lt hjl
    have hwj := wrap_succ hjl (by omega)
    have hbada : actFew a = false → chainFew c = false := fun hb => by simp only [chainFew, all_false ha hb, Bool.and_false]
    simp (config := { maxSteps := 10000000 }) [-getElem?_pos, List.lookup, mixed, hjl, ha, Act.cells, texts]
    refine exY_i (decide (8 < (a.wraps.length : Int))) ⟨fun _ => rfl, exY_i (decide (600 < (a.text.length : Int))) ⟨fun _ _ => rfl, exY_i (decide (600 < (a.body.data.length : Int))) ⟨fun _ _ _ => rfl, fun hb => hbada ?_, fun k1 k2 k3 k4 => againM_i _ _ ?_ ?_ ⟨j + 1, rfl, hjl, rfl, ?_, rfl⟩⟩⟩⟩
    · simp only [decide_eq_true_eq] at hb
      rw [Bool.eq_false_iff]
      intro ht
      simp only [actFew, Bool.and_eq_true, decide_eq_true_eq] at ht
      omega
    · omega
    · simp [-getElem?_pos, hwj]
    · refine all_take hallj ha ?_
      simp only [decide_eq_false_iff_not] at k2 k3 k4
      simp only [actFew, Bool.and_eq_true, decide_eq_true_eq]
      omega
  · have he : j = c.acts.length := by omega
    rw [he, List.take_length] at hallj
    simp [-getElem?_pos, List.lookup, mixed, hjl, chainFew, hallj]
    omega
theorem few25_ok (cs : List Chain) (hl : cs.length ≤ 1000000000) (s : List SO) : FnOK Tryz.prog GW 41 [chains cs] s (.c (.bool (fewS cs))) s := by
  refine agoralaw25_few_F.pu {} (by simp [-getElem?_pos]) rfl ?_
  simp [-getElem?_pos, chains]
  refine ⟨fun h => by simp [-getElem?_pos, fewS]; omega, fun h6 => ?_⟩
  refine loopM_intro (fun m e st => ∃ i : Nat, m = cs.length - i ∧ i ≤ cs.length ∧ st = s ∧ (cs.take i).all chainFew = true ∧ e = [(3, .c (I i)), (0, chains cs)]) cs.length _ ?_ ⟨0, rfl, Nat.zero_le _, rfl, rfl, rfl⟩ ?_
  · simp [-getElem?_pos, chains]
  rintro m e st ⟨i, rfl, hi, rfl, hall, rfl⟩
  by_cases h : i < cs.length
  · obtain ⟨c, hcc⟩ := get_of_lt h
    have hw := wrap_succ h (by omega)
    have hbad : chainFew c = false → fewS cs = false := fun hb => by
      simp only [fewS, all_false hcc hb, Bool.and_false]
    simp [-getElem?_pos, chains, h, hcc, Chain.cells]
    refine callW0 (short25_ok c) rfl ?_
    simp [-getElem?_pos, chains, h, hcc, Chain.cells]
    refine ⟨fun h1 => hbad h1, fun h1 => againM_i _ _ ?_ ?_ ⟨i + 1, rfl, h, rfl, all_take hall hcc h1, rfl⟩⟩
    · omega
    · simp [-getElem?_pos, hw, chains]
  · have he : i = cs.length := by omega
    rw [he, List.take_length] at hall
    simp [-getElem?_pos, chains, h, fewS, hall]
    omega
end Go.Proofs.YthkmfboffnhkaaaGreatDoor
