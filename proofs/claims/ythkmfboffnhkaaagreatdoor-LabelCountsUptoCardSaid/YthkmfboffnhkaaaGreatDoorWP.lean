/-
  Walks: the labels' helpers: the bounds, the reports, the small examples.
-/
import Derived.Test.YthkmfboffnhkaaaGreatDoorWO
set_option linter.all false
namespace Go.Proofs.YthkmfboffnhkaaaGreatDoor
attribute [local simp] agoralaw34_few_R0 agoralaw34_few_R1 agoralaw34_few_R2 agoralaw34_few_R3 agoralaw34_few_R4 agoralaw34_few_R6 agoralaw34_few_R7 agoralaw34_few_R8 agoralaw34_few_R9 agoralaw34_few_R11 agoralaw34_few_R12 agoralaw34_few_R13 agoralaw34_few_B3 agoralaw34_few_R10 agoralaw34_few_W1 agoralaw34_few_B2 agoralaw34_few_B1 agoralaw34_few_R5 agoralaw34_few_W2 agoralaw34_few_B0 agoralaw34_few_R14 agoralaw34_few_L agoralaw34_few_ks slices_ContainsFunc_Lapi_Act_api_Act_R0 slices_ContainsFunc_Lapi_Act_api_Act_R1 slices_ContainsFunc_Lapi_Act_api_Act_L slices_ContainsFunc_Lapi_Act_api_Act_ks label_Reports_1_R0 label_Reports_1_R1 label_Reports_1_L label_Reports_1_ks label_Reports_R0 label_Reports_R1 label_Reports_R2 label_Reports_R3 label_Reports_R4 label_Reports_R5 label_Reports_R6 label_Reports_B1 label_Reports_R7 label_Reports_W1 label_Reports_B0 label_Reports_R8 label_Reports_L label_Reports_ks agoralaw34_small_R0 agoralaw34_small_R1 agoralaw34_small_R2 agoralaw34_small_R3 agoralaw34_small_R4 agoralaw34_small_R5 agoralaw34_small_L agoralaw34_small_ks
open Go Go.L1
set_option maxRecDepth 100000
set_option maxHeartbeats 4000000

theorem few34_ok (cs : List Chain) (hl : cs.length ≤ 1000000000) (s : List SO) : FnOK Tryz.prog GW 23 [chains cs] s (.c (.bool (fewS cs))) s := by
  refine agoralaw34_few_F.pu {} (by simp [-getElem?_pos]) rfl ?_
  simp [-getElem?_pos, chains]
  refine ⟨fun h => by simp [-getElem?_pos, fewS]; omega, fun h6 => ?_⟩
  refine loopM_intro (fun m e st => ∃ i : Nat, m = cs.length - i ∧ i ≤ cs.length ∧ st = s ∧ (cs.take i).all chainFew = true ∧ e = [(3, .c (I i)), (0, chains cs)]) cs.length _ ?_ ⟨0, rfl, Nat.zero_le _, rfl, rfl, rfl⟩ ?_
  · simp [-getElem?_pos, chains]
  rintro m e st ⟨i, rfl, hi, rfl, hall, rfl⟩
  by_cases h : i < cs.length
  · obtain ⟨c, hc⟩ := get_of_lt h
    have hw := wrap_succ h (by omega)
    have hbad : chainFew c = false → fewS cs = false := fun hb => by
      simp only [fewS, all_false hc hb, Bool.and_false]
    simp [-getElem?_pos, chains, h, hc, Chain.cells]
    refine ⟨fun h1 => hbad (by simp [-getElem?_pos, chainFew]; omega), fun h24 => ?_⟩
    refine loopM_intro (fun m e st' => ∃ j : Nat, m = c.acts.length - j ∧ j ≤ c.acts.length ∧ st' = st ∧ (c.acts.take j).all actFew = true ∧ e = [(4, .c (I j)), (3, .c (I i)), (0, chains cs)]) c.acts.length _ ?_ ⟨0, rfl, Nat.zero_le _, rfl, rfl, rfl⟩ ?_
    · simp [-getElem?_pos, chains]
    rintro m e st' ⟨j, rfl, hj, rfl, hallj, rfl⟩
    by_cases hjl : j < c.acts.length
    · obtain ⟨a, ha⟩ := get_of_lt hjl
      have hwj := wrap_succ hjl (by omega)
      simp (config := { maxSteps := 10000000 }) [-getElem?_pos, chains, h, hc, Chain.cells, hjl, ha, Act.cells, texts]
      have hbada : actFew a = false → fewS cs = false := fun hb => hbad (by simp only [chainFew, all_false ha hb, Bool.and_false])
      refine exY_i (decide (8 < (a.wraps.length : Int))) ⟨fun _ => rfl, exY_i (decide (600 < (a.text.length : Int))) ⟨fun _ _ => rfl, exY_i (decide (600 < (a.body.data.length : Int))) ⟨fun _ _ _ => rfl, fun hb => hbada ?_, fun k1 k2 k3 k4 => againM_i _ _ ?_ ?_ ⟨j + 1, rfl, hjl, rfl, ?_, rfl⟩⟩⟩⟩
      · simp only [decide_eq_true_eq] at hb
        rw [Bool.eq_false_iff]
        intro ht
        simp only [actFew, Bool.and_eq_true, decide_eq_true_eq] at ht
        omega
      · omega
      · simp [-getElem?_pos, hwj, chains]
      · refine all_take hallj ha ?_
        simp only [decide_eq_false_iff_not] at k2 k3 k4
        simp only [actFew, Bool.and_eq_true, decide_eq_true_eq]
        omega
    · have he : j = c.acts.length := by omega
      rw [he, List.take_length] at hallj
      have hcf : chainFew c = true := by simp [-getElem?_pos, chainFew, hallj]; omega
      simp (config := { maxSteps := 10000000 }) [-getElem?_pos, chains, h, hc, Chain.cells, hjl]
      refine againM_i _ _ ?_ ?_ ⟨i + 1, rfl, h, rfl, all_take hall hc hcf, rfl⟩
      · omega
      · simp [-getElem?_pos, hw, chains]
  · have he : i = cs.length := by omega
    rw [he, List.take_length] at hall
    simp [-getElem?_pos, chains, h, fewS, hall]
    omega

theorem containsAct_ok {α : Type} (f : α → List C) (hf : ∀ x, (f x).length = 20) (xs : List α) (hl : xs.length ≤ 1073741824) (p : α → Bool) (g : FuncId) (caps : List V) (s : List SO)
    (hp : ∀ x ∈ xs, FnOK Tryz.prog GW g (agg (f x) :: caps) s (.c (.bool (p x))) s) (hc : caps.all plainV = true) :
    FnOK Tryz.prog GW 103 [.c (.sl (xs.map f)), .clo g caps] s (.c (.bool (xs.any p))) s := by
  refine slices_ContainsFunc_Lapi_Act_api_Act_F.pu {} (by simp [-getElem?_pos]) rfl ?_
  simp [-getElem?_pos]
  refine callW1 (indexAct_ok f hf xs hl p g caps s hp hc) rfl ?_
  have hi : decide (0 ≤ idx p xs) = xs.any p := by
    rcases idx_spec p xs with ⟨h1, h2⟩ | ⟨i, x, h1, h2, h3⟩
    · have : xs.any p = false := List.any_eq_false.2 fun x hx => by simp [-getElem?_pos, h2 x hx]
      rw [h1, this]; rfl
    · have : xs.any p = true := List.any_eq_true.2 ⟨x, List.mem_of_getElem? h2, h3⟩
      rw [h1, this]; simp [-getElem?_pos]
  simp [-getElem?_pos, hi]
def isRep (id : Str) (a : Act) : Bool := a.kind == 12 && a.object == id
theorem rep1_ok (a : Act) (id : Str) (st : List SO) (k : Nat) (h : st[k]? = some (.box [.c (.str id)])) : FnOK Tryz.prog GW 104 [agg a.cells, .ptr k 0] st (.c (.bool (isRep id a))) st := by
  refine label_Reports_1_F.pu {} (by simp [-getElem?_pos]) rfl ?_
  simp [-getElem?_pos, agg, Act.cells, h]
  exact exY_i (a.object == id) ⟨fun _ => rfl, rfl⟩
def repN (id : Str) (cs : List Chain) (n : Nat) : List Str := (cs.take n).foldl (fun l c => if id ≠ [] ∧ c.acts.any (isRep id) = true then (if c.id ∈ l then l else l ++ [c.id]) else l) []
theorem repN_succ {id : Str} {cs : List Chain} {n : Nat} {c : Chain} (h : cs[n]? = some c) : repN id cs (n + 1) = if id ≠ [] ∧ c.acts.any (isRep id) = true then (if c.id ∈ repN id cs n then repN id cs n else repN id cs n ++ [c.id]) else repN id cs n := by
  unfold repN
  rw [List.take_add_one, h, List.foldl_append]
  rfl
theorem reports_ok (cs : List Chain) (id : Str) (hcs : cs.length ≤ 1000000000) (hl : ∀ c ∈ cs, c.acts.length ≤ 1000000000) (s : List SO) :
    FnOK Tryz.prog GW 64 [chains cs, .c (.str id)] s (.c (I (repN id cs cs.length).length)) s := by
  refine label_Reports_F.pu { esc := [3] } (by simp [-getElem?_pos]) rfl ?_
  simp [-getElem?_pos, chains]
  refine loopM_intro (fun m e st => ∃ i : Nat, m = cs.length - i ∧ i ≤ cs.length ∧ st = s ++ [.box [.c (.str id)], .map false false (setC (repN id cs i))] ∧
    e = [(11, .c (I i)), (10, .c (I cs.length)), (9, chains cs), (5, .mref (s.length + 1)), (3, .ptr s.length 0)]) cs.length _ ?_ ⟨0, rfl, Nat.zero_le _, by simp [-getElem?_pos, repN, setC], rfl⟩ ?_
  · simp [-getElem?_pos, chains]
  rintro m e st ⟨i, rfl, hi, rfl, rfl⟩
  by_cases h : i < cs.length
  · obtain ⟨c, hc⟩ := get_of_lt h
    have hw := wrap_succ h (by omega)
    have hs := repN_succ (id := id) hc
    generalize repN id cs i = R at hs
    simp [-getElem?_pos, chains, h, hc, Chain.cells]
    refine exY_i (c.acts.any (isRep id)) ⟨fun _ => ?_, ?_⟩
    · refine callW1 (containsAct_ok Act.cells (fun _ => rfl) c.acts (by have := hl c (List.mem_of_getElem? hc); omega) (isRep id) 104 [.ptr s.length 0] _ (fun a _ => rep1_ok a id _ _ (by simp [-getElem?_pos])) rfl) rfl ?_
      simp [-getElem?_pos]
    · refine ⟨fun h1 h2 => ⟨setC_keys R, againM_i _ _ ?_ ?_ ⟨i + 1, rfl, h, ?_, rfl⟩⟩, fun h1 => againM_i _ _ ?_ ?_ ⟨i + 1, rfl, h, ?_, rfl⟩⟩
      · omega
      · simp [-getElem?_pos, hw, chains]
      · rw [hs, if_pos (show id ≠ [] ∧ c.acts.any (isRep id) = true from ⟨h1, h2⟩), setC_put]
      · omega
      · simp [-getElem?_pos, hw, chains]
      · rw [hs, if_neg]
        rintro ⟨h2, h3⟩
        have := h1 h2
        rw [h3] at this; cases this
  · have he : i = cs.length := by omega
    subst he
    simp [-getElem?_pos, chains, setC]
def spamS : Str := [115, 112, 97, 109]
def botS : Str := [98, 111, 116]
def act34 (k : Int) (o t x : Str) : Act := ⟨[], 0, [], k, 0, o, t, 0, [], [], x, noBox, 0, [], 0, 0, 0, 0⟩
def chain34 : Chain := ⟨byS, [act34 17 [] onS spamS, act34 17 [] onS botS, act34 12 [120] [] []], [], [], 0, false⟩
theorem act34_fits (k : Int) (o t x : Str) (hk : 0 ≤ k ∧ k < 1000) (h1 : o.length ≤ tooBig) (h2 : t.length ≤ tooBig) (h3 : x.length ≤ tooBig) : (act34 k o t x).Fits := by
  refine ⟨by simp [-getElem?_pos, act34], by simp [-getElem?_pos, act34], h1, h2, by simp [-getElem?_pos, act34], h3, ⟨by simp [-getElem?_pos, act34, noBox], by simp [-getElem?_pos, act34, noBox], by simp [-getElem?_pos, act34, noBox]⟩, by simp [-getElem?_pos, act34], by simp [-getElem?_pos, act34, sumL], by simp [-getElem?_pos, act34], by simp [-getElem?_pos, act34],
    wf_small (by simp [-getElem?_pos, act34]; omega) (by simp [-getElem?_pos, act34]; omega), ?_⟩
  intro j hj
  simp [-getElem?_pos, act34] at hj
  omega
theorem sorted_two {l : List Str} (h : l.Pairwise (· < ·)) {m : List Str} (hm : m.Nodup) (he : ∀ x, x ∈ m ↔ x ∈ l) : sorted m = l :=
  lt_ext (sorted_lt hm) h fun x => by rw [(sorted_perm m).mem_iff]; exact he x
theorem bs_lt : [botS, spamS].Pairwise (· < ·) := by decide
theorem valid34 : validS digestS [chain34] byS onS = [botS, spamS] := by
  have hf : findC [chain34] byS = chain34 := by simp [-getElem?_pos, findC, findS, chain34]
  have hne : onS ≠ [] := by decide
  unfold validS
  rw [if_neg hne, hf]
  unfold validA
  refine lt_ext (ascS_lt _) bs_lt fun x => ?_
  rw [ascS_mem]
  simp [-getElem?_pos, givenN, placeN, stepP, selL, chain34, act34, or_comm]
theorem of34 : ofLS digestS [chain34] [byS, byS] onS = [⟨botS, 1⟩, ⟨spamS, 1⟩] := by
  have hd : distS [byS, byS] = [byS] := by simp [-getElem?_pos, distS]
  have hb : botS ≠ spamS := by decide
  unfold ofLS namesS
  rw [hd]
  simp only [List.flatMap_cons, List.flatMap_nil, List.append_nil, valid34]
  unfold countsS
  rw [sorted_two bs_lt (cntM_ok _).1 fun x => (cntM_ok _).2.1 x]
  simp [-getElem?_pos, hb, Ne.symm hb]
theorem small34_ok (s : List SO) : FnOK Tryz.prog GW 22 [] s (.c (.bool true)) s := by
  refine agoralaw34_small_F.pu {} (by simp [-getElem?_pos]) rfl ?_
  simp (config := { maxSteps := 10000000 }) [-getElem?_pos, mixed]
  have hfind : ∀ k, findC [chain34] k = chain34 ∨ findC [chain34] k = noChain := by
    intro k
    by_cases h : chain34.id = k
    · left; simp [-getElem?_pos, findC, findS, h]
    · right; simp [-getElem?_pos, findC, findS, h]
  have hfits : ∀ k, ∀ a ∈ (findC [chain34] k).acts, a.Fits := by
    intro k a ha
    rcases hfind k with h | h
    · rw [h] at ha
      simp [-getElem?_pos, chain34] at ha
      rcases ha with rfl | rfl | rfl <;> exact act34_fits _ _ _ _ (by omega) (by simp [-getElem?_pos, tooBig]) (by simp [-getElem?_pos, onS, tooBig]) (by simp [-getElem?_pos, spamS, botS, tooBig])
    · rw [h] at ha; simp [-getElem?_pos, noChain] at ha
  have hlen : ∀ k, (findC [chain34] k).acts.length ≤ 1000 := by
    intro k
    rcases hfind k with h | h <;> rw [h] <;> simp [-getElem?_pos, chain34, noChain]
  refine callW0 (res := .c (counts (ofLS digestS [chain34] [byS, byS] onS))) (fun s' => ofL_ok [chain34] [byS, byS] onS (by simp [-getElem?_pos]) hfits hlen (by simp [-getElem?_pos]) s') rfl ?_
  rw [of34]
  simp (config := { maxSteps := 10000000 }) [-getElem?_pos, mixed, counts, Cnt.cells]
  refine callW0 (res := .c (texts (validS digestS [] byS onS))) (fun s' => valid_ok [] byS onS (by simp [-getElem?_pos]) (by simp [-getElem?_pos, findC, findS, noChain]) (by simp [-getElem?_pos, findC, findS, noChain]) s') rfl ?_
  have h0 : validS digestS [] byS onS = [] := by simp [-getElem?_pos, validS, validA, givenN, placeN, findC, findS, noChain, ascS, sorted, dedupA]
  rw [h0]
  simp (config := { maxSteps := 10000000 }) [-getElem?_pos, mixed, texts]
  have hofn : ofLS digestS [] [byS] onS = [] := by
    have hd : distS [byS] = [byS] := by simp [-getElem?_pos, distS]
    unfold ofLS namesS
    rw [hd]
    simp [-getElem?_pos, h0, countsS, cntM, sorted]
  have hb : botS ≠ spamS := by decide
  refine exY_i true ⟨?_, exY_i true ⟨fun _ => ?_, exY_i true ⟨fun _ _ => ?_, exY_i true ⟨fun _ _ _ => ?_, exY_i true ⟨fun _ _ _ _ => ?_, exY_i true ⟨fun _ _ _ _ _ => ?_, ?_⟩⟩⟩⟩⟩⟩
  · refine callW0 (res := .c (counts (ofLS digestS [] [byS] onS))) (fun s' => ofL_ok [] [byS] onS (by simp [-getElem?_pos]) (by simp [-getElem?_pos, findC, findS, noChain]) (by simp [-getElem?_pos, findC, findS, noChain]) (by simp [-getElem?_pos]) s') rfl ?_
    rw [hofn]
    simp (config := { maxSteps := 10000000 }) [-getElem?_pos, mixed, counts]
  · refine callW0 (fun s' => reports_ok [] [120] (by simp [-getElem?_pos]) (by simp [-getElem?_pos]) s') rfl ?_
    simp (config := { maxSteps := 10000000 }) [-getElem?_pos, mixed, repN]
  · refine callW0 (res := .c (texts (validS digestS [chain34] byS onS))) (fun s' => valid_ok [chain34] byS onS (by simp [-getElem?_pos]) (hfits _) (by have := hlen byS; omega) s') rfl ?_
    rw [valid34]
    simp (config := { maxSteps := 10000000 }) [-getElem?_pos, mixed, texts]
    refine callW0 (sameS_ok [botS, spamS] [botS, spamS] (by simp [-getElem?_pos])) rfl ?_
    simp (config := { maxSteps := 10000000 }) [-getElem?_pos, mixed, eqL, strEq]
  · refine callW0 (sameC_ok [⟨botS, 1⟩, ⟨spamS, 1⟩] [⟨botS, 1⟩, ⟨spamS, 1⟩] (by simp [-getElem?_pos])) rfl ?_
    simp (config := { maxSteps := 10000000 }) [-getElem?_pos, mixed, eqL, cntEq]
  · refine callW0 (fun s' => reports_ok [chain34, chain34] [120] (by simp [-getElem?_pos]) (by simp [-getElem?_pos, chain34]) s') rfl ?_
    simp (config := { maxSteps := 10000000 }) [-getElem?_pos, mixed, repN, chain34, act34, isRep]
  · refine callW0 (fun s' => reports_ok [chain34] [] (by simp [-getElem?_pos]) (by simp [-getElem?_pos, chain34]) s') rfl ?_
    simp (config := { maxSteps := 10000000 }) [-getElem?_pos, mixed, repN]
  · simp (config := { maxSteps := 10000000 }) [-getElem?_pos, mixed]
end Go.Proofs.YthkmfboffnhkaaaGreatDoor
