/-
  Walks: LabelCounts.
-/
import Derived.Test.YthkmfboffnhkaaaGreatDoorWP
import Derived.Test.YthkmfboffnhkaaaGreatDoorM6
import Derived.Test.YthkmfboffnhkaaaGreatDoorTN
set_option linter.all false
namespace Go.Proofs.YthkmfboffnhkaaaGreatDoor
attribute [local simp] agoralaw34_LabelCounts_R0 agoralaw34_LabelCounts_R1 agoralaw34_LabelCounts_R2 agoralaw34_LabelCounts_R3 agoralaw34_LabelCounts_R4 agoralaw34_LabelCounts_R5 agoralaw34_LabelCounts_R6 agoralaw34_LabelCounts_R7 agoralaw34_LabelCounts_R9 agoralaw34_LabelCounts_B1 agoralaw34_LabelCounts_R8 agoralaw34_LabelCounts_W1 agoralaw34_LabelCounts_B0 agoralaw34_LabelCounts_R10 agoralaw34_LabelCounts_R11 agoralaw34_LabelCounts_R12 agoralaw34_LabelCounts_R13 agoralaw34_LabelCounts_R14 agoralaw34_LabelCounts_R15 agoralaw34_LabelCounts_R17 agoralaw34_LabelCounts_R18 agoralaw34_LabelCounts_R19 agoralaw34_LabelCounts_R21 agoralaw34_LabelCounts_R22 agoralaw34_LabelCounts_B5 agoralaw34_LabelCounts_R20 agoralaw34_LabelCounts_W2 agoralaw34_LabelCounts_B4 agoralaw34_LabelCounts_R23 agoralaw34_LabelCounts_R24 agoralaw34_LabelCounts_R25 agoralaw34_LabelCounts_R27 agoralaw34_LabelCounts_B7 agoralaw34_LabelCounts_R26 agoralaw34_LabelCounts_W3 agoralaw34_LabelCounts_B6 agoralaw34_LabelCounts_R28 agoralaw34_LabelCounts_R29 agoralaw34_LabelCounts_R30 agoralaw34_LabelCounts_B3 agoralaw34_LabelCounts_R16 agoralaw34_LabelCounts_W4 agoralaw34_LabelCounts_B2 agoralaw34_LabelCounts_R31 agoralaw34_LabelCounts_R32 agoralaw34_LabelCounts_R34 agoralaw34_LabelCounts_R35 agoralaw34_LabelCounts_B9 agoralaw34_LabelCounts_R33 agoralaw34_LabelCounts_W5 agoralaw34_LabelCounts_B8 agoralaw34_LabelCounts_R36 agoralaw34_LabelCounts_L agoralaw34_LabelCounts_ks
open Go Go.L1
set_option maxRecDepth 100000
set_option maxHeartbeats 8000000

/-- The labellers from the last on, each twice. -/
def backL (ks : List Str) (j : Nat) : List Str := (ks.reverse.take j).flatMap fun k => [k, k]
theorem backL_succ {ks : List Str} {j : Nat} {k : Str} (h : ks.reverse[j]? = some k) : backL ks (j + 1) = backL ks j ++ [k, k] := by
  unfold backL
  rw [List.take_add_one, h, List.flatMap_append]
  simp [-getElem?_pos]
theorem backL_len (ks : List Str) : ∀ j, (backL ks j).length ≤ 2 * j
  | 0 => by simp [-getElem?_pos, backL]
  | j + 1 => by
    have := backL_len ks j
    cases h : ks.reverse[j]? with
    | none =>
      have : backL ks (j + 1) = backL ks j := by unfold backL; rw [List.take_add_one, h]; simp [-getElem?_pos]
      rw [this]; omega
    | some k => rw [backL_succ h]; simp [-getElem?_pos]; omega
theorem backL_mem (ks : List Str) (k : Str) : k ∈ backL ks ks.length ↔ k ∈ ks := by
  unfold backL
  rw [List.take_of_length_le (by simp [-getElem?_pos])]
  simp [-getElem?_pos]
theorem lessR_i {a b : Str} (h : a < b) : Op.bytesLess a b = true := by rw [bytesLess_eq]; simpa [-getElem?_pos] using h
/-- How many of the first k labellers, each once, give a name. -/
noncomputable def cntD (cs : List Chain) (t : Str) (ks : List Str) (x : Str) (k : Nat) : Nat := (distS (ks.take k)).countP fun b => decide (x ∈ validS digestS cs b t)
noncomputable def lenD (cs : List Chain) (t : Str) (ks : List Str) (k : Nat) : Nat := ((distS (ks.take k)).map fun b => (validS digestS cs b t).length).sum
theorem take_snoc {α : Type} {l : List α} {k : Nat} {x : α} (h : l[k]? = some x) : l.take (k + 1) = l.take k ++ [x] := by rw [List.take_add_one, h]; rfl
theorem cntD_succ {cs : List Chain} {t : Str} {ks : List Str} {x b : Str} {k : Nat} (h : ks[k]? = some b) :
    cntD cs t ks x (k + 1) = cntD cs t ks x k + if !(ks.take k).any (fun y => y == b) && (validS digestS cs b t).any (fun y => y == x) then 1 else 0 := by
  unfold cntD
  rw [take_snoc h, distS_snoc]
  have e : (ks.take k).any (fun y => y == b) = decide (b ∈ distS (ks.take k)) := by
    rw [Bool.eq_iff_iff, decide_eq_true_eq, distS_mem, List.any_eq_true]
    exact ⟨fun ⟨y, hy, he⟩ => by rw [← eq_of_beq he]; exact hy, fun hb => ⟨b, hb, by simp [-getElem?_pos]⟩⟩
  have e2 : (validS digestS cs b t).any (fun y => y == x) = decide (x ∈ validS digestS cs b t) := by
    rw [Bool.eq_iff_iff, decide_eq_true_eq, List.any_eq_true]
    exact ⟨fun ⟨y, hy, he⟩ => by rw [← eq_of_beq he]; exact hy, fun hb => ⟨x, hb, by simp [-getElem?_pos]⟩⟩
  rw [e, e2]
  by_cases hb : b ∈ distS (ks.take k)
  · simp [-getElem?_pos, hb]
  · rw [if_neg hb, List.countP_append]
    by_cases hx : x ∈ validS digestS cs b t <;> simp [-getElem?_pos, hb, hx]
theorem lenD_succ {cs : List Chain} {t : Str} {ks : List Str} {b : Str} {k : Nat} (h : ks[k]? = some b) :
    lenD cs t ks (k + 1) = lenD cs t ks k + if (ks.take k).any (fun y => y == b) then 0 else (validS digestS cs b t).length := by
  unfold lenD
  rw [take_snoc h, distS_snoc]
  have e : (ks.take k).any (fun y => y == b) = decide (b ∈ distS (ks.take k)) := by
    rw [Bool.eq_iff_iff, decide_eq_true_eq, distS_mem, List.any_eq_true]
    exact ⟨fun ⟨y, hy, he⟩ => by rw [← eq_of_beq he]; exact hy, fun hb => ⟨b, hb, by simp [-getElem?_pos]⟩⟩
  rw [e]
  by_cases hb : b ∈ distS (ks.take k)
  · simp [-getElem?_pos, hb]
  · simp [-getElem?_pos, hb]
theorem cntD_le (cs : List Chain) (t : Str) (ks : List Str) (x : Str) (k : Nat) : cntD cs t ks x k ≤ k := by
  unfold cntD
  refine Nat.le_trans List.countP_le_length ?_
  refine Nat.le_trans (distS_len _) ?_
  simp [-getElem?_pos]; omega
theorem lenD_le {cs : List Chain} {t : Str} (hl : ∀ b, (validS digestS cs b t).length ≤ 1000) (ks : List Str) (k : Nat) : lenD cs t ks k ≤ 1000 * k := by
  have key : ∀ D : List Str, (D.map fun b => (validS digestS cs b t).length).sum ≤ 1000 * D.length := by
    intro D
    induction D with
    | nil => simp [-getElem?_pos]
    | cons b D ih => have := hl b; simp only [List.map_cons, List.sum_cons, List.length_cons]; omega
  unfold lenD
  refine Nat.le_trans (key _) ?_
  have := distS_len (ks.take k)
  have h2 : (ks.take k).length ≤ k := by simp [-getElem?_pos]; omega
  exact Nat.mul_le_mul_left _ (by omega)
def sumN (l : List Cnt) (k : Nat) : Nat := ((l.take k).map (·.n)).sum
theorem sumN_succ {l : List Cnt} {k : Nat} {x : Cnt} (h : l[k]? = some x) : sumN l (k + 1) = sumN l k + x.n := by
  unfold sumN; rw [take_snoc h]; simp [-getElem?_pos]
theorem sumN_le {l : List Cnt} (h : ∀ x ∈ l, x.n ≤ 1000000) (k : Nat) : sumN l k ≤ 1000000 * k := by
  induction k with
  | zero => simp [-getElem?_pos, sumN]
  | succ k ih =>
    cases hx : l[k]? with
    | none =>
      have : sumN l (k + 1) = sumN l k := by unfold sumN; rw [List.take_add_one, hx]; simp [-getElem?_pos]
      rw [this]; omega
    | some x => rw [sumN_succ hx]; have := h x (List.mem_of_getElem? hx); omega
def keptB (x : Str) (n : Int) (y : Cnt) : Bool := y.name == x && decide (n ≤ y.n) && decide ((y.n : Int) ≤ n + 1)
theorem counts34_ok (cs : List Chain) (ks : List Str) (t more : Str) (hcs : cs.length ≤ 1000000000) (hks : ks.length ≤ 1000000000) (hf : fewS cs = true → FitsAll cs) (s : List SO) :
    FnOK Tryz.prog GW 6 [chains cs, .c (texts ks), .c (.str t), .c (.str more)] s (.c (.bool true)) s := by
  refine agoralaw34_LabelCounts_F.pu { own := [(11, 9, 1), (55, 9, 1)], frz := [(10, [11])] } (by simp [-getElem?_pos]) rfl ?_
  simp [-getElem?_pos, List.lookup, mixed, chains]
  refine callW0 (res := .c (.bool true)) (fun s => small34_ok s) rfl ?_
  simp [-getElem?_pos, List.lookup, mixed, chains]
  refine callW0 (few34_ok cs (by omega)) rfl ?_
  simp [-getElem?_pos, List.lookup, mixed, chains, texts]
  refine exY_i (decide (8 < (ks.length : Int))) ⟨fun _ => rfl, fun hw h8 => ?_⟩
  simp only [decide_eq_false_iff_not] at h8
  replace hf := hf hw
  have hfit := fun k => fits_find hf k
  have hacts := fun k => few_acts hw k
  refine callW0 (ofL_ok cs ks t hcs hfit hacts (by omega)) rfl ?_
  have hnl := namesS_len digestS cs t hacts ks
  have hLl : (ofLS digestS cs ks t).length ≤ 1000 * ks.length := by
    unfold ofLS countsS
    rw [List.length_map, (sorted_perm _).length_eq]
    exact Nat.le_trans (len_le_of_mem (cntM_ok _).1 fun x hx => ((cntM_ok _).2.1 x).1 hx) hnl
  have hMl : (ofLS digestS cs (more :: backL ks ks.length) t).length ≤ 1000000 := by
    have h1 := namesS_len digestS cs t hacts (more :: backL ks ks.length)
    have h2 := backL_len ks ks.length
    unfold ofLS countsS
    rw [List.length_map, (sorted_perm _).length_eq]
    refine Nat.le_trans (len_le_of_mem (cntM_ok _).1 fun x hx => ((cntM_ok _).2.1 x).1 hx) ?_
    simp [-getElem?_pos] at h1; omega
  have hcnt : ∀ x ∈ ofLS digestS cs ks t, x.n = cntD cs t ks x.name ks.length ∧ 1 ≤ x.n := fun x hx => by
    obtain ⟨h1, h2⟩ := (countsS_mem _ _).1 hx
    refine ⟨?_, by rw [h2]; exact List.one_le_count_iff.2 h1⟩
    rw [h2, names_count]
    unfold cntD
    rw [List.take_length]
  have hkept : ∀ x ∈ ofLS digestS cs ks t, (ofLS digestS cs (more :: backL ks ks.length) t).any (keptB x.name x.n) = true := fun x hx => by
    obtain ⟨y, hy, h1, h2, h3⟩ := ofLS_more (more := more) hx
    have e : ofLS digestS cs (more :: ks) t = ofLS digestS cs (more :: backL ks ks.length) t := ofLS_congr fun k => by rw [List.mem_cons, List.mem_cons, backL_mem]
    rw [e] at hy
    refine List.any_eq_true.2 ⟨y, hy, ?_⟩
    simp [-getElem?_pos, keptB, h1]; omega
  have hasc : (ofLS digestS cs ks t).Pairwise (fun x y => x.name < y.name) := countsS_lt _
  have hsum : sumN (ofLS digestS cs ks t) (ofLS digestS cs ks t).length = lenD cs t ks ks.length := by
    unfold sumN lenD
    rw [List.take_length, List.take_length]
    exact ofLS_sum ks
  have hsame : ofLS digestS cs (backL ks ks.length) t = ofLS digestS cs ks t := ofLS_congr fun k => backL_mem ks k
  have hvl : ∀ b, (validS digestS cs b t).length ≤ 1000 := fun b => Nat.le_trans (validS_len _ _ _ _) (hacts b)
  generalize hL : ofLS digestS cs ks t = L at hLl hcnt hkept hasc hsum hsame ⊢
  simp [-getElem?_pos, List.lookup, mixed, chains, texts, counts]
  have hw1 : IntKind.i64.wrap ((ks.length : Int) - 1) = (ks.length : Int) - 1 := IntWalk.i64_in _ (by omega)
  refine loopM_intro (fun m e st => ∃ (j ep : Nat), m = ks.length - j ∧ j ≤ ks.length ∧ st = s ++ [.arr 9 1 ep ((backL ks j).map fun s => [C.str s])] ∧
    e = [(12, .c (I ((ks.length : Int) - 1 - (j : Int)))), (11, .own s.length ep), (10, .c (counts L)), (9, .c (.bool true)), (0, chains cs), (1, .c (texts ks)), (2, .c (.str t)), (3, .c (.str more))]) ks.length _ ?_ ⟨0, 0, rfl, Nat.zero_le _, by simp [-getElem?_pos, backL], rfl⟩ ?_
  · simp [-getElem?_pos, texts, chains, counts, hw1]
  rintro m e st ⟨j, ep, rfl, hj, rfl, rfl⟩
  by_cases hjl : j < ks.length
  · have hlt : ks.length - 1 - j < ks.length := by omega
    obtain ⟨k, hk⟩ := get_of_lt hlt
    have hrev : ks.reverse[j]? = some k := by rw [List.getElem?_reverse hjl]; exact hk
    have hn : ((ks.length : Int) - 1 - (j : Int)).toNat = ks.length - 1 - j := by omega
    have h0 : (0 : Int) ≤ (ks.length : Int) - 1 - (j : Int) := by omega
    have hbl := backL_len ks j
    have hwj : IntKind.i64.wrap ((ks.length : Int) - 1 - (j : Int) - 1) = (ks.length : Int) - 1 - ((j + 1 : Nat) : Int) := by rw [IntWalk.i64_in _ (by omega)]; omega
    simp [-getElem?_pos, List.lookup, mixed, texts, chains, counts, h0, hn, hk]
    refine ⟨fun _ => ⟨by omega, by omega, by omega, againM_i _ _ ?_ ?_ ⟨j + 1, ep + 1, rfl, hjl, ?_, rfl⟩⟩, fun hc => absurd hc (by omega)⟩
    · omega
    · simp [-getElem?_pos, hwj, texts, chains, counts]
    · rw [backL_succ hrev]; simp [-getElem?_pos]
  have hje : j = ks.length := by omega
  subst hje
  have hbl := backL_len ks ks.length
  have hneg : ¬ (0 : Int) ≤ (ks.length : Int) - 1 - (ks.length : Int) := by omega
  simp [-getElem?_pos, List.lookup, mixed, texts, chains, counts, hneg]
  refine ⟨fun h => absurd h (by omega), fun _ => ⟨by omega, by omega, ?_⟩⟩
  refine callW2 (FnOK.frz (id := s.length + 1) (ep := 1) (ety := 9) (esz := 1) (xs := (more :: backL ks ks.length).map fun s => [C.str s]) (by simp [-getElem?_pos]) (vs' := [chains cs, .c (texts (more :: backL ks ks.length)), .c (.str t)]) (by simp [-getElem?_pos, chains, texts])
    (ofL_ok cs (more :: backL ks ks.length) t hcs hfit hacts (by simp [-getElem?_pos]; omega) _)) rfl ?_
  generalize hM : ofLS digestS cs (more :: backL ks ks.length) t = M at hMl hkept ⊢
  simp (config := { maxSteps := 10000000 }) [-getElem?_pos, List.lookup, mixed, texts, chains, counts, Cnt.cells]
  refine callW0 (ofL_ok cs (backL ks ks.length) t hcs hfit hacts (by omega)) rfl ?_
  rw [hsame]
  simp (config := { maxSteps := 10000000 }) [-getElem?_pos, List.lookup, mixed, texts, chains, counts, Cnt.cells]
  refine callW0 (sameC_ok L L (by omega)) rfl ?_
  rw [(eqLg_iff (fun _ _ => cntEq_iff)).2 rfl]
  simp (config := { maxSteps := 10000000 }) [-getElem?_pos, List.lookup, mixed, texts, chains, counts, Cnt.cells]
  have hn6 : ∀ x ∈ L, x.n ≤ 1000000 := fun x hx => by
    have := (hcnt x hx).1
    have := cntD_le cs t ks x.name ks.length
    omega
  refine loopM_intro (fun m e st => ∃ i : Nat, m = L.length - i ∧ i ≤ L.length ∧ st = s ++ [.dead, .dead] ∧
    e = [(15, .c (I i)), (14, .c (I (sumN L i))), (13, .c (counts M)), (10, .c (counts L)), (9, .c (.bool true)), (0, chains cs), (1, .c (texts ks)), (2, .c (.str t))]) L.length _ ?_ ⟨0, rfl, Nat.zero_le _, rfl, rfl⟩ ?_
  · simp [-getElem?_pos, texts, chains, counts, Cnt.cells, sumN]
  rintro m e st ⟨i, rfl, hi, rfl, rfl⟩
  by_cases h : i < L.length
  · obtain ⟨x, hx⟩ := get_of_lt h
    have hw := wrap_succ h (by omega)
    have hxm := List.mem_of_getElem? hx
    obtain ⟨hxn, hx1⟩ := hcnt x hxm
    have hxk := hkept x hxm
    have hsl := sumN_le hn6 i
    have hss := sumN_succ hx
    have hx6 := hn6 x hxm
    simp (config := { maxSteps := 10000000 }) [-getElem?_pos, List.lookup, mixed, texts, chains, counts, Cnt.cells, h, hx]
    refine loopM_intro (fun m e st => ∃ k : Nat, m = ks.length - k ∧ k ≤ ks.length ∧ st = s ++ [.dead, .dead] ∧
      e = [(17, .c (I k)), (16, .c (I (cntD cs t ks x.name k))), (15, .c (I i)), (14, .c (I (sumN L i))), (13, .c (counts M)), (10, .c (counts L)), (9, .c (.bool true)), (0, chains cs), (1, .c (texts ks)), (2, .c (.str t))]) ks.length _ ?_ ⟨0, rfl, Nat.zero_le _, rfl, rfl⟩ ?_
    · simp [-getElem?_pos, texts, chains, counts, Cnt.cells, cntD, distS]
    rintro m e st ⟨k, rfl, hk, rfl, rfl⟩
    by_cases hkl : k < ks.length
    · obtain ⟨b, hb⟩ := get_of_lt hkl
      have hwk := wrap_succ hkl (by omega)
      have hcs' := cntD_succ (cs := cs) (t := t) (x := x.name) hb
      have hcl := cntD_le cs t ks x.name k
      simp (config := { maxSteps := 10000000 }) [-getElem?_pos, List.lookup, mixed, texts, chains, counts, Cnt.cells, h, hx, hkl, hb]
      have hmt : List.take k (List.map (fun s => [C.str s]) ks) = (ks.take k).map fun s => [C.str s] := List.map_take.symm
      rw [hmt]
      refine ⟨by omega, callW0 (hasRef_ok (ks.take k) (by simp [-getElem?_pos]; omega) b) rfl ?_⟩
      generalize (ks.take k).any (fun x => x == b) = A at hcs' ⊢
      simp (config := { maxSteps := 10000000 }) [-getElem?_pos, List.lookup, mixed, texts, chains, counts, Cnt.cells, h, hx, hkl, hb]
      have hwn : IntKind.i64.wrap ((cntD cs t ks x.name k : Int) + 1) = ((cntD cs t ks x.name k + 1 : Nat) : Int) := by rw [IntWalk.i64_in _ (by omega)]; rfl
      refine exY_i ((validS digestS cs b t).any fun y => y == x.name) ⟨fun _ => ?_, fun hA hB => againM_i _ _ ?_ ?_ ⟨k + 1, rfl, hkl, rfl, rfl⟩, fun hn => againM_i _ _ ?_ ?_ ⟨k + 1, rfl, hkl, rfl, rfl⟩⟩
      · refine callW0 (valid_ok cs b t (by omega) (hfit b) (by have := hacts b; omega)) rfl ?_
        simp (config := { maxSteps := 10000000 }) [-getElem?_pos, List.lookup, mixed, texts, chains, counts, Cnt.cells, h, hx]
        refine callW0 (hasRef_ok (validS digestS cs b t) (by have := hvl b; omega) x.name) rfl ?_
        simp (config := { maxSteps := 10000000 }) [-getElem?_pos, List.lookup, mixed, texts, chains, counts, Cnt.cells]
      · omega
      · rw [hA, hB] at hcs'
        simp [-getElem?_pos] at hcs'
        simp [-getElem?_pos, hwk, hwn, hcs', texts, chains, counts, Cnt.cells]
      · omega
      · have hz : (!A && (validS digestS cs b t).any fun y => y == x.name) = false := by
          cases A with
          | true => rfl
          | false => simpa [-getElem?_pos] using hn rfl
        rw [hz] at hcs'
        simp [-getElem?_pos] at hcs'
        simp [-getElem?_pos, hwk, hcs', texts, chains, counts, Cnt.cells]
    have hke : k = ks.length := by omega
    subst hke
    rw [← hxn]
    generalize hX : x.n = xn at *
    simp (config := { maxSteps := 10000000 }) [-getElem?_pos, List.lookup, mixed, texts, chains, counts, Cnt.cells, h, hx]
    refine loopM_intro (fun m e st => ∃ k : Nat, m = M.length - k ∧ k ≤ M.length ∧ st = s ++ [.dead, .dead] ∧
      e = [(19, .c (I k)), (18, .c (.bool ((M.take k).any (keptB x.name xn)))), (16, .c (I xn)), (15, .c (I i)), (14, .c (I (sumN L i))), (13, .c (counts M)), (10, .c (counts L)), (9, .c (.bool true)), (0, chains cs), (1, .c (texts ks)), (2, .c (.str t))]) M.length _ ?_ ⟨0, rfl, Nat.zero_le _, rfl, rfl⟩ ?_
    · simp [-getElem?_pos, texts, chains, counts, Cnt.cells]
    rintro m e st ⟨k, rfl, hk, rfl, rfl⟩
    by_cases hkl : k < M.length
    · obtain ⟨y, hy⟩ := get_of_lt hkl
      have hwk := wrap_succ hkl (by omega)
      have hwx : IntKind.i64.wrap ((xn : Int) + 1) = (xn : Int) + 1 := IntWalk.i64_in _ (by omega)
      have hks : (M.take (k + 1)).any (keptB x.name xn) = ((M.take k).any (keptB x.name xn) || keptB x.name xn y) := by rw [take_snoc hy, List.any_append]; simp [-getElem?_pos]
      generalize (M.take k).any (keptB x.name xn) = K at hks
      simp (config := { maxSteps := 10000000 }) [-getElem?_pos, List.lookup, mixed, texts, chains, counts, Cnt.cells, h, hx, hkl, hy, hwx]
      refine exY_i (keptB x.name xn y) ⟨fun _ => exY_i (decide (xn ≤ y.n)) ⟨fun _ => rfl, exY_i (decide ((y.n : Int) ≤ (xn : Int) + 1)) ⟨fun _ _ => rfl, by simp [-getElem?_pos, keptB]⟩⟩, againM_i _ _ ?_ ?_ ⟨k + 1, rfl, hkl, rfl, rfl⟩⟩
      · omega
      · simp [-getElem?_pos, hwk, hks, texts, chains, counts, Cnt.cells]
    have hke : k = M.length := by omega
    subst hke
    rw [List.take_length, hxk]
    have hwt : IntKind.i64.wrap ((sumN L i : Int) + (xn : Int)) = ((sumN L i + xn : Nat) : Int) := by
      have h4 : 1000000 * i ≤ 1000000 * 8000 := Nat.mul_le_mul_left _ (by omega)
      rw [IntWalk.i64_in _ (by omega)]; rfl
    have hn1 : ¬ (xn : Int) < 1 := by omega
    by_cases hi0 : i = 0
    · subst hi0
      simp (config := { maxSteps := 10000000 }) [-getElem?_pos, List.lookup, mixed, texts, chains, counts, Cnt.cells, h, hx, hX, hn1]
      refine exY_i false ⟨rfl, exY_i false ⟨fun _ => exY_i false rfl, exY_i false ⟨fun _ _ => rfl, ⟨⟨rfl, rfl⟩, rfl⟩, fun _ _ _ => againM_i _ _ ?_ ?_ ⟨1, rfl, h, rfl, rfl⟩⟩⟩⟩
      · omega
      · simp [-getElem?_pos, show IntKind.i64.wrap 1 = 1 from by decide, hss, hwt, texts, chains, counts, Cnt.cells]
    · obtain ⟨z, hz⟩ := get_of_lt (show i - 1 < L.length by omega)
      have hzx : z.name < x.name := by
        rw [List.pairwise_iff_getElem] at hasc
        have := hasc (i - 1) i (by omega) h (by omega)
        rw [List.getElem?_eq_getElem (by omega)] at hx hz
        injection hx with hx
        injection hz with hz
        rw [hx, hz] at this
        exact this
      have hp : IntKind.i64.wrap ((i : Int) - 1) = ((i - 1 : Nat) : Int) := by rw [IntWalk.i64_in _ (by omega)]; omega
      have hpos : (0 : Int) < (i : Int) := by omega
      have hp0 : 0 < i := by omega
      simp (config := { maxSteps := 10000000 }) [-getElem?_pos, List.lookup, mixed, texts, chains, counts, Cnt.cells, h, hx, hz, hX, hn1, hp, hpos, hp0]
      refine exY_i false ⟨rfl, exY_i false ⟨fun _ => exY_i false ⟨by rw [lessR_i hzx]; rfl, rfl⟩, exY_i false ⟨fun _ _ => rfl, ⟨⟨rfl, rfl⟩, rfl⟩, fun _ _ _ => againM_i _ _ ?_ ?_ ⟨i + 1, rfl, h, rfl, rfl⟩⟩⟩⟩
      · omega
      · simp [-getElem?_pos, hw, hss, hwt, hX, texts, chains, counts, Cnt.cells]
  · have hie : i = L.length := by omega
    subst hie
    rw [hsum]
    simp (config := { maxSteps := 10000000 }) [-getElem?_pos, List.lookup, mixed, texts, chains, counts, Cnt.cells]
    have hl8 := lenD_le hvl ks ks.length
    refine loopM_intro (fun m e st => ∃ k : Nat, m = ks.length - k ∧ k ≤ ks.length ∧ st = s ++ [.dead, .dead] ∧
      e = [(20, .c (I k)), (14, .c (I ((lenD cs t ks ks.length : Int) - lenD cs t ks k))), (13, .c (counts M)), (10, .c (counts L)), (9, .c (.bool true)), (0, chains cs), (1, .c (texts ks)), (2, .c (.str t))]) ks.length _ ?_ ⟨0, rfl, Nat.zero_le _, rfl, rfl⟩ ?_
    · simp [-getElem?_pos, texts, chains, counts, Cnt.cells, lenD, distS]
    rintro m e st ⟨k, rfl, hk, rfl, rfl⟩
    by_cases hkl : k < ks.length
    · obtain ⟨b, hb⟩ := get_of_lt hkl
      have hwk := wrap_succ hkl (by omega)
      have hls := lenD_succ (cs := cs) (t := t) hb
      have hlk := lenD_le hvl ks k
      have hb1 := hvl b
      simp (config := { maxSteps := 10000000 }) [-getElem?_pos, List.lookup, mixed, texts, chains, counts, Cnt.cells, hkl, hb]
      have hmt : List.take k (List.map (fun s => [C.str s]) ks) = (ks.take k).map fun s => [C.str s] := List.map_take.symm
      rw [hmt]
      refine ⟨by omega, callW0 (hasRef_ok (ks.take k) (by simp [-getElem?_pos]; omega) b) rfl ?_⟩
      generalize (ks.take k).any (fun x => x == b) = A at hls ⊢
      cases A with
      | true =>
        simp (config := { maxSteps := 10000000 }) [-getElem?_pos, List.lookup, mixed, texts, chains, counts, Cnt.cells, hkl, hb]
        simp [-getElem?_pos] at hls
        refine againM_i _ _ ?_ ?_ ⟨k + 1, rfl, hkl, rfl, rfl⟩
        · omega
        · simp [-getElem?_pos, hwk, hls, texts, chains, counts, Cnt.cells]
      | false =>
        simp (config := { maxSteps := 10000000 }) [-getElem?_pos, List.lookup, mixed, texts, chains, counts, Cnt.cells, hkl, hb]
        refine callW0 (valid_ok cs b t (by omega) (hfit b) (by have := hacts b; omega)) rfl ?_
        simp (config := { maxSteps := 10000000 }) [-getElem?_pos, List.lookup, mixed, texts, chains, counts, Cnt.cells, hkl, hb]
        simp [-getElem?_pos] at hls
        have hwl : IntKind.i64.wrap ((lenD cs t ks ks.length : Int) - (lenD cs t ks k : Int) - ((validS digestS cs b t).length : Int)) = (lenD cs t ks ks.length : Int) - (lenD cs t ks (k + 1) : Int) := by
          have h4 : 1000 * k ≤ 1000 * 8 := Nat.mul_le_mul_left _ (by omega)
          have h5 : 1000 * ks.length ≤ 1000 * 8 := Nat.mul_le_mul_left _ (by omega)
          rw [hls, IntWalk.i64_in _ (by omega)]; omega
        refine againM_i _ _ ?_ ?_ ⟨k + 1, rfl, hkl, rfl, rfl⟩
        · omega
        · simp [-getElem?_pos, hwk, hwl, texts, chains, counts, Cnt.cells]
    · have hke : k = ks.length := by omega
      subst hke
      simp (config := { maxSteps := 10000000 }) [-getElem?_pos, List.lookup, mixed, texts, chains, counts, Cnt.cells]
      exact exY_i true rfl
end Go.Proofs.YthkmfboffnhkaaaGreatDoor
