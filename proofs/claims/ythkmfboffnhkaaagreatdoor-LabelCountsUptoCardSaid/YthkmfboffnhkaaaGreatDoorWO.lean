/-
  Walks: label.Of, label.Reports, the labels' small examples.
-/
import Derived.Test.YthkmfboffnhkaaaGreatDoorWM
set_option linter.all false
namespace Go.Proofs.YthkmfboffnhkaaaGreatDoor
attribute [local simp] label_Of_R0 label_Of_R1 label_Of_R2 label_Of_R3 label_Of_R4 label_Of_R5 label_Of_R6 label_Of_R7 label_Of_R8 label_Of_R9 label_Of_R10 label_Of_R11 label_Of_B3 label_Of_R12 label_Of_W1 label_Of_B2 label_Of_B1 label_Of_R13 label_Of_W2 label_Of_B0 label_Of_R14 label_Of_R15 label_Of_R16 label_Of_R17 label_Of_R18 label_Of_B5 label_Of_R19 label_Of_W3 label_Of_B4 label_Of_R20 label_Of_L label_Of_ks
open Go Go.L1 Go.RowKit Go.Maps
set_option maxRecDepth 100000
set_option maxHeartbeats 4000000

theorem keysM_give : KeysGive 105 := fun b r nn D0 R w hb hm hown =>
  AnyZ.keys_gives (ρ := Tryz.keysM_ren) { Tryz.keysM with } Fence.wide _ trivial rfl (by omega) b r nn D0 _ hb hm hown
theorem cntM_snoc (ns : List Str) (x : Str) : cntM (ns ++ [x]) = incM x (cntM ns) := by unfold cntM; rw [List.foldl_append]; rfl
theorem namesS_snoc (dg : Act → Str) (cs : List Chain) (ks : List Str) (k t : Str) : namesS dg cs (ks ++ [k]) t = if k ∈ distS ks then namesS dg cs ks t else namesS dg cs ks t ++ validS dg cs k t := by
  unfold namesS
  rw [distS_snoc]
  split
  · rfl
  · rw [List.flatMap_append]; simp [-getElem?_pos]
theorem namesS_len (dg : Act → Str) (cs : List Chain) (t : Str) (hl : ∀ k, (findC cs k).acts.length ≤ 1000) (ks : List Str) : (namesS dg cs ks t).length ≤ 1000 * ks.length := by
  have key : ∀ D : List Str, (D.flatMap fun b => validS dg cs b t).length ≤ 1000 * D.length := by
    intro D
    induction D with
    | nil => simp [-getElem?_pos]
    | cons b D ih =>
      have h1 := validS_len dg cs b t
      have h2 := hl b
      simp only [List.flatMap_cons, List.length_append, List.length_cons]
      omega
  have h1 := key (distS ks)
  have h2 := distS_len ks
  unfold namesS
  have := Nat.mul_le_mul_left 1000 h2
  omega
theorem ofL_ok (cs : List Chain) (ks : List Str) (t : Str) (hcs : cs.length ≤ 1000000000) (hc : ∀ k, ∀ a ∈ (findC cs k).acts, a.Fits) (hl : ∀ k, (findC cs k).acts.length ≤ 1000) (hks : ks.length ≤ 100000) (s : List SO) :
    FnOK Tryz.prog GW 24 [chains cs, .c (texts ks), .c (.str t)] s (.c (counts (ofLS digestS cs ks t))) s := by
  refine label_Of_F.pu { own := [(13, 55, 2)], frz := [(999, [6])] } (by simp [-getElem?_pos]) rfl ?_
  simp [-getElem?_pos, List.lookup, mixed, chains, texts]
  refine loopM_intro (fun m e st => ∃ k : Nat, m = ks.length - k ∧ k ≤ ks.length ∧ st = s ++ [.map false false (setC (distS (ks.take k))), .map false false (cntC (cntM (namesS digestS cs (ks.take k) t)))] ∧
    e = [(20, .c (I k)), (19, .c (I ks.length)), (18, .c (texts ks)), (8, .mref (s.length + 1)), (7, .mref s.length), (0, chains cs), (2, .c (.str t))]) ks.length _ ?_
    ⟨0, rfl, Nat.zero_le _, by simp [-getElem?_pos, distS, setC, namesS, cntM, cntC], rfl⟩ ?_
  · simp [-getElem?_pos, texts, chains]
  rintro m e st ⟨k, rfl, hk, rfl, rfl⟩
  by_cases h : k < ks.length
  · obtain ⟨x, hx⟩ := get_of_lt h
    have hw := wrap_succ h (by omega)
    have htk : ks.take (k + 1) = ks.take k ++ [x] := by rw [List.take_add_one, hx]; rfl
    have hd := distS_snoc (ks.take k) x
    have hn := namesS_snoc digestS cs (ks.take k) x t
    rw [← htk] at hd hn
    have hnl := namesS_len digestS cs t hl (ks.take k)
    have hkl : (ks.take k).length ≤ 100000 := by simp [-getElem?_pos]; omega
    generalize distS (ks.take k) = D at hd hn
    generalize namesS digestS cs (ks.take k) t = ns at hn hnl
    by_cases hm : x ∈ D
    · obtain ⟨j, q1, _⟩ := (setC_find x D 0).1 hm
      rw [if_pos hm] at hd hn
      simp [-getElem?_pos, List.lookup, mixed, texts, chains, h, hx, setC_keys, q1, valV]
      refine againM_i _ _ ?_ ?_ ⟨k + 1, rfl, h, by rw [hd, hn], rfl⟩
      · omega
      · simp [-getElem?_pos, hw, texts, chains]
    · have q1 := (setC_find x D 0).2 hm
      rw [if_neg hm] at hd hn
      simp [-getElem?_pos, List.lookup, mixed, texts, chains, h, hx, setC_keys, q1]
      rw [setC_put, if_neg hm]
      refine callW0 (valid_ok cs x t (by omega) (hc x) (by have := hl x; omega)) rfl ?_
      have hvl := validS_len digestS cs x t
      have hal := hl x
      generalize validS digestS cs x t = v at hn hvl
      simp [-getElem?_pos, List.lookup, mixed, texts, chains]
      refine loopM_intro (fun m e st => ∃ j : Nat, m = v.length - j ∧ j ≤ v.length ∧ st = s ++ [.map false false (setC (D ++ [x])), .map false false (cntC (cntM (ns ++ v.take j)))] ∧
        e = [(34, .c (I j)), (33, .c (I v.length)), (32, .c (texts v)), (20, .c (I k)), (19, .c (I ks.length)), (18, .c (texts ks)), (8, .mref (s.length + 1)), (7, .mref s.length), (0, chains cs), (2, .c (.str t))]) v.length _ ?_
        ⟨0, rfl, Nat.zero_le _, by simp [-getElem?_pos], rfl⟩ ?_
      · simp [-getElem?_pos, texts, chains]
      rintro m e st ⟨j, rfl, hj, rfl, rfl⟩
      by_cases hjl : j < v.length
      · obtain ⟨y, hy⟩ := get_of_lt hjl
        have hwj := wrap_succ hjl (by omega)
        have htj : v.take (j + 1) = v.take j ++ [y] := by rw [List.take_add_one, hy]; rfl
        have hcm : cntM (ns ++ v.take (j + 1)) = incM y (cntM (ns ++ v.take j)) := by rw [htj, ← List.append_assoc, cntM_snoc]
        have hgl : getM y (cntM (ns ++ v.take j)) ≤ 200000000 := by
          rw [(cntM_ok _).2.2]
          refine Nat.le_trans List.count_le_length ?_
          simp [-getElem?_pos]; omega
        generalize cntM (ns ++ v.take j) = M at hcm hgl
        have hwg : IntKind.i64.wrap ((getM y M : Int) + 1) = ((getM y M + 1 : Nat) : Int) := by rw [IntWalk.i64_in _ (by omega)]; rfl
        have hput : mput (.str y) [C.int .i64 ((getM y M : Int) + 1)] (cntC M) = cntC (incM y M) := cntC_put (k := y) (m := M) (v := getM y M + 1) rfl
        by_cases hym : y ∈ M.map (·.1)
        · obtain ⟨i, q2, _⟩ := (cntC_find y M 0).1 hym
          simp [-getElem?_pos, List.lookup, mixed, texts, chains, hjl, hy, cntC_keys, q2, valV, hwg]
          refine againM_i _ _ ?_ ?_ ⟨j + 1, rfl, hjl, by rw [hput, hcm], rfl⟩
          · omega
          · simp [-getElem?_pos, hwj, texts, chains]
        · obtain ⟨q2, q3, _⟩ := (cntC_find y M 0).2 hym
          have hw1 : IntKind.i64.wrap 1 = 1 := by decide
          rw [q3] at hput
          simp [-getElem?_pos, List.lookup, mixed, texts, chains, hjl, hy, cntC_keys, q2, valV, hw1]
          refine againM_i _ _ ?_ ?_ ⟨j + 1, rfl, hjl, ?_, rfl⟩
          · omega
          · simp [-getElem?_pos, hwj, texts, chains]
          · rw [hcm, ← hput]; simp [-getElem?_pos]
      · have hje : j = v.length := by omega
        subst hje
        simp [-getElem?_pos, List.lookup, mixed, texts, chains]
        refine againM_i _ _ ?_ ?_ ⟨k + 1, rfl, h, by rw [hd, hn], rfl⟩
        · omega
        · simp [-getElem?_pos, hw, texts, chains]
  · have hke : k = ks.length := by omega
    subst hke
    have hok := cntM_ok (namesS digestS cs (ks.take ks.length) t)
    have hof : ofLS digestS cs ks t = (sorted ((cntM (namesS digestS cs (ks.take ks.length) t)).map (·.1))).map fun k => ⟨k, getM k (cntM (namesS digestS cs (ks.take ks.length) t))⟩ := by
      unfold ofLS countsS
      rw [List.take_length]
      refine List.map_congr_left fun k _ => ?_
      rw [(cntM_ok _).2.2]
    have hwfM : ∀ k ∈ (cntM (namesS digestS cs (ks.take ks.length) t)).map (·.1), k.length ≤ 9223372036854775807 := fun k hk => by
      have := (hok.2.1 k).1 hk
      unfold namesS at this
      obtain ⟨b, _, hb⟩ := List.mem_flatMap.1 this
      obtain ⟨a, ha, _, hat, _⟩ := validS_mem hb
      have := (hc b a ha).text
      unfold tooBig at this
      rw [← hat]; omega
    have hlM : ((cntM (namesS digestS cs (ks.take ks.length) t)).map (·.1)).length ≤ 1000000000 := by
      have h1 : ((cntM (namesS digestS cs (ks.take ks.length) t)).map (·.1)).length ≤ (namesS digestS cs (ks.take ks.length) t).length := len_le_of_mem hok.1 fun x hx => (hok.2.1 x).1 hx
      have h2 := namesS_len digestS cs t hl (ks.take ks.length)
      rw [List.take_length] at h2
      rw [List.take_length] at h1 ⊢
      omega
    have hgM : ∀ k, getM k (cntM (namesS digestS cs (ks.take ks.length) t)) ≤ 200000000 := fun k => by
      rw [hok.2.2]
      have h2 := namesS_len digestS cs t hl (ks.take ks.length)
      rw [List.take_length] at h2
      have := List.count_le_length (a := k) (l := namesS digestS cs (ks.take ks.length) t)
      rw [List.take_length] at this ⊢
      omega
    have hnd := hok.1
    generalize cntM (namesS digestS cs (ks.take ks.length) t) = M at hof hwfM hlM hnd hgM ⊢
    simp [-getElem?_pos, List.lookup, mixed, texts, chains]
    refine callW2 (keys_of (g := 65) (F := 105) (by kernel_rfl) Tryz.keysM_in) rfl ?_
    simp [-getElem?_pos, List.lookup, mixed, texts, chains]
    refine callW1 (sortedSeqD_ok (M.map (·.1)) hwfM (enters_of Tryz.func105 (by kernel_rfl) rfl) (keysStr_seq (F := 105) keysM_give (M.map (·.1)) (cntC M) (by simp [-getElem?_pos, cntC]) hnd hwfM hlM (ag := false) (bid := s.length + 3) (id := s.length + 1) (by simp [-getElem?_pos]) (by simp [-getElem?_pos]))) rfl ?_
    have hK : ∀ k ∈ sorted (M.map (·.1)), k ∈ M.map (·.1) := fun k hk => (sorted_perm _).mem_iff.1 hk
    have hKl : (sorted (M.map (·.1))).length ≤ 1000000000 := by rw [(sorted_perm _).length_eq]; exact hlM
    generalize sorted (M.map (·.1)) = K at hof hK hKl ⊢
    simp [-getElem?_pos, List.lookup, mixed, texts, chains, strs]
    generalize distS ks = D
    refine loopM_intro (fun m e st => ∃ (i ep : Nat), m = K.length - i ∧ i ≤ K.length ∧ st = s ++ [.map false false (setC D), .map false false (cntC M), .arr 55 2 ep ((K.take i).map fun k => [C.str k, I (getM k M)]), .box [.mref (s.length + 1)]] ∧
      e = [(48, .c (I i)), (47, .c (I K.length)), (46, .c (texts K)), (13, .own (s.length + 2) ep), (8, .mref (s.length + 1))]) K.length _ ?_ ⟨0, 0, rfl, Nat.zero_le _, by simp [-getElem?_pos], rfl⟩ ?_
    · simp [-getElem?_pos, texts]
    rintro m e st ⟨i, ep, rfl, hi, rfl, rfl⟩
    by_cases hil : i < K.length
    · obtain ⟨x, hx⟩ := get_of_lt hil
      have hwi := wrap_succ hil (by omega)
      obtain ⟨j, q2, _⟩ := (cntC_find x M 0).1 (hK x (List.mem_of_getElem? hx))
      simp [-getElem?_pos, List.lookup, mixed, texts, hil, hx, cntC_keys, q2, valV]
      refine ⟨by omega, by omega, againM_i _ _ ?_ ?_ ⟨i + 1, ep + 1, rfl, hil, ?_, rfl⟩⟩
      · omega
      · simp [-getElem?_pos, hwi, texts]
      · rw [List.take_add_one, hx]; simp [-getElem?_pos]
    · have hie : i = K.length := by omega
      subst hie
      simp [-getElem?_pos, List.lookup, mixed, texts, hof, counts, Cnt.cells, Function.comp_def]
end Go.Proofs.YthkmfboffnhkaaaGreatDoor
