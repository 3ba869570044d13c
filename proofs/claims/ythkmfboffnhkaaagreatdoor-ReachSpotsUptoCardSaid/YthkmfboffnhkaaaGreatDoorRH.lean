/-
  Walks: ReachSpots.
-/
import Derived.Test.YthkmfboffnhkaaaGreatDoorRG
import Derived.Test.YthkmfboffnhkaaaGreatDoorRE
import Derived.Test.YthkmfboffnhkaaaGreatDoorTU
set_option linter.all false
namespace Go.Proofs.YthkmfboffnhkaaaGreatDoor
attribute [local simp] agoralaw25_ReachSpots_R0 agoralaw25_ReachSpots_R1 agoralaw25_ReachSpots_R2 agoralaw25_ReachSpots_R3 agoralaw25_ReachSpots_R4 agoralaw25_ReachSpots_R5 agoralaw25_ReachSpots_R6 agoralaw25_ReachSpots_R7 agoralaw25_ReachSpots_R8 agoralaw25_ReachSpots_R10 agoralaw25_ReachSpots_R11 agoralaw25_ReachSpots_R12 agoralaw25_ReachSpots_R14 agoralaw25_ReachSpots_R15 agoralaw25_ReachSpots_R16 agoralaw25_ReachSpots_R17 agoralaw25_ReachSpots_R18 agoralaw25_ReachSpots_R19 agoralaw25_ReachSpots_R20 agoralaw25_ReachSpots_R21 agoralaw25_ReachSpots_R22 agoralaw25_ReachSpots_B3 agoralaw25_ReachSpots_R13 agoralaw25_ReachSpots_W1 agoralaw25_ReachSpots_B2 agoralaw25_ReachSpots_R23 agoralaw25_ReachSpots_R24 agoralaw25_ReachSpots_B1 agoralaw25_ReachSpots_R9 agoralaw25_ReachSpots_W2 agoralaw25_ReachSpots_B0 agoralaw25_ReachSpots_R25 agoralaw25_ReachSpots_L agoralaw25_ReachSpots_ks
open Go Go.L1 Go.RowKit Go.Maps
set_option maxRecDepth 100000
set_option maxHeartbeats 40000000

theorem spotK_pre (c : Chain) (r : Str) (i : Nat) : ∀ n, i ≤ n → ∃ t, spotK c r n = spotK c r i ++ t
  | 0, h => ⟨[], by obtain rfl : i = 0 := by omega
                    simp [-getElem?_pos]⟩
  | n + 1, h => by
    by_cases he : i = n + 1
    · exact ⟨[], by rw [he]; simp [-getElem?_pos]⟩
    · obtain ⟨t, ht⟩ := spotK_pre c r i n (by omega)
      exact ⟨_, by rw [spotK_succ, ht, List.append_assoc]⟩
theorem spotsN_pre (cs : List Chain) (r : Str) (k : Nat) : ∀ n, k ≤ n → n ≤ cs.length → ∃ t, spotsN cs r n = spotsN cs r k ++ t
  | 0, h, _ => ⟨[], by obtain rfl : k = 0 := by omega
                       simp [-getElem?_pos]⟩
  | n + 1, h, hn => by
    by_cases he : k = n + 1
    · exact ⟨[], by rw [he]; simp [-getElem?_pos]⟩
    · obtain ⟨t, ht⟩ := spotsN_pre cs r k n (by omega) (by omega)
      obtain ⟨c, hc⟩ := get_of_lt (show n < cs.length by omega)
      exact ⟨_, by rw [spotsN_succ hc, ht, List.append_assoc]⟩
theorem spots_get {cs : List Chain} {k : Nat} {c : Chain} (hk : cs[k]? = some c) (r : Str) {i : Nat} (hi : i < c.acts.length) (hw : wantT c i = true) (hm : mayS digestS c i r = true) :
    (spotsN cs r cs.length)[(spotsN cs r k).length + (spotK c r i).length]? = some (spotC c i) := by
  have hlt := lt_of_some hk
  obtain ⟨t, ht⟩ := spotsN_pre cs r (k + 1) cs.length (by omega) (Nat.le_refl _)
  obtain ⟨u, hu⟩ := spotK_pre c r (i + 1) c.acts.length (by omega)
  rw [ht, spotsN_succ hk, hu, spotK_succ, if_pos ⟨hw, hm⟩]
  rw [List.append_assoc, List.getElem?_append_right (Nat.le_add_right _ _), Nat.add_sub_cancel_left]
  rw [List.map_append, List.map_append, List.append_assoc, List.append_assoc, List.getElem?_append_right (by simp [-getElem?_pos])]
  simp [-getElem?_pos]
def ownN (c : Chain) (i : Nat) : Nat := ((List.range i).filter (wantT c)).length
theorem ownN_succ (c : Chain) (i : Nat) : ownN c (i + 1) = ownN c i + if wantT c i = true then 1 else 0 := by
  unfold ownN
  rw [List.range_succ, List.filter_append, List.length_append]
  congr 1
  by_cases h : wantT c i = true <;> simp [-getElem?_pos, h]
theorem ownN_le (c : Chain) (i : Nat) : ownN c i ≤ i := Nat.le_trans (List.length_filter_le _ _) (by simp [-getElem?_pos])
theorem spotK_own (c : Chain) : ∀ i, i ≤ c.acts.length → (spotK c c.id i).length = ownN c i
  | 0, _ => rfl
  | i + 1, h => by
    rw [spotK_succ, ownN_succ, List.length_append, spotK_own c i (by omega)]
    by_cases hw : wantT c i = true
    · obtain ⟨a, ha⟩ := get_of_lt (show i < c.acts.length by omega)
      have ht : isText a.kind = true := by simpa [-getElem?_pos, wantT, ha] using hw
      rw [if_pos ⟨hw, mayS_own c i a ha ht⟩, if_pos hw]
      rfl
    · rw [if_neg (fun h => hw h.1), if_neg hw]; rfl
theorem spots_one (c : Chain) : (spotsN [c] c.id 1).length = ownN c c.acts.length := by
  rw [← spotK_own c _ (Nat.le_refl _)]
  simp [-getElem?_pos, spotsN]
theorem spots25_ok (cs : List Chain) (r : Str) (hf : fewS cs = true → FitsAll cs) (hl : cs.length ≤ tooBig) (s : List SO) :
    FnOK Tryz.prog GW 11 [chains cs, .c (.str r)] s (.c (.bool true)) s := by
  have big : tooBig = 1048576 := rfl
  refine agoralaw25_ReachSpots_F.pu {} (by simp [-getElem?_pos]) rfl ?_
  simp (config := { maxSteps := 10000000 }) [-getElem?_pos, List.lookup, mixed, chains]
  refine callW0 small25_ok rfl ?_
  simp (config := { maxSteps := 10000000 }) [-getElem?_pos, List.lookup, mixed, chains]
  refine callW0 (few25_ok cs (by omega)) rfl ?_
  simp (config := { maxSteps := 10000000 }) [-getElem?_pos, List.lookup, mixed, chains]
  intro hw
  replace hf := hf hw
  have hfew : cs.length ≤ 6 ∧ ∀ c ∈ cs, c.acts.length ≤ 24 := by
    simp only [fewS, Bool.and_eq_true, decide_eq_true_eq, List.all_eq_true] at hw
    exact ⟨hw.1, fun c hc => by have := hw.2 c hc; simp only [chainFew, Bool.and_eq_true, decide_eq_true_eq] at this; exact this.1⟩
  have hcc : ∀ c ∈ cs, (∀ a ∈ c.acts, a.Fits) ∧ c.acts.length ≤ 100000 := fun c hc => ⟨hf c hc, by have := hfew.2 c hc; omega⟩
  refine callW0 (spots_ok cs r (by omega) hcc) rfl ?_
  have hSl := spotsN_len cs r (fun c h => (hcc c h).2)
  simp (config := { maxSteps := 10000000 }) [-getElem?_pos, List.lookup, mixed, chains]
  refine loopM_intro (fun m e st => ∃ k pub : Nat, m = cs.length - k ∧ k ≤ cs.length ∧ st = s ∧ pub ≤ (spotsN cs r k).length ∧
    e = [(9, .c (I k)), (8, .c (I pub)), (7, .c (I (spotsN cs r k).length)), (6, .c (.sl (spotsN cs r cs.length))), (5, .c (.bool true)), (0, chains cs), (1, .c (.str r))]) cs.length _ ?_ ⟨0, 0, rfl, Nat.zero_le _, rfl, Nat.zero_le _, rfl⟩ ?_
  · simp [-getElem?_pos, chains, spotsN]
  rintro m e st ⟨k, pub, rfl, hk, rfl, hpub, rfl⟩
  by_cases h : k < cs.length
  · obtain ⟨c, hc⟩ := get_of_lt h
    have hcm := List.mem_of_getElem? hc
    have hwk := wrap_succ h (by omega)
    have h24 := hfew.2 c hcm
    have hfc := hf c hcm
    have hSk := hSl k hk
    simp (config := { maxSteps := 10000000 }) [-getElem?_pos, List.lookup, mixed, chains, h, hc, Chain.cells]
    refine loopM_intro (fun m e st' => ∃ i p q : Nat, m = c.acts.length - i ∧ i ≤ c.acts.length ∧ st' = st ∧ q = (spotsN cs r k).length + (spotK c r i).length ∧ p ≤ q ∧
      e = [(11, .c (I i)), (10, .c (I (ownN c i))), (9, .c (I k)), (8, .c (I p)), (7, .c (I q)), (6, .c (.sl (spotsN cs r cs.length))), (5, .c (.bool true)), (0, chains cs), (1, .c (.str r))]) c.acts.length _ ?_ ⟨0, pub, (spotsN cs r k).length, rfl, Nat.zero_le _, rfl, by simp [-getElem?_pos, spotK], by omega, rfl⟩ ?_
    · simp [-getElem?_pos, chains, ownN, spotK]
    rintro m e st' ⟨i, p, q, rfl, hi, rfl, hq, hp, rfl⟩
    by_cases hil : i < c.acts.length
    · obtain ⟨a, ha⟩ := get_of_lt hil
      have hwi := wrap_succ hil (by omega)
      simp (config := { maxSteps := 10000000 }) [-getElem?_pos, List.lookup, mixed, chains, h, hc, Chain.cells, hil, ha, Act.cells]
      refine callW0 (posting_ok a.kind) rfl ?_
      simp (config := { maxSteps := 10000000 }) [-getElem?_pos, List.lookup, mixed, chains, h, hc, Chain.cells, hil, ha, Act.cells]
      have hit : isText a.kind = (isPosting a.kind || a.kind == 14) := rfl
      have hwt : wantT c i = isText a.kind := by simp only [wantT, ha]
      have hsu := spotK_succ c r i
      have hou := ownN_succ c i
      refine exY_i (a.kind != 14) ⟨fun _ => rfl, fun q1 q2 => ?_, fun hqq => ?_⟩
      · have hnt : wantT c i = false := by rw [hwt, hit, q1]; simpa [-getElem?_pos] using q2
        rw [if_neg (by rw [hnt]; simp [-getElem?_pos])] at hsu hou
        refine againM_i _ _ ?_ ?_ ⟨i + 1, p, q, rfl, hil, rfl, by rw [hsu]; simpa [-getElem?_pos] using hq, hp, rfl⟩
        · omega
        · simp [-getElem?_pos, hwi, chains, hou]
      have htt : wantT c i = true := by
        rw [hwt, hit]
        cases hpp : isPosting a.kind with
        | true => rfl
        | false => simpa [-getElem?_pos] using hqq hpp
      have htx : isText a.kind = true := by rw [← hwt]; exact htt
      rw [if_pos htt] at hou
      have hget : mayS digestS c i r = true → (spotsN cs r cs.length)[q]? = some (spotC c i) := fun hm => by rw [hq]; exact spots_get hc r hil htt hm
      have hql := ownN_le c i
      have hwo : IntKind.i64.wrap ((ownN c i : Int) + 1) = ((ownN c i + 1 : Nat) : Int) := wrap_succ (show ownN c i < 1000 by omega) (by omega)
      have hkl := spotK_len c r i
      have hwq : IntKind.i64.wrap ((q : Int) + 1) = ((q + 1 : Nat) : Int) := wrap_succ (show q < 1000000 by omega) (by omega)
      have hwp : IntKind.i64.wrap ((p : Int) + 1) = ((p + 1 : Nat) : Int) := wrap_succ (show p < 1000000 by omega) (by omega)
      refine ⟨fun hs0 => ?_, fun hs0 => ?_⟩
      · refine callW0 (may_ok c i r hfc (by omega)) rfl ?_
        have hm := mayS_pub (dg := digestS) c i a ha htx hs0 r
        have hg := hget hm
        have hlt := lt_of_some hg
        rw [if_pos ⟨htt, hm⟩] at hsu
        rw [hm]
        simp (config := { maxSteps := 10000000 }) [-getElem?_pos, List.lookup, mixed, chains, h, hc, Chain.cells, hil, ha, Act.cells, hg, hlt, spotC]
        refine exY_i false ⟨rfl, fun _ => againM_i _ _ ?_ ?_ ⟨i + 1, p + 1, q + 1, rfl, hil, rfl, by rw [hsu, hq]; simp [-getElem?_pos]; omega, by omega, rfl⟩⟩
        · omega
        · simp [-getElem?_pos, hwi, chains, hou, hwo, hwp, hwq]
      · refine callW0 (may_ok c i r hfc (by omega)) rfl ?_
        cases hm : mayS digestS c i r with
        | true =>
          have hg := hget hm
          have hlt := lt_of_some hg
          rw [if_pos ⟨htt, hm⟩] at hsu
          simp (config := { maxSteps := 10000000 }) [-getElem?_pos, List.lookup, mixed, chains, h, hc, Chain.cells, hil, ha, Act.cells, hg, hlt, spotC]
          refine exY_i false ⟨rfl, fun _ => againM_i _ _ ?_ ?_ ⟨i + 1, p, q + 1, rfl, hil, rfl, by rw [hsu, hq]; simp [-getElem?_pos]; omega, by omega, rfl⟩⟩
          · omega
          · simp [-getElem?_pos, hwi, chains, hou, hwo, hwq]
        | false =>
          rw [if_neg (by rw [hm]; simp [-getElem?_pos])] at hsu
          simp (config := { maxSteps := 10000000 }) [-getElem?_pos, List.lookup, mixed, chains, h, hc, Chain.cells, hil, ha, Act.cells]
          refine againM_i _ _ ?_ ?_ ⟨i + 1, p, q, rfl, hil, rfl, by rw [hsu]; simpa [-getElem?_pos] using hq, hp, rfl⟩
          · omega
          · simp [-getElem?_pos, hwi, chains, hou, hwo]
    · have he : i = c.acts.length := by omega
      subst he
      have hk1 : (0 : Int) ≤ (k : Int) + 1 := by omega
      simp (config := { maxSteps := 10000000 }) [-getElem?_pos, List.lookup, mixed, chains, h, hc, Chain.cells, hil, hwk, hk1]
      have hsli : List.drop k (List.take (k + 1) (List.map Chain.cells cs)) = [c.cells] := by
        rw [List.take_add_one, List.drop_append_of_le_length (by simp [-getElem?_pos]; omega), List.drop_of_length_le (by simp [-getElem?_pos]; omega)]
        simp [-getElem?_pos, hc]
      rw [hsli]
      refine ⟨by omega, ?_⟩
      refine callW0 (spots_ok [c] c.id (by simp [-getElem?_pos]) (fun x hx => by rw [List.mem_singleton.1 hx]; exact hcc c hcm)) rfl ?_
      rw [show ([c] : List Chain).length = 1 from rfl]
      have h1 := spots_one c
      simp (config := { maxSteps := 10000000 }) [-getElem?_pos, List.lookup, mixed, chains, h, hc, Chain.cells, hil, hwk, hk1, h1]
      refine againM_i _ _ ?_ ?_ ⟨k + 1, p, rfl, h, rfl, by rw [spotsN_succ hc]; simp [-getElem?_pos]; omega, rfl⟩
      · omega
      · simp [-getElem?_pos, hwk, chains, spotsN_succ hc, hq]
  · have he : k = cs.length := by omega
    subst he
    simp (config := { maxSteps := 10000000 }) [-getElem?_pos, List.lookup, mixed, chains]
    exact exY_i true ⟨rfl, exY_i true ⟨fun _ => by simpa [-getElem?_pos] using hpub, rfl, rfl⟩⟩
end Go.Proofs.YthkmfboffnhkaaaGreatDoor
