/-
  Walks: circle.
-/
import Derived.Test.YthkmfboffnhkaaaGreatDoorWX
set_option linter.all false
namespace Go.Proofs.YthkmfboffnhkaaaGreatDoor
attribute [local simp] act_Posting_R0 act_Posting_R1 act_Posting_L act_Posting_ks circle_Grant_R0 circle_Grant_R1 circle_Grant_R2 circle_Grant_R3 circle_Grant_R4 circle_Grant_R5 circle_Grant_R6 circle_Grant_R7 circle_Grant_B1 circle_Grant_R8 circle_Grant_W1 circle_Grant_B0 circle_Grant_R9 circle_Grant_L circle_Grant_ks circle_Epoch_R0 circle_Epoch_R1 circle_Epoch_R2 circle_Epoch_R3 circle_Epoch_R4 circle_Epoch_L circle_Epoch_ks circle_Fresh_R0 circle_Fresh_R1 circle_Fresh_R2 circle_Fresh_L circle_Fresh_ks circle_Well_R0 circle_Well_R1 circle_Well_R2 circle_Well_R3 circle_Well_R4 circle_Well_R5 circle_Well_R6 circle_Well_R7 circle_Well_L circle_Well_ks
open Go Go.L1 Go.RowKit Go.Maps
set_option maxRecDepth 100000
set_option maxHeartbeats 4000000

theorem posting_ok (k : Int) (s : List SO) : FnOK Tryz.prog GW 32 [.c (I k)] s (.c (.bool (isPosting k))) s := by
  refine act_Posting_F.pu {} (by simp [-getElem?_pos]) rfl ?_
  simp [-getElem?_pos, List.lookup, mixed]
  exact exY_i (k == 2) ⟨fun _ => rfl, exY_i (k == 3) ⟨fun _ _ => rfl, rfl⟩⟩
theorem grant_ok (c : Chain) (n scope : Int) (group : Str) (hl : c.acts.length ≤ 1000000000) (s : List SO) :
    FnOK Tryz.prog GW 33 [agg c.cells, .c (I n), .c (I scope), .c (.str group)] s (.tup [.c (I (grantS c.acts n scope group).1), .c (.bool (decide (0 < (grantS c.acts n scope group).2)))]) s := by
  refine circle_Grant_F.pu {} (by simp [-getElem?_pos]) rfl ?_
  simp [-getElem?_pos, List.lookup, mixed, agg, Chain.cells]
  have hM : upTo n c.acts ≤ c.acts.length := by unfold upTo; omega
  obtain ⟨z, hz, hzi⟩ : ∃ z : Int, (if (c.acts.length : Int) < n then (c.acts.length : Int) else n) = z ∧ ∀ i : Nat, ((i : Int) < z ↔ i < upTo n c.acts) := ⟨_, rfl, fun i => by unfold upTo; split <;> omega⟩
  rw [hz]
  unfold grantS
  generalize hNN : upTo n c.acts = N at hM hzi ⊢
  refine loopM_intro (fun m e st => ∃ i : Nat, m = N - i ∧ i ≤ N ∧ st = s ∧
    e = [(19, .c (I i)), (18, .c (I z)), (11, .c (I (grantN c.acts scope group i).2)), (10, .c (I (grantN c.acts scope group i).1)), (9, .c (.bool false)), (8, .c (I 0)),
      (4, .box [.c (.str c.id), .c (.sl (c.acts.map Act.cells)), .c (.sl (c.keys.map KeyAt.cells)), .c (.str c.prev), .c (I c.gen), .c (.bool c.fork)]), (2, .c (I scope)), (3, .c (.str group))]) N _ ?_ ⟨0, rfl, Nat.zero_le _, rfl, rfl⟩ ?_
  · simp [-getElem?_pos, grantN]
  rintro m e st ⟨i, rfl, hi, rfl, rfl⟩
  by_cases h : i < N
  · obtain ⟨a, ha⟩ := get_of_lt (show i < c.acts.length by omega)
    have hw := wrap_succ h (by omega)
    have hiz : (i : Int) < z := (hzi i).2 h
    have hg := (grantN_spec c.acts scope group i).1
    have hn : grantN c.acts scope group (i + 1) = if a.kind = 16 ∧ a.scope = scope ∧ a.group = group ∧ a.epoch = ((grantN c.acts scope group i).2 : Int) then (i, (grantN c.acts scope group i).2 + 1) else grantN c.acts scope group i := by simp only [grantN, ha]
    have hw2 := wrap_succ (show (grantN c.acts scope group i).2 < 1000000001 by omega) (by omega)
    generalize grantN c.acts scope group i = g at hn hg hw2 ⊢
    simp [-getElem?_pos, List.lookup, mixed, hiz, ha, Act.cells]
    refine exY_i (a.scope == scope) ⟨fun _ => rfl, exY_i (a.group == group) ⟨fun _ _ => rfl, exY_i (a.epoch == (g.2 : Int)) ⟨fun _ _ _ => rfl, fun q1 q2 q3 q4 => ?_, fun q => ?_⟩⟩⟩
    · have hn2 : grantN c.acts scope group (i + 1) = (i, g.2 + 1) := by rw [hn, if_pos ⟨q1, by simpa [-getElem?_pos] using q2, by simpa [-getElem?_pos] using q3, by simpa [-getElem?_pos] using q4⟩]
      refine againM_i _ _ ?_ ?_ ⟨i + 1, rfl, h, rfl, by rw [hn2]⟩
      · omega
      · simp [-getElem?_pos, hw, hw2]
    · have hn2 : grantN c.acts scope group (i + 1) = g := by
        rw [hn, if_neg]
        rintro ⟨q1, q2, q3, q4⟩
        have := q q1 (by simpa [-getElem?_pos] using q2) (by simpa [-getElem?_pos] using q3)
        simp [-getElem?_pos, q4] at this
      refine againM_i _ _ ?_ ?_ ⟨i + 1, rfl, h, rfl, by rw [hn2]⟩
      · omega
      · simp [-getElem?_pos, hw]
  · have he : i = N := by omega
    subst he
    have hiz : ¬ (i : Int) < z := fun h2 => h ((hzi i).1 h2)
    simp [-getElem?_pos, List.lookup, mixed, hiz]
    done
theorem epoch_ok (c : Chain) (n scope : Int) (group : Str) (hc : ∀ a ∈ c.acts, a.Fits) (hl : c.acts.length ≤ 1000000000) (s : List SO) :
    FnOK Tryz.prog GW 30 [agg c.cells, .c (I n), .c (I scope), .c (.str group)] s (.tup [.c (I (epochS c.acts n scope group).1), .c (texts (epochS c.acts n scope group).2.1), .c (.bool (epochS c.acts n scope group).2.2)]) s := by
  refine circle_Epoch_F.pu {} (by simp [-getElem?_pos]) rfl ?_
  simp [-getElem?_pos, List.lookup, mixed, agg, Chain.cells]
  refine callW0 (grant_ok c n scope group hl) rfl ?_
  obtain ⟨-, h2, h3⟩ := epochS_ok c.acts n scope group
  by_cases hp : 0 < (grantS c.acts n scope group).2
  · obtain ⟨-, a, ha, -, -, -, -, he⟩ := h2 hp
    have hp' : ¬ (grantS c.acts n scope group).2 = 0 := by omega
    have hf := hc a (List.mem_of_getElem? ha)
    rw [he]
    simp [-getElem?_pos, List.lookup, mixed, agg, Chain.cells, hp, hp', ha, Act.cells]
    refine callW0 (cloneD_ok a.to hf.toLe hf.toWf) rfl ?_
    simp [-getElem?_pos, List.lookup, mixed, agg, Chain.cells, hp, hp', ha, Act.cells]
  · obtain ⟨he, hg⟩ := h3 hp
    rw [he, hg]
    simp [-getElem?_pos, List.lookup, mixed, agg, Chain.cells, texts]
theorem fresh_ok (c : Chain) (n scope : Int) (group : Str) (to : List Str) (hc : ∀ a ∈ c.acts, a.Fits) (hl : c.acts.length ≤ 1000000000) (hto : to.length ≤ 1000000000) (htw : ∀ k ∈ to, k.length ≤ 9223372036854775807) (s : List SO) :
    FnOK Tryz.prog GW 31 [agg c.cells, .c (I n), .c (I scope), .c (.str group), .c (texts to)] s (.c (.bool (freshS digestS c n scope group to))) s := by
  refine circle_Fresh_F.pu {} (by simp [-getElem?_pos]) rfl ?_
  simp [-getElem?_pos, List.lookup, mixed, agg, Chain.cells]
  refine callW0 (epoch_ok c n scope group hc hl) rfl ?_
  simp [-getElem?_pos, List.lookup, mixed, agg, Chain.cells]
  have hel : (epochS c.acts n scope group).2.1.length ≤ 1000000000 := by
    obtain ⟨-, h2, h3⟩ := epochS_ok c.acts n scope group
    by_cases hp : 0 < (grantS c.acts n scope group).2
    · obtain ⟨-, a, ha, -, -, -, -, he⟩ := h2 hp
      rw [he]; exact (hc a (List.mem_of_getElem? ha)).toLe
    · rw [(h3 hp).1]; simp [-getElem?_pos]
  have hfr : freshS digestS c n scope group to = (!(epochS c.acts n scope group).2.2 || !(eqL (· == ·) (epochS c.acts n scope group).2.1 (membersS digestS c n scope group to))) := by
    unfold freshS
    congr 2
    rw [Bool.eq_iff_iff, beq_iff_eq, eqLg_iff (by simp [-getElem?_pos])]
  rw [hfr]
  refine exY_i (!(eqL (· == ·) (epochS c.acts n scope group).2.1 (membersS digestS c n scope group to))) ⟨fun h1 => ?_, rfl⟩
  refine callW0 (members_ok c n scope group to hc hl hto htw) rfl ?_
  simp [-getElem?_pos, List.lookup, mixed, agg, Chain.cells]
  refine callW0 (equalTexts_ok _ _ (by omega)) rfl ?_
  simp [-getElem?_pos, List.lookup, mixed, agg, Chain.cells]
theorem well_ok (c : Chain) (i : Int) (hc : ∀ a ∈ c.acts, a.Fits) (hl : c.acts.length ≤ 1000000000) (s : List SO) :
    FnOK Tryz.prog GW 29 [agg c.cells, .c (I i)] s (.c (.bool (wellS digestS c i))) s := by
  refine circle_Well_F.pu {} (by simp [-getElem?_pos]) rfl ?_
  by_cases hi : 0 ≤ i
  · obtain ⟨k, rfl⟩ := Int.eq_ofNat_of_zero_le hi
    cases ha : c.acts[k]? with
    | none =>
      have hk : c.acts.length ≤ k := by simpa [-getElem?_pos] using ha
      simp [-getElem?_pos, List.lookup, mixed, agg, Chain.cells]
      refine exY_i true ?_
      simp [-getElem?_pos, wellS, ha, hk]
    | some a =>
      have hk := lt_of_some ha
      have hk' : ¬ c.acts.length ≤ k := by omega
      have hf := hc a (List.mem_of_getElem? ha)
      have hw : wellS digestS c k = if (isPosting a.kind || a.kind == 14) && decide (1 ≤ a.scope) && decide (a.scope ≤ 3) then decide ((epochS c.acts k a.scope a.group).1 = a.epoch) && !freshS digestS c k a.scope a.group a.to else false := by
        simp only [wellS, Int.toNat_natCast, ha]
        rfl
      generalize wellS digestS c k = W at hw ⊢
      simp [-getElem?_pos, List.lookup, mixed, agg, Chain.cells, ha, Act.cells, hk']
      refine exY_i false ⟨rfl, fun h => by simp [-getElem?_pos] at h, fun _ => ?_⟩
      refine callW0 (posting_ok a.kind) rfl ?_
      simp [-getElem?_pos, List.lookup, mixed, agg, Chain.cells, ha, Act.cells, hk']
      refine exY_i (a.kind != 14) ⟨fun _ => rfl, exY_i (decide (a.scope < 1)) ⟨fun _ => rfl, exY_i (decide (3 < a.scope)) ⟨fun _ _ => rfl, fun h => ?_, fun h1 h2 h3 => ?_⟩⟩⟩
      · rw [hw, if_neg]
        simp only [Bool.and_eq_true, Bool.or_eq_true, beq_iff_eq, decide_eq_true_eq, bne_iff_ne] at h ⊢
        rintro ⟨⟨q1, q2⟩, q3⟩
        rcases h with (⟨r1, r2⟩ | r) | r
        · rcases q1 with q1 | q1
          · rw [q1] at r1; cases r1
          · exact r2 q1
        · omega
        · omega
      · rw [if_pos (by
          have := decide_eq_false_iff_not.1 h2
          have := decide_eq_false_iff_not.1 h3
          simp only [Bool.and_eq_true, Bool.or_eq_true, beq_iff_eq, decide_eq_true_eq]
          refine ⟨⟨?_, by omega⟩, by omega⟩
          cases hp : isPosting a.kind with
          | true => exact .inl rfl
          | false => exact .inr (by simpa [-getElem?_pos] using h1 hp))] at hw
        refine callW0 (epoch_ok c k a.scope a.group hc hl) rfl ?_
        simp [-getElem?_pos, List.lookup, mixed, agg, Chain.cells, ha, Act.cells, hk']
        rw [hw]
        refine exY_i (!freshS digestS c k a.scope a.group a.to) ⟨fun _ => ?_, ?_⟩
        · refine callW0 (fresh_ok c k a.scope a.group a.to hc hl hf.toLe hf.toWf) rfl ?_
          simp [-getElem?_pos, List.lookup, mixed, agg, Chain.cells, ha, Act.cells, hk']
          done
        · rfl
  · simp [-getElem?_pos, List.lookup, mixed, agg, Chain.cells]
    refine exY_i true ?_
    simp [-getElem?_pos, wellS, hi]
end Go.Proofs.YthkmfboffnhkaaaGreatDoor
