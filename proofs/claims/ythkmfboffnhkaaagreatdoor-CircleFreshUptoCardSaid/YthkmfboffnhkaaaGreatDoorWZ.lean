/-
  Walks: circle's law: the helpers.
-/
import Derived.Test.YthkmfboffnhkaaaGreatDoorWY
set_option linter.all false
namespace Go.Proofs.YthkmfboffnhkaaaGreatDoor
attribute [local simp] agoralaw22_short_R0 agoralaw22_short_R1 agoralaw22_short_R2 agoralaw22_short_R3 agoralaw22_short_R4 agoralaw22_short_R6 agoralaw22_short_R7 agoralaw22_short_R8 agoralaw22_short_B1 agoralaw22_short_R5 agoralaw22_short_W1 agoralaw22_short_B0 agoralaw22_short_R9 agoralaw22_short_L agoralaw22_short_ks agoralaw22_small_R0 agoralaw22_small_R1 agoralaw22_small_R2 agoralaw22_small_R3 agoralaw22_small_R4 agoralaw22_small_R5 agoralaw22_small_R6 agoralaw22_small_R7 agoralaw22_small_L agoralaw22_small_ks agoralaw22_CircleEpochs_R0 agoralaw22_CircleEpochs_R1 agoralaw22_CircleEpochs_R2 agoralaw22_CircleEpochs_R3 agoralaw22_CircleEpochs_R4 agoralaw22_CircleEpochs_R5 agoralaw22_CircleEpochs_R6 agoralaw22_CircleEpochs_R8 agoralaw22_CircleEpochs_R9 agoralaw22_CircleEpochs_R10 agoralaw22_CircleEpochs_R11 agoralaw22_CircleEpochs_R12 agoralaw22_CircleEpochs_R13 agoralaw22_CircleEpochs_R14 agoralaw22_CircleEpochs_R15 agoralaw22_CircleEpochs_R16 agoralaw22_CircleEpochs_R17 agoralaw22_CircleEpochs_B1 agoralaw22_CircleEpochs_R7 agoralaw22_CircleEpochs_W1 agoralaw22_CircleEpochs_B0 agoralaw22_CircleEpochs_R18 agoralaw22_CircleEpochs_L agoralaw22_CircleEpochs_ks
open Go Go.L1 Go.RowKit Go.Maps
set_option maxRecDepth 100000
set_option maxHeartbeats 4000000

theorem short22_ok (c : Chain) (hl : c.acts.length ≤ 1000000000) (s : List SO) : FnOK Tryz.prog GW 28 [agg c.cells] s (.c (.bool (chainFew c))) s := by
  refine agoralaw22_short_F.pu {} (by simp [-getElem?_pos]) rfl ?_
  simp [-getElem?_pos, List.lookup, mixed, agg, Chain.cells]
  refine ⟨fun h1 => by simp [-getElem?_pos, chainFew]; omega, fun h24 => ?_⟩
  refine loopM_intro (fun m e st => ∃ j : Nat, m = c.acts.length - j ∧ j ≤ c.acts.length ∧ st = s ∧ (c.acts.take j).all actFew = true ∧ e = [(3, .c (I j)),
    (1, .box [.c (.str c.id), .c (.sl (c.acts.map Act.cells)), .c (.sl (c.keys.map KeyAt.cells)), .c (.str c.prev), .c (I c.gen), .c (.bool c.fork)])]) c.acts.length _ ?_ ⟨0, rfl, Nat.zero_le _, rfl, rfl, rfl⟩ ?_
  · simp [-getElem?_pos]
  rintro m e st ⟨j, rfl, hj, rfl, hallj, rfl⟩
  by_cases hjl : j < c.acts.length
  · obtain ⟨a, ha⟩ := get_of_lt hjl
    have hwj := wrap_succ hjl (by omega)
    have hbada : actFew a = false → chainFew c = false := fun hb => by simp only [chainFew, all_false ha hb, Bool.and_false]
    simp (config := { maxSteps := 10000000 }) [-getElem?_pos, List.lookup, mixed, hjl, ha, Act.cells, texts]
    refine exY_i (decide (8 < (a.wraps.length : Int))) ⟨fun _ => rfl, exY_i (decide (600 < (a.text.length : Int))) ⟨fun _ _ => rfl, exY_i (decide (600 < (a.body.data.length : Int))) ⟨fun _ _ _ => rfl, fun hb => hbada ?_, fun k1 k2 k3 k4 => againM_i _ _ ?_ ?_ ⟨j + 1, rfl, hjl, rfl, ?_, rfl⟩⟩⟩⟩
    · simp only [decide_eq_true_eq] at hb
      rw [Bool.eq_false_iff]
      intro ht
      simp only [actFew, Bool.and_eq_true, decide_eq_true_eq] at ht
      omega
    · omega
    · simp [-getElem?_pos, hwj]
    · refine all_take hallj ha ?_
      simp only [decide_eq_false_iff_not] at k2 k3 k4
      simp only [actFew, Bool.and_eq_true, decide_eq_true_eq]
      omega
  · have he : j = c.acts.length := by omega
    rw [he, List.take_length] at hallj
    simp [-getElem?_pos, List.lookup, mixed, hjl, chainFew, hallj]
    omega
def idA1 : Str := [48, 48, 48, 48, 48, 48, 48, 48, 48, 48, 48, 48, 48, 48, 97, 49]
def idB2 : Str := [48, 48, 48, 48, 48, 48, 48, 48, 48, 48, 48, 48, 48, 48, 98, 50]
def chain22 : Chain := { id := idA1, acts := [], keys := [], prev := [], gen := 0, fork := false }
theorem members22 (to : List Str) : membersS digestS chain22 0 3 [] to = dedupA (sorted (to.filter fun x => !(x == idA1))) := by
  rw [members_def]
  have h1 : fromS digestS chain22.acts 0 3 [] to = to := by simp [-getElem?_pos, fromS]
  have h2 : (tiesS digestS chain22.acts 0).blocks = [] := by simp [-getElem?_pos, tiesS, tiesN, upTo, sorted]
  rw [h1, h2]
  simp [-getElem?_pos, chain22]
theorem small22_ok (s : List SO) : FnOK Tryz.prog GW 27 [] s (.c (.bool true)) s := by
  refine agoralaw22_small_F.pu {} (by simp [-getElem?_pos]) rfl ?_
  have hc : ∀ a ∈ chain22.acts, a.Fits := by simp [-getElem?_pos, chain22]
  have hl : chain22.acts.length ≤ 1000000000 := by simp [-getElem?_pos, chain22]
  have hg : grantS chain22.acts 0 1 [] = (0, 0) := by simp [-getElem?_pos, grantS, upTo, chain22, grantN]
  have he : epochS chain22.acts 0 1 [] = (0, [], false) := by unfold epochS; rw [hg]; simp [-getElem?_pos]
  have hm1 : membersS digestS chain22 0 3 [] [idB2] = [idB2] := by rw [members22]; simp [-getElem?_pos, idA1, idB2, sorted, dedupA]
  have hm2 : membersS digestS chain22 0 3 [] [idA1] = [] := by rw [members22]; simp [-getElem?_pos, sorted, dedupA]
  simp (config := { maxSteps := 10000000 }) [-getElem?_pos, mixed]
  refine callW0 (epoch_ok chain22 0 1 [] hc hl) rfl ?_
  rw [he]
  simp (config := { maxSteps := 10000000 }) [-getElem?_pos, mixed]
  refine callW0 (grant_ok chain22 0 1 [] hl) rfl ?_
  rw [hg]
  simp (config := { maxSteps := 10000000 }) [-getElem?_pos, mixed]
  refine callW0 (members_ok chain22 0 3 [] [idB2] hc hl (by simp [-getElem?_pos]) (by simp [-getElem?_pos, idB2])) rfl ?_
  rw [hm1]
  simp (config := { maxSteps := 10000000 }) [-getElem?_pos, mixed]
  refine callW0 (members_ok chain22 0 3 [] [idA1] hc hl (by simp [-getElem?_pos]) (by simp [-getElem?_pos, idA1])) rfl ?_
  rw [hm2]
  simp (config := { maxSteps := 10000000 }) [-getElem?_pos, mixed, texts]
  have hf : freshS digestS chain22 0 1 [] [] = true := by unfold freshS; rw [he]; rfl
  have hwl : wellS digestS chain22 0 = false := by simp [-getElem?_pos, wellS, chain22]
  refine exY_i true ⟨rfl, exY_i true ⟨fun _ => rfl, exY_i true ⟨fun _ _ => ?_, exY_i true ⟨fun _ _ _ => ?_, exY_i true ⟨fun _ _ _ _ => rfl, exY_i true ⟨fun _ _ _ _ _ => ?_, by simp [-getElem?_pos]⟩⟩⟩⟩⟩⟩
  · refine callW0 (fresh_ok chain22 0 1 [] [] hc hl (by simp [-getElem?_pos]) (by simp [-getElem?_pos])) rfl ?_
    rw [hf]
    simp (config := { maxSteps := 10000000 }) [-getElem?_pos, mixed]
  · refine callW0 (sameS_ok [idB2] [idB2] (by simp [-getElem?_pos])) rfl ?_
    simp (config := { maxSteps := 10000000 }) [-getElem?_pos, mixed, eqL, strEq]
  · refine callW0 (well_ok chain22 0 hc hl) rfl ?_
    rw [hwl]
    simp (config := { maxSteps := 10000000 }) [-getElem?_pos, mixed]
theorem epochs_ok (c : Chain) (scope : Int) (group : Str) (hc : chainFew c = true → ∀ a ∈ c.acts, a.Fits) (hl : c.acts.length ≤ 1000000000) (s : List SO) :
    FnOK Tryz.prog GW 9 [agg c.cells, .c (I scope), .c (.str group)] s (.c (.bool true)) s := by
  refine agoralaw22_CircleEpochs_F.pu {} (by simp [-getElem?_pos]) rfl ?_
  simp (config := { maxSteps := 10000000 }) [-getElem?_pos, List.lookup, mixed, agg, Chain.cells]
  refine callW0 small22_ok rfl ?_
  simp (config := { maxSteps := 10000000 }) [-getElem?_pos, List.lookup, mixed, agg, Chain.cells]
  refine callW0 (short22_ok c hl) rfl ?_
  simp (config := { maxSteps := 10000000 }) [-getElem?_pos, List.lookup, mixed, agg, Chain.cells]
  intro hfew
  have hc := hc hfew
  refine loopM_intro (fun m e st => ∃ n : Nat, m = c.acts.length + 1 - n ∧ n ≤ c.acts.length + 1 ∧ st = s ∧
    e = [(9, .c (I n)), (8, .c (I (grantN c.acts scope group n).2)), (7, .c (.bool true)), (6, .c (.bool false)),
      (3, .box [.c (.str c.id), .c (.sl (c.acts.map Act.cells)), .c (.sl (c.keys.map KeyAt.cells)), .c (.str c.prev), .c (I c.gen), .c (.bool c.fork)]), (1, .c (I scope)), (2, .c (.str group))]) (c.acts.length + 1) _ ?_ ⟨0, rfl, Nat.zero_le _, rfl, rfl⟩ ?_
  · simp [-getElem?_pos, grantN]
  rintro m e st ⟨n, rfl, hn, rfl, rfl⟩
  by_cases h : n ≤ c.acts.length
  · have hup : grantS c.acts n scope group = grantN c.acts scope group n := by unfold grantS upTo; rw [Int.toNat_natCast, Nat.min_eq_left h]
    have hupn : upTo (n : Int) c.acts = n := by unfold upTo; rw [Int.toNat_natCast, Nat.min_eq_left h]
    obtain ⟨-, h2, h3⟩ := epochS_ok c.acts n scope group
    have hgn := (grantN_spec c.acts scope group n).1
    rw [hup, hupn] at h2
    rw [hup] at h3
    have hw := wrap_succ (show n < 1000000001 by omega) (by omega)
    have hwg := wrap_succ (show (grantN c.acts scope group n).2 < 1000000001 by omega) (by omega)
    have hnext : c.acts.length = n → IntKind.i64.wrap ((n : Int) + 1) = ((n + 1 : Nat) : Int) := fun _ => hw
    simp (config := { maxSteps := 10000000 }) [-getElem?_pos, List.lookup, mixed, agg, Chain.cells, Act.cells, h]
    refine callW0 (epoch_ok c n scope group hc hl) rfl ?_
    simp (config := { maxSteps := 10000000 }) [-getElem?_pos, List.lookup, mixed, agg, Chain.cells, Act.cells, h]
    refine callW0 (grant_ok c n scope group hl) rfl ?_
    rw [hup]
    rcases Nat.lt_or_eq_of_le h with hlt | hlt
    · obtain ⟨b, hb⟩ := get_of_lt hlt
      have hnx : grantN c.acts scope group (n + 1) = if b.kind = 16 ∧ b.scope = scope ∧ b.group = group ∧ b.epoch = ((grantN c.acts scope group n).2 : Int) then (n, (grantN c.acts scope group n).2 + 1) else grantN c.acts scope group n := by simp only [grantN, hb]
      by_cases hp : 0 < (grantN c.acts scope group n).2
      · obtain ⟨hin, a, ha, q1, q2, q3, q4, he⟩ := h2 hp
        have hf := hc a (List.mem_of_getElem? ha)
        rw [he]
        have hp' : ¬ (grantN c.acts scope group n).2 = 0 := by omega
        have hws : IntKind.i64.wrap (((grantN c.acts scope group n).2 : Int) - 1) = ((grantN c.acts scope group n).2 : Int) - 1 := IntWalk.i64_in _ (by omega)
        simp (config := { maxSteps := 10000000 }) [-getElem?_pos, List.lookup, mixed, agg, Chain.cells, Act.cells, h, hp, hp', hws, ha, q1, q2, q3, q4, hin, hlt, hb]
        refine exY_i false ⟨rfl, exY_i false ⟨fun _ => exY_i false ⟨rfl, rfl⟩, exY_i false ⟨fun _ _ => exY_i false rfl, ⟨⟨rfl, rfl⟩, rfl⟩, fun _ _ _ => ?_⟩⟩⟩
        refine exY_i false ⟨rfl, exY_i false ⟨fun _ => rfl, exY_i false ⟨fun _ _ => rfl, exY_i false ⟨fun _ _ _ => rfl, exY_i false ⟨fun _ _ _ _ => ?_, ⟨⟨⟨⟨rfl, rfl⟩, rfl⟩, rfl⟩, rfl⟩, fun _ _ _ _ _ => ?_⟩⟩⟩⟩⟩
        · refine callW0 (sameS_ok a.to a.to hf.toLe) rfl ?_
          simp (config := { maxSteps := 10000000 }) [-getElem?_pos, List.lookup, mixed, agg, Chain.cells, Act.cells, eqL_refl (f := strEq) (by simp [-getElem?_pos, strEq])]
        refine exY_i (b.kind == 16) ⟨rfl, exY_i (b.scope == scope) ⟨fun _ => rfl, exY_i (b.group == group) ⟨fun _ _ => rfl, exY_i (b.epoch == ((grantN c.acts scope group n).2 : Int)) ⟨fun _ _ _ => rfl, fun r1 r2 r3 r4 => ?_, fun r => ?_⟩⟩⟩⟩
        · have hn2 : (grantN c.acts scope group (n + 1)).2 = (grantN c.acts scope group n).2 + 1 := by rw [hnx, if_pos ⟨by simpa [-getElem?_pos] using r1, by simpa [-getElem?_pos] using r2, by simpa [-getElem?_pos] using r3, by simpa [-getElem?_pos] using r4⟩]
          refine againM_i _ _ ?_ ?_ ⟨n + 1, rfl, by omega, rfl, by rw [hn2]⟩
          · omega
          · simp [-getElem?_pos, hw, hwg]
        · have hn2 : (grantN c.acts scope group (n + 1)).2 = (grantN c.acts scope group n).2 := by
            rw [hnx, if_neg]
            rintro ⟨r1, r2, r3, r4⟩
            have := r (by simpa [-getElem?_pos] using r1) (by simpa [-getElem?_pos] using r2) (by simpa [-getElem?_pos] using r3)
            simp [-getElem?_pos, r4] at this
          refine againM_i _ _ ?_ ?_ ⟨n + 1, rfl, by omega, rfl, by rw [hn2]⟩
          · omega
          · simp [-getElem?_pos, hw]

      · obtain ⟨he, hg⟩ := h3 hp
        rw [he, hg]
        rw [hg] at hnx
        simp (config := { maxSteps := 10000000 }) [-getElem?_pos, List.lookup, mixed, agg, Chain.cells, Act.cells, h, texts, hlt, hb]
        refine exY_i false ⟨rfl, exY_i false ⟨fun _ => exY_i false rfl, exY_i false ⟨fun _ _ => exY_i false ⟨exY_i false ⟨rfl, exY_i false ⟨fun _ => rfl, rfl⟩⟩, rfl⟩, ⟨⟨rfl, rfl⟩, rfl⟩, fun _ _ _ => ?_⟩⟩⟩
        refine exY_i (b.kind == 16) ⟨rfl, exY_i (b.scope == scope) ⟨fun _ => rfl, exY_i (b.group == group) ⟨fun _ _ => rfl, exY_i (b.epoch == 0) ⟨fun _ _ _ => rfl, fun r1 r2 r3 r4 => ?_, fun r => ?_⟩⟩⟩⟩
        · have hn2 : (grantN c.acts scope group (n + 1)).2 = 1 := by rw [hnx, if_pos ⟨by simpa [-getElem?_pos] using r1, by simpa [-getElem?_pos] using r2, by simpa [-getElem?_pos] using r3, by simpa [-getElem?_pos] using r4⟩]
          refine againM_i _ _ ?_ ?_ ⟨n + 1, rfl, by omega, rfl, by rw [hn2]⟩
          · omega
          · simp [-getElem?_pos, hw, show IntKind.i64.wrap 1 = 1 from by decide]
        · have hn2 : (grantN c.acts scope group (n + 1)).2 = 0 := by
            rw [hnx, if_neg]
            rintro ⟨r1, r2, r3, r4⟩
            have := r (by simpa [-getElem?_pos] using r1) (by simpa [-getElem?_pos] using r2) (by simpa [-getElem?_pos] using r3)
            simp [-getElem?_pos, r4] at this
          refine againM_i _ _ ?_ ?_ ⟨n + 1, rfl, by omega, rfl, by rw [hn2]⟩
          · omega
          · simp [-getElem?_pos, hw]
    · have hbn : c.acts[n]? = none := by rw [hlt]; simp [-getElem?_pos]
      have hnx : grantN c.acts scope group (n + 1) = grantN c.acts scope group n := by simp only [grantN, hbn]
      have hnl : ¬ n < c.acts.length := by omega
      by_cases hp : 0 < (grantN c.acts scope group n).2
      · obtain ⟨hin, a, ha, q1, q2, q3, q4, he⟩ := h2 hp
        have hf := hc a (List.mem_of_getElem? ha)
        rw [he]
        have hp' : ¬ (grantN c.acts scope group n).2 = 0 := by omega
        have hws : IntKind.i64.wrap (((grantN c.acts scope group n).2 : Int) - 1) = ((grantN c.acts scope group n).2 : Int) - 1 := IntWalk.i64_in _ (by omega)
        simp (config := { maxSteps := 10000000 }) [-getElem?_pos, List.lookup, mixed, agg, Chain.cells, Act.cells, h, hp, hp', hws, ha, q1, q2, q3, q4, hin, hnl]
        refine exY_i false ⟨rfl, exY_i false ⟨fun _ => exY_i false ⟨rfl, rfl⟩, exY_i false ⟨fun _ _ => exY_i false rfl, ⟨⟨rfl, rfl⟩, rfl⟩, fun _ _ _ => ?_⟩⟩⟩
        refine exY_i false ⟨rfl, exY_i false ⟨fun _ => rfl, exY_i false ⟨fun _ _ => rfl, exY_i false ⟨fun _ _ _ => rfl, exY_i false ⟨fun _ _ _ _ => ?_, ⟨⟨⟨⟨rfl, rfl⟩, rfl⟩, rfl⟩, rfl⟩, fun _ _ _ _ _ => ?_⟩⟩⟩⟩⟩
        · refine callW0 (sameS_ok a.to a.to hf.toLe) rfl ?_
          simp (config := { maxSteps := 10000000 }) [-getElem?_pos, List.lookup, mixed, agg, Chain.cells, Act.cells, eqL_refl (f := strEq) (by simp [-getElem?_pos, strEq])]
        have hn2 : (grantN c.acts scope group (n + 1)).2 = (grantN c.acts scope group n).2 := by rw [hnx]
        refine exY_i true (exY_i true (exY_i true (exY_i true ?_)))
        refine againM_i _ _ ?_ ?_ ⟨n + 1, rfl, by omega, rfl, by rw [hn2]⟩
        · omega
        · simp [-getElem?_pos, hw]

      · obtain ⟨he, hg⟩ := h3 hp
        rw [he, hg]
        rw [hg] at hnx
        simp (config := { maxSteps := 10000000 }) [-getElem?_pos, List.lookup, mixed, agg, Chain.cells, Act.cells, h, texts, hnl]
        refine exY_i false ⟨rfl, exY_i false ⟨fun _ => exY_i false rfl, exY_i false ⟨fun _ _ => exY_i false ⟨exY_i false ⟨rfl, exY_i false ⟨fun _ => rfl, rfl⟩⟩, rfl⟩, ⟨⟨rfl, rfl⟩, rfl⟩, fun _ _ _ => ?_⟩⟩⟩
        have hn2 : (grantN c.acts scope group (n + 1)).2 = 0 := by rw [hnx]
        refine exY_i true (exY_i true (exY_i true (exY_i true ?_)))
        refine againM_i _ _ ?_ ?_ ⟨n + 1, rfl, by omega, rfl, by rw [hn2]⟩
        · omega
        · simp [-getElem?_pos, hw]
  · have hne : ¬ (n : Int) ≤ c.acts.length := by omega
    simp (config := { maxSteps := 10000000 }) [-getElem?_pos, List.lookup, mixed, agg, Chain.cells, Act.cells, h, hne]
end Go.Proofs.YthkmfboffnhkaaaGreatDoor
