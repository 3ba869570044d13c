/-
  Walks: reach's small examples.
-/
import Derived.Test.YthkmfboffnhkaaaGreatDoorRD
set_option linter.all false
namespace Go.Proofs.YthkmfboffnhkaaaGreatDoor
attribute [local simp] agoralaw25_small_R0 agoralaw25_small_R1 agoralaw25_small_R2 agoralaw25_small_R3 agoralaw25_small_R4 agoralaw25_small_R5 agoralaw25_small_R6 agoralaw25_small_L agoralaw25_small_ks
open Go Go.L1 Go.RowKit Go.Maps
set_option maxRecDepth 100000
set_option maxHeartbeats 4000000

def act25 (k sc : Int) : Act := ⟨[], 0, [], k, 0, [], [], sc, [], [], [], noBox, 0, [], 0, 0, 0, 0⟩
def chain25 : Chain := ⟨idA1, [act25 1 0, act25 1 1, act25 5 0], [], [], 0, false⟩
theorem act25_fits (k sc : Int) (hk : 0 ≤ k ∧ k < 1000) (hs : 0 ≤ sc ∧ sc < 1000) : (act25 k sc).Fits := by
  refine ⟨by simp [-getElem?_pos, act25], by simp [-getElem?_pos, act25], by simp [-getElem?_pos, act25], by simp [-getElem?_pos, act25], by simp [-getElem?_pos, act25], by simp [-getElem?_pos, act25], ⟨by simp [-getElem?_pos, act25, noBox], by simp [-getElem?_pos, act25, noBox], by simp [-getElem?_pos, act25, noBox]⟩, by simp [-getElem?_pos, act25], by simp [-getElem?_pos, act25, sumL], by simp [-getElem?_pos, act25], by simp [-getElem?_pos, act25],
    wf_small (by simp [-getElem?_pos, act25]; omega) (by simp [-getElem?_pos, act25]; omega), ?_⟩
  intro j hj
  simp [-getElem?_pos, act25] at hj
  omega
theorem fits25 : ∀ a ∈ chain25.acts, a.Fits := by
  intro a ha
  simp [-getElem?_pos, chain25] at ha
  rcases ha with rfl | rfl | rfl <;> exact act25_fits _ _ (by omega) (by omega)
theorem rd25_0 : readersS digestS chain25 0 = ([], false) := by
  rw [show (0 : Int) = ((0 : Nat) : Int) from rfl, readersS_other chain25 0 (act25 1 0) rfl (.inr rfl)]; rfl
theorem rd25_1 : readersS digestS chain25 1 = ([idA1], true) := by
  have hg : grantS chain25.acts 1 1 [] = (0, 0) := by simp [-getElem?_pos, grantS, upTo, chain25, grantN, act25]
  have he : epochS chain25.acts 1 1 [] = (0, [], false) := by unfold epochS; rw [hg]; simp [-getElem?_pos]
  have hf : freshS digestS chain25 1 1 [] [] = true := by unfold freshS; rw [he]; rfl
  have hw : wellS digestS chain25 1 = false := by
    have ha : chain25.acts[(1 : Int).toNat]? = some (act25 1 1) := rfl
    unfold wellS
    rw [ha]
    simp only [act25] at hf ⊢
    simp [-getElem?_pos, hf]
  have ha : chain25.acts[(1 : Int).toNat]? = some (act25 1 1) := rfl
  unfold readersS
  rw [ha, hw]
  simp [-getElem?_pos, act25, isText, isPosting, chain25]
theorem rd25_2 : readersS digestS chain25 2 = ([], true) := by
  rw [show (2 : Int) = ((2 : Nat) : Int) from rfl, readersS_other chain25 2 (act25 5 0) rfl (.inl rfl)]; rfl
theorem rd25_3 : readersS digestS chain25 3 = ([], true) := readersS_none chain25 3 (.inr (by simp [-getElem?_pos, chain25]))
theorem rd25_m : readersS digestS chain25 (-1) = ([], true) := readersS_none chain25 (-1) (.inl (by omega))
theorem may25_0 : mayS digestS chain25 0 [] = true := by unfold mayS; rw [rd25_0]; rfl
theorem may25_1 : mayS digestS chain25 1 [] = false := by unfold mayS; rw [rd25_1]; rfl
theorem may25_1i : mayS digestS chain25 1 idA1 = true := by unfold mayS; rw [rd25_1]; rfl
theorem may25_2 : mayS digestS chain25 2 idA1 = false := by unfold mayS; rw [rd25_2]; rfl
theorem may25_3 : mayS digestS chain25 3 idA1 = false := by unfold mayS; rw [rd25_3]; rfl
theorem may25_m : mayS digestS chain25 (-1) idA1 = false := by unfold mayS; rw [rd25_m]; rfl
theorem may25_0F (s : List SO) : FnOK Tryz.prog GW 38 [agg chain25.cells, .c (I 0), .c (.str [])] s (.c (.bool true)) s := may25_0 ▸ may_ok chain25 0 [] fits25 (by simp [-getElem?_pos, chain25]) s
theorem may25_1F (s : List SO) : FnOK Tryz.prog GW 38 [agg chain25.cells, .c (I 1), .c (.str [])] s (.c (.bool false)) s := may25_1 ▸ may_ok chain25 1 [] fits25 (by simp [-getElem?_pos, chain25]) s
theorem may25_1iF (s : List SO) : FnOK Tryz.prog GW 38 [agg chain25.cells, .c (I 1), .c (.str idA1)] s (.c (.bool true)) s := may25_1i ▸ may_ok chain25 1 idA1 fits25 (by simp [-getElem?_pos, chain25]) s
theorem may25_2F (s : List SO) : FnOK Tryz.prog GW 38 [agg chain25.cells, .c (I 2), .c (.str idA1)] s (.c (.bool false)) s := may25_2 ▸ may_ok chain25 2 idA1 fits25 (by simp [-getElem?_pos, chain25]) s
theorem may25_3F (s : List SO) : FnOK Tryz.prog GW 38 [agg chain25.cells, .c (I 3), .c (.str idA1)] s (.c (.bool false)) s := may25_3 ▸ may_ok chain25 3 idA1 fits25 (by simp [-getElem?_pos, chain25]) s
theorem may25_mF (s : List SO) : FnOK Tryz.prog GW 38 [agg chain25.cells, .c (I (-1)), .c (.str idA1)] s (.c (.bool false)) s := may25_m ▸ may_ok chain25 (-1) idA1 fits25 (by simp [-getElem?_pos, chain25]) s
theorem small25_ok (s : List SO) : FnOK Tryz.prog GW 35 [] s (.c (.bool true)) s := by
  refine agoralaw25_small_F.pu {} (by simp [-getElem?_pos]) rfl ?_
  have hl : chain25.acts.length ≤ 100000000 := by simp [-getElem?_pos, chain25]
  simp (config := { maxSteps := 10000000 }) [-getElem?_pos, mixed]
  refine callW0 (readers_ok chain25 0 fits25 hl) rfl ?_
  rw [rd25_0]
  simp (config := { maxSteps := 10000000 }) [-getElem?_pos, mixed]
  refine callW0 (readers_ok chain25 1 fits25 hl) rfl ?_
  rw [rd25_1]
  simp (config := { maxSteps := 10000000 }) [-getElem?_pos, mixed]
  refine callW0 (readers_ok chain25 2 fits25 hl) rfl ?_
  rw [rd25_2]
  simp (config := { maxSteps := 10000000 }) [-getElem?_pos, mixed, texts]
  refine exY_i true ⟨rfl, exY_i true ⟨fun _ => ?_, exY_i true ⟨fun _ _ => rfl, exY_i true ⟨fun _ _ _ => rfl, exY_i true ⟨fun _ _ _ _ => rfl, exY_i true ⟨fun _ _ _ _ _ => ?_, exY_i true ⟨fun _ _ _ _ _ _ => ?_, exY_i true ⟨fun _ _ _ _ _ _ _ => ?_, exY_i true ⟨fun _ _ _ _ _ _ _ _ => ?_, exY_i true ⟨fun _ _ _ _ _ _ _ _ _ => ?_, exY_i true ⟨fun _ _ _ _ _ _ _ _ _ _ => ?_, by simp [-getElem?_pos]⟩⟩⟩⟩⟩⟩⟩⟩⟩⟩⟩
  · refine callW0 (sameS_ok [idA1] [idA1] (by simp [-getElem?_pos])) rfl ?_
    simp (config := { maxSteps := 10000000 }) [-getElem?_pos, mixed, eqL, strEq]
  · refine callW0 may25_0F rfl ?_
    simp (config := { maxSteps := 10000000 }) [-getElem?_pos, mixed]
  · refine callW0 may25_1F rfl ?_
    simp (config := { maxSteps := 10000000 }) [-getElem?_pos, mixed]
  · refine callW0 may25_1iF rfl ?_
    simp (config := { maxSteps := 10000000 }) [-getElem?_pos, mixed]
  · refine callW0 may25_2F rfl ?_
    simp (config := { maxSteps := 10000000 }) [-getElem?_pos, mixed]
  · refine callW0 may25_3F rfl ?_
    simp (config := { maxSteps := 10000000 }) [-getElem?_pos, mixed]
  · refine callW0 may25_mF rfl ?_
    simp (config := { maxSteps := 10000000 }) [-getElem?_pos, mixed]
end Go.Proofs.YthkmfboffnhkaaaGreatDoor
