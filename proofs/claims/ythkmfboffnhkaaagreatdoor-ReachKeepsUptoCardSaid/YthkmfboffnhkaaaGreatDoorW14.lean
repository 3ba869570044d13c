/-
  Walks: copies of lists, items of activities.
-/
import Derived.Test.YthkmfboffnhkaaaGreatDoorWG
import Derived.Test.YthkmfboffnhkaaaGreatDoorTB
set_option linter.all false
namespace Go.Proofs.YthkmfboffnhkaaaGreatDoor
attribute [local simp] slices_Clone_Lstring_string_R0 slices_Clone_Lstring_string_R1 slices_Clone_Lstring_string_R2 slices_Clone_Lstring_string_R3 slices_Clone_Lstring_string_L slices_Clone_Lstring_string_ks slices_Clone_Lapi_Wrap_api_Wrap_R0 slices_Clone_Lapi_Wrap_api_Wrap_R1 slices_Clone_Lapi_Wrap_api_Wrap_R2 slices_Clone_Lapi_Wrap_api_Wrap_R3 slices_Clone_Lapi_Wrap_api_Wrap_L slices_Clone_Lapi_Wrap_api_Wrap_ks item_cloned_R0 item_cloned_R1 item_cloned_R2 item_cloned_L item_cloned_ks item_OfAct_R0 item_OfAct_R1 item_OfAct_L item_OfAct_ks
open Go Go.L1
set_option maxRecDepth 100000
set_option maxHeartbeats 4000000

theorem cloneTexts_ok (l : List (List UInt8)) (hl : l.length ≤ 1073741824) (s : List SO) : FnOK Tryz.prog GW 68 [.c (texts l)] s (.c (texts l)) s := by
  refine slices_Clone_Lstring_string_F.pu { own := [(5, 9, 1)], frz := [(999, [2])] } (by simp [-getElem?_pos]) rfl ?_
  have hb : l.length * 16 ≤ 140737488355328 := by omega
  cases l with
  | nil => simp [-getElem?_pos, List.lookup, texts]
  | cons x r =>
    simp [-getElem?_pos] at hb hl
    simp [-getElem?_pos, List.lookup, texts, hb]
    omega
theorem cloneWraps_ok (l : List Wrap) (hl : l.length ≤ 1073741824) (s : List SO) : FnOK Tryz.prog GW 171 [.c (wrapsC l)] s (.c (wrapsC l)) s := by
  refine slices_Clone_Lapi_Wrap_api_Wrap_F.pu { own := [(5, 45, 5)], frz := [(999, [2])] } (by simp [-getElem?_pos]) rfl ?_
  have hb : l.length * 64 ≤ 140737488355328 := by omega
  cases l with
  | nil => simp [-getElem?_pos, List.lookup, wrapsC]
  | cons x r =>
    simp [-getElem?_pos] at hb hl
    simp [-getElem?_pos, List.lookup, wrapsC, hb, Wrap.cells]
    omega
theorem cloned_ok (a : Act) (h1 : a.to.length ≤ 1073741824) (h2 : a.wraps.length ≤ 1073741824) (s : List SO) : FnOK Tryz.prog GW 127 [agg a.cells] s (agg a.cells) s := by
  refine item_cloned_F.pu {} (by simp [-getElem?_pos]) rfl ?_
  simp (config := { maxSteps := 10000000 }) [-getElem?_pos, agg, Act.cells, mixed]
  refine callW0 (cloneTexts_ok a.to h1) rfl ?_
  simp (config := { maxSteps := 10000000 }) [-getElem?_pos]
  refine callW0 (cloneWraps_ok a.wraps h2) rfl ?_
  simp (config := { maxSteps := 10000000 }) [-getElem?_pos, wrapsC, agg, Act.cells]
theorem ofAct_ok (a : Act) (h1 : a.to.length ≤ 1073741824) (h2 : a.wraps.length ≤ 1073741824) (s : List SO) : FnOK Tryz.prog GW 85 [agg a.cells] s (agg (itemOf a).cells) s := by
  refine item_OfAct_F.pu {} (by simp [-getElem?_pos]) rfl ?_
  simp (config := { maxSteps := 10000000 }) [-getElem?_pos, agg, Act.cells]
  refine callW0 (cloned_ok a h1 h2) rfl ?_
  simp (config := { maxSteps := 10000000 }) [-getElem?_pos, agg, Act.cells, Item.cells, itemOf, noClaim, noBallot, noDecision, Claim.cells, Ballot.cells, Decision.cells, texts]
end Go.Proofs.YthkmfboffnhkaaaGreatDoor
