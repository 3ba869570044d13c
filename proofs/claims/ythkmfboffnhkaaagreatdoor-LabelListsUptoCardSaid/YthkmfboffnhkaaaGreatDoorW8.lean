/-
  Walks: the encoding of activities and items.
-/
import Derived.Test.YthkmfboffnhkaaaGreatDoorW7
set_option linter.all false
namespace Go.Proofs.YthkmfboffnhkaaaGreatDoor
open Go Go.L1
set_option maxRecDepth 100000
set_option maxHeartbeats 4000000

theorem coreBody_ne (a : Act) : coreBody a ≠ [] := by simp [-getElem?_pos, coreBody, coreParts, textS, numS_ne]
noncomputable def actBytes (R : FuncId → Act → Bool) (a : Act) : List UInt8 := if rightS R a then coreBody a ++ numS a.sigE ++ numS a.sigS else []
theorem actBytes_ok (R : FuncId → Act → Bool) (a : Act) (hf : a.Fits) (hlen : (coreBody a).length ≤ 100000000000000) (hright : ∀ s, FnOK Tryz.prog GW 152 [agg a.cells] s (.c (.bool (rightS R a))) s) (s : List SO) :
    FnOK Tryz.prog GW 165 [agg a.cells] s (.c (.str (actBytes R a))) s := by
  refine act_Bytes_pu {} (by simp [-getElem?_pos]) rfl ?_
  have n1 := numS_len a.sigE (hf.ints _ (by simp [-getElem?_pos]))
  have n2 := numS_len a.sigS (hf.ints _ (by simp [-getElem?_pos]))
  simp (config := { maxSteps := 10000000 }) [-getElem?_pos, act_Bytes_R0, act_Bytes_R1, act_Bytes_R2, act_Bytes_R3, act_Bytes_R4, act_Bytes_L, act_Bytes_ks, agg, Act.cells]
  refine callW0 (core_ok R a hf hright) rfl ?_
  cases hr : rightS R a
  · simp (config := { maxSteps := 10000000 }) [-getElem?_pos, act_Bytes_R0, act_Bytes_R1, act_Bytes_R2, act_Bytes_R3, act_Bytes_R4, act_Bytes_L, act_Bytes_ks, coreS, hr, actBytes]
  simp (config := { maxSteps := 10000000 }) [-getElem?_pos, act_Bytes_R0, act_Bytes_R1, act_Bytes_R2, act_Bytes_R3, act_Bytes_R4, act_Bytes_L, act_Bytes_ks, coreS, hr, coreBody_ne, mixed]
  refine callW0 (num_ok a.sigE (hf.ints _ (by simp [-getElem?_pos]))) rfl ?_
  have e1 : (coreBody a).length + (numS a.sigE).length ≤ 9223372036854775807 := by omega
  simp [-getElem?_pos, act_Bytes_R0, act_Bytes_R1, act_Bytes_R2, act_Bytes_R3, act_Bytes_R4, act_Bytes_L, act_Bytes_ks, coreS, hr, e1]
  refine callW0 (num_ok a.sigS (hf.ints _ (by simp [-getElem?_pos]))) rfl ?_
  have e2 : (coreBody a).length + (numS a.sigE).length + (numS a.sigS).length ≤ 9223372036854775807 := by omega
  have e3 : (coreBody a).length + ((numS a.sigE).length + (numS a.sigS).length) ≤ 9223372036854775807 := by omega
  simp [-getElem?_pos, act_Bytes_R0, act_Bytes_R1, act_Bytes_R2, act_Bytes_R3, act_Bytes_R4, act_Bytes_L, act_Bytes_ks, coreS, hr, e1, e2, e3, actBytes]
end Go.Proofs.YthkmfboffnhkaaaGreatDoor
