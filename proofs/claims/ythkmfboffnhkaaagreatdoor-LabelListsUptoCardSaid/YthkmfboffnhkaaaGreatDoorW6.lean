/-
  Walks: equality of activities.
-/
import Derived.Test.YthkmfboffnhkaaaGreatDoorW5
set_option linter.all false
namespace Go.Proofs.YthkmfboffnhkaaaGreatDoor
open Go Go.L1
set_option maxRecDepth 100000
set_option maxHeartbeats 4000000

def sameRest (a b : Act) : Bool :=
  (a.author == b.author) && (a.seq == b.seq) && (a.prev == b.prev) && (a.kind == b.kind) && (a.time == b.time) && (a.object == b.object) && (a.target == b.target) && (a.scope == b.scope) &&
    (a.group == b.group) && (a.text == b.text) && ((a.body.nonce == b.body.nonce) && ((a.body.data == b.body.data) && (a.body.tag == b.body.tag))) && (a.epoch == b.epoch) && (a.n == b.n) && (a.m == b.m) &&
    ((a.sigE == b.sigE) && (a.sigS == b.sigS))
def sameS (a b : Act) : Bool := eqL (· == ·) a.to b.to && eqL wrapEq a.wraps b.wraps && sameRest a b
theorem same_ok (a b : Act) (h1 : a.to.length ≤ 1073741824) (h2 : a.wraps.length ≤ 1073741824) (s : List SO) : FnOK Tryz.prog GW 227 [agg a.cells, agg b.cells] s (.c (.bool (sameS a b))) s := by
  refine act_Same_pu {} (by simp [-getElem?_pos]) rfl ?_
  simp (config := { maxSteps := 10000000 }) [-getElem?_pos, act_Same_R0, act_Same_R1, act_Same_R2, act_Same_R3, act_Same_L, act_Same_ks, agg, Act.cells]
  refine callW0 (equalTexts_ok a.to b.to h1) rfl ?_
  simp (config := { maxSteps := 10000000 }) [-getElem?_pos, act_Same_R0, act_Same_R1, act_Same_R2, act_Same_R3, act_Same_L, act_Same_ks]
  refine exY_i (!eqL wrapEq a.wraps b.wraps) ⟨fun _ => callW0 (equalWraps_ok a.wraps b.wraps h2) rfl (by simp [-getElem?_pos, act_Same_R0, act_Same_R1, act_Same_R2, act_Same_R3, act_Same_L, act_Same_ks]), fun h => ?_, fun h3 h4 => ?_⟩
  · rw [Bool.eq_false_iff]; intro ht
    simp only [sameS, Bool.and_eq_true] at ht
    simp_all
  have hs : sameS a b = sameRest a b := by simp only [sameS]; simp_all
  rw [hs]
  repeat' first
    | rfl
    | (intros; rfl)
    | apply exY_and
    | intro _
end Go.Proofs.YthkmfboffnhkaaaGreatDoor
