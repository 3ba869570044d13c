/-
  Walks: items.
-/
import Derived.Test.YthkmfboffnhkaaaGreatDoorW8
import Derived.Test.YthkmfboffnhkaaaGreatDoorW11
set_option linter.all false
namespace Go.Proofs.YthkmfboffnhkaaaGreatDoor
open Go Go.L1
set_option maxRecDepth 100000
set_option maxHeartbeats 4000000

structure Claim where
  actor : List UInt8
  base : Int
  prev : List UInt8
  gen : Int
  home : Int
  pub : Int
  time : Int
  sigE : Int
  sigS : Int
structure Ballot where
  server : Int
  actor : List UInt8
  gen : Int
  claim : List UInt8
  time : Int
  sigE : Int
  sigS : Int
structure Decision where
  server : Int
  number : Int
  kind : Int
  actor : List UInt8
  object : List UInt8
  text : List UInt8
  to : List (List UInt8)
  n : Int
  from_ : Int
  until_ : Int
  sigE : Int
  sigS : Int
structure Item where
  kind : Int
  act : Act
  claim : Claim
  ballot : Ballot
  decision : Decision
def Claim.cells (c : Claim) : List C := [.str c.actor, I c.base, .str c.prev, I c.gen, I c.home, I c.pub, I c.time, I c.sigE, I c.sigS]
def Ballot.cells (b : Ballot) : List C := [I b.server, .str b.actor, I b.gen, .str b.claim, I b.time, I b.sigE, I b.sigS]
def Decision.cells (d : Decision) : List C := [I d.server, I d.number, I d.kind, .str d.actor, .str d.object, .str d.text, texts d.to, I d.n, I d.from_, I d.until_, I d.sigE, I d.sigS]
def Item.cells (it : Item) : List C := I it.kind :: (it.act.cells ++ (it.claim.cells ++ (it.ballot.cells ++ it.decision.cells)))
def noBox : Box := ⟨[], [], []⟩
def noAct : Act := ⟨[], 0, [], 0, 0, [], [], 0, [], [], [], noBox, 0, [], 0, 0, 0, 0⟩
def noClaim : Claim := ⟨[], 0, [], 0, 0, 0, 0, 0, 0⟩
def noBallot : Ballot := ⟨0, [], 0, [], 0, 0, 0⟩
def noDecision : Decision := ⟨0, 0, 0, [], [], [], [], 0, 0, 0, 0, 0⟩
def itemOf (a : Act) : Item := ⟨0, a, noClaim, noBallot, noDecision⟩

def sameClaim (a b : Claim) : Bool := (a.actor == b.actor) && ((a.base == b.base) && ((a.prev == b.prev) && ((a.gen == b.gen) && ((a.home == b.home) && ((a.pub == b.pub) && ((a.time == b.time) && ((a.sigE == b.sigE) && (a.sigS == b.sigS))))))))
def sameBallot (a b : Ballot) : Bool := (a.server == b.server) && ((a.actor == b.actor) && ((a.gen == b.gen) && ((a.claim == b.claim) && ((a.time == b.time) && ((a.sigE == b.sigE) && (a.sigS == b.sigS))))))
def sameDecisionS (a b : Decision) : Bool := eqL (· == ·) a.to b.to && (a.server == b.server) && (a.number == b.number) && (a.kind == b.kind) && (a.actor == b.actor) && (a.object == b.object) && (a.text == b.text) && (a.n == b.n) &&
  (a.from_ == b.from_) && (a.until_ == b.until_) && ((a.sigE == b.sigE) && (a.sigS == b.sigS))
theorem sameDecision_ok (a b : Decision) (h1 : a.to.length ≤ 1073741824) (s : List SO) : FnOK Tryz.prog GW 228 [agg a.cells, agg b.cells] s (.c (.bool (sameDecisionS a b))) s := by
  refine item_sameDecision_pu {} (by simp [-getElem?_pos]) rfl ?_
  simp (config := { maxSteps := 10000000 }) [-getElem?_pos, item_sameDecision_R0, item_sameDecision_R1, item_sameDecision_L, item_sameDecision_ks, agg, Decision.cells]
  refine callW0 (equalTexts_ok a.to b.to h1) rfl ?_
  simp (config := { maxSteps := 10000000 }) [-getElem?_pos, item_sameDecision_R0, item_sameDecision_R1, item_sameDecision_L, item_sameDecision_ks]
  repeat' first
    | rfl
    | (intros; rfl)
    | apply exY_and
    | intro _
def sameItem (a b : Item) : Bool := (a.kind == b.kind) && sameS a.act b.act && sameClaim a.claim b.claim && sameBallot a.ballot b.ballot && sameDecisionS a.decision b.decision
theorem sameItem_ok (a b : Item) (h1 : a.act.to.length ≤ 1073741824) (h2 : a.act.wraps.length ≤ 1073741824) (h3 : a.decision.to.length ≤ 1073741824) (s : List SO) :
    FnOK Tryz.prog GW 204 [agg a.cells, agg b.cells] s (.c (.bool (sameItem a b))) s := by
  refine item_Same_pu {} (by simp [-getElem?_pos]) rfl ?_
  simp (config := { maxSteps := 10000000 }) [-getElem?_pos, item_Same_R0, item_Same_R1, item_Same_L, item_Same_ks, agg, Item.cells, Act.cells, Claim.cells, Ballot.cells, Decision.cells]
  refine exY_i (sameS a.act b.act) ⟨fun _ => callW0 (same_ok a.act b.act h1 h2) rfl (by simp [-getElem?_pos, item_Same_R0, item_Same_R1, item_Same_L, item_Same_ks]), exY_i (sameClaim a.claim b.claim) ⟨fun _ _ => rfl, exY_i (sameBallot a.ballot b.ballot) ⟨fun _ _ _ => rfl,
    exY_i (sameDecisionS a.decision b.decision) ⟨fun _ _ _ _ => callW0 (sameDecision_ok a.decision b.decision h3) rfl (by simp [-getElem?_pos, item_Same_R0, item_Same_R1, item_Same_L, item_Same_ks]), rfl⟩⟩⟩⟩
theorem itemRight_ok (it : Item) (h0 : it.kind = 0) (hk : (Lit.int .i64 it.act.kind).wf = true) (h1 : it.act.to.length ≤ 1073741824) (h2 : it.act.wraps.length ≤ 1073741824) (h3 : it.decision.to.length ≤ 1073741824) (s : List SO) :
    FnOK Tryz.prog GW 162 [agg it.cells] s (.c (.bool (actRight it.act && sameItem it (itemOf it.act)))) s := by
  refine item_Right_pu {} (by simp [-getElem?_pos]) rfl ?_
  simp (config := { maxSteps := 10000000 }) [-getElem?_pos, item_Right_R0, item_Right_R1, item_Right_R2, item_Right_R3, item_Right_R4, item_Right_R5, item_Right_R6, item_Right_R7, item_Right_R8, item_Right_R9, item_Right_R10, item_Right_R11, item_Right_B0, item_Right_R12, item_Right_L, item_Right_ks, agg, Item.cells, Act.cells, Claim.cells, Ballot.cells, Decision.cells, h0, mixed]
  refine callW0 (actRight_ok it.act hk h1 h2) rfl ?_
  simp (config := { maxSteps := 10000000 }) [-getElem?_pos, item_Right_R0, item_Right_R1, item_Right_R2, item_Right_R3, item_Right_R4, item_Right_R5, item_Right_R6, item_Right_R7, item_Right_R8, item_Right_R9, item_Right_R10, item_Right_R11, item_Right_B0, item_Right_R12, item_Right_L, item_Right_ks]
  refine exY_i (sameItem it (itemOf it.act)) ⟨fun _ => ?_, rfl⟩
  refine callW0 (res := .c (.bool (sameItem it (itemOf it.act)))) (fun s' => ?_) rfl (by simp [-getElem?_pos, item_Right_R0, item_Right_R1, item_Right_R2, item_Right_R3, item_Right_R4, item_Right_R5, item_Right_R6, item_Right_R7, item_Right_R8, item_Right_R9, item_Right_R10, item_Right_R11, item_Right_B0, item_Right_R12, item_Right_L, item_Right_ks])
  have h := sameItem_ok it (itemOf it.act) h1 h2 h3 s'
  simpa [-getElem?_pos, agg, Item.cells, Act.cells, Claim.cells, Ballot.cells, Decision.cells, itemOf, noClaim, noBallot, noDecision, texts, h0] using h
theorem eqL_refl {α : Type} {f : α → α → Bool} (hf : ∀ x, f x x = true) : ∀ l : List α, eqL f l l = true
  | [] => rfl
  | x :: l => by simp [-getElem?_pos, eqL, hf, eqL_refl hf l]
theorem sameS_refl (a : Act) : sameS a a = true := by
  simp [-getElem?_pos, sameS, sameRest, eqL_refl, wrapEq]
theorem sameItem_refl (it : Item) : sameItem it it = true := by
  simp [-getElem?_pos, sameItem, sameS_refl, sameClaim, sameBallot, sameDecisionS, eqL_refl]
theorem itemOf_right (a : Act) (hk : (Lit.int .i64 a.kind).wf = true) (h1 : a.to.length ≤ 1073741824) (h2 : a.wraps.length ≤ 1073741824) (s : List SO) :
    FnOK Tryz.prog GW 162 [agg (itemOf a).cells] s (.c (.bool (actRight a))) s := by
  have h := itemRight_ok (itemOf a) rfl hk h1 h2 (by simp [-getElem?_pos, itemOf, noDecision]) s
  rw [show sameItem (itemOf a) (itemOf (itemOf a).act) = true from sameItem_refl _, Bool.and_true] at h
  exact h
end Go.Proofs.YthkmfboffnhkaaaGreatDoor
