/-
  Walks: ReachReaders.
-/
import Derived.Test.YthkmfboffnhkaaaGreatDoorRE
import Derived.Test.YthkmfboffnhkaaaGreatDoorTS
set_option linter.all false
namespace Go.Proofs.YthkmfboffnhkaaaGreatDoor
attribute [local simp] agoralaw25_ReachReaders_R0 agoralaw25_ReachReaders_R1 agoralaw25_ReachReaders_R2 agoralaw25_ReachReaders_R3 agoralaw25_ReachReaders_R4 agoralaw25_ReachReaders_R5 agoralaw25_ReachReaders_R6 agoralaw25_ReachReaders_R7 agoralaw25_ReachReaders_R8 agoralaw25_ReachReaders_R9 agoralaw25_ReachReaders_R10 agoralaw25_ReachReaders_R11 agoralaw25_ReachReaders_R12 agoralaw25_ReachReaders_R13 agoralaw25_ReachReaders_R14 agoralaw25_ReachReaders_R15 agoralaw25_ReachReaders_R16 agoralaw25_ReachReaders_R18 agoralaw25_ReachReaders_R19 agoralaw25_ReachReaders_B1 agoralaw25_ReachReaders_R17 agoralaw25_ReachReaders_W1 agoralaw25_ReachReaders_B0 agoralaw25_ReachReaders_R20 agoralaw25_ReachReaders_R21 agoralaw25_ReachReaders_R22 agoralaw25_ReachReaders_R23 agoralaw25_ReachReaders_L agoralaw25_ReachReaders_ks
open Go Go.L1 Go.RowKit Go.Maps
set_option maxRecDepth 100000
set_option maxHeartbeats 10000000

theorem any_con (l : List Str) (a : Str) : (l.any fun x => x == a) = l.contains a := by
  rw [Bool.eq_iff_iff, List.contains_iff_mem]
  simp [-getElem?_pos]
theorem reads25_ok (c : Chain) (i : Int) (r : Str) (hc : chainFew c = true → ∀ a ∈ c.acts, a.Fits) (hl : c.acts.length ≤ 100000000) (s : List SO) :
    FnOK Tryz.prog GW 10 [agg c.cells, .c (I i), .c (.str r)] s (.c (.bool true)) s := by
  refine agoralaw25_ReachReaders_F.pu {} (by simp [-getElem?_pos]) rfl ?_
  simp (config := { maxSteps := 10000000 }) [-getElem?_pos, List.lookup, mixed, agg, Chain.cells]
  refine callW0 small25_ok rfl ?_
  simp (config := { maxSteps := 10000000 }) [-getElem?_pos, List.lookup, mixed, agg, Chain.cells]
  refine callW0 (short25_ok c) rfl ?_
  simp (config := { maxSteps := 10000000 }) [-getElem?_pos, List.lookup, mixed, agg, Chain.cells]
  intro hw
  replace hc := hc hw
  refine callW0 (readers_ok c i hc hl) rfl ?_
  simp (config := { maxSteps := 10000000 }) [-getElem?_pos, List.lookup, mixed, agg, Chain.cells]
  refine callW0 (may_ok c i r hc hl) rfl ?_
  have hrl := readers_len c i hc hl
  simp (config := { maxSteps := 10000000 }) [-getElem?_pos, List.lookup, mixed, agg, Chain.cells]
  refine exY_i ((readersS digestS c i).1.contains r) ⟨fun _ => ?_, rfl, fun _ => exY_i (decide ((c.acts.length : Int) ≤ i)) ⟨fun _ => rfl, fun hout => ?_, fun h0 h1 => ⟨h0, ?_⟩⟩⟩
  · refine callW0 (hasRef_ok _ (by omega) r) rfl ?_
    rw [any_con]
    simp (config := { maxSteps := 10000000 }) [-getElem?_pos, List.lookup, mixed]
  · have hrd := readersS_none (dg := digestS) c i (by simpa [-getElem?_pos] using hout)
    rw [hrd]
    exact exY_i true ⟨rfl, exY_i true ⟨fun _ => by simp [-getElem?_pos, texts], rfl, rfl⟩⟩
  simp only [decide_eq_false_iff_not] at h1
  obtain ⟨k, rfl⟩ := Int.eq_ofNat_of_zero_le h0
  obtain ⟨a, ha⟩ := get_of_lt (show k < c.acts.length by omega)
  have hk := lt_of_some ha
  have hf := hc a (List.mem_of_getElem? ha)
  simp (config := { maxSteps := 10000000 }) [-getElem?_pos, List.lookup, mixed, agg, Chain.cells, ha, Act.cells]
  refine callW0 (posting_ok a.kind) rfl ?_
  simp (config := { maxSteps := 10000000 }) [-getElem?_pos, List.lookup, mixed, agg, Chain.cells, ha, Act.cells]
  refine exY_i (a.kind == 14) ⟨fun _ => rfl, ?_⟩
  have hit : isText a.kind = (isPosting a.kind || a.kind == 14) := rfl
  refine exY_i (a.scope == 0) ⟨fun _ => rfl, fun hoth => ?_, fun ht hs => ?_⟩
  · have hrd := readersS_other (dg := digestS) c k a ha (by
      rcases hoth with ⟨q1, q2⟩ | q
      · left; rw [hit, q1, q2]; rfl
      · right; simpa [-getElem?_pos] using q)
    rw [hrd]
    exact exY_i true ⟨by simp [-getElem?_pos, texts], exY_i true ⟨fun _ => by rw [hit]; cases (isPosting a.kind || a.kind == 14) <;> rfl, rfl, rfl⟩⟩
  have htx : isText a.kind = true := by
    rw [hit]
    cases hp : isPosting a.kind with
    | true => rfl
    | false => simpa [-getElem?_pos] using ht hp
  have hsc : a.scope ≠ 0 := by simpa [-getElem?_pos] using hs
  obtain ⟨l, hrd, hlt, hin, hall, hlen⟩ := readersS_text (dg := digestS) c k a ha htx hsc
  rw [hrd]
  rw [hrd] at hrl
  simp only at hrl
  refine callW0 (res := agg (tieC (tiesS digestS c.acts k))) (fun s => relOf_ok c k hc (by omega) s) rfl ?_
  simp (config := { maxSteps := 10000000 }) [-getElem?_pos, List.lookup, mixed, agg, Chain.cells, ha, Act.cells, tieC]
  refine callW0 (res := .c (texts (membersS digestS c k a.scope a.group a.to))) (fun s => members_ok c k a.scope a.group a.to hc (by omega) hf.toLe hf.toWf s) rfl ?_
  have hml := members_le c k a.scope a.group a.to hc hl hf.toBig
  generalize hMS : membersS digestS c k a.scope a.group a.to = ms at hml hall hlen ⊢
  have hbl : (tiesS digestS c.acts k).blocks.length ≤ 1000000000 := by
    have := (tiesN_le digestS c.acts (upTo k c.acts)).3
    have hM : upTo k c.acts ≤ c.acts.length := by unfold upTo; omega
    simp only [tiesS, (sorted_perm _).length_eq]; omega
  generalize hTS : tiesS digestS c.acts k = t at hall hbl ⊢
  simp (config := { maxSteps := 10000000 }) [-getElem?_pos, List.lookup, mixed, agg, Chain.cells, ha, Act.cells, tieC]
  refine loopM_intro (fun m e st => ∃ j : Nat, m = l.length - j ∧ j ≤ l.length ∧ st = s ∧ e = [(14, .c (I j)), (13, .c (texts ms)), (12, .box [.c (texts t.follows), .c (texts t.accepts), .c (texts t.blocks), .c (texts t.mutes)]),
    (9, .c (.bool true)), (8, .c (texts l)), (7, .c (.bool true)), (3, .box (cV c)), (1, .c (I k))]) l.length _ ?_ ⟨0, rfl, Nat.zero_le _, rfl, rfl⟩ ?_
  · simp [-getElem?_pos]
  rintro m e st ⟨j, rfl, hj, rfl, rfl⟩
  by_cases hjl : j < l.length
  · obtain ⟨x, hx⟩ := get_of_lt hjl
    have hwj := wrap_succ hjl (by omega)
    have hax := hall x (List.mem_of_getElem? hx)
    simp (config := { maxSteps := 10000000 }) [-getElem?_pos, List.lookup, mixed, texts, hjl, hx]
    have hxb : x ≠ c.id → t.blocks.contains x = false ∧ ms.contains x = true := fun hne => by
      obtain ⟨q1, q2⟩ := hax hne
      exact ⟨by rw [Bool.eq_false_iff]; intro h; exact q1 (List.contains_iff_mem.1 h), List.contains_iff_mem.2 q2⟩
    refine exY_i false ⟨fun hj0 => ?_, exY_i false ⟨fun _ => ?_, ⟨fun _ => rfl, rfl⟩, fun _ _ => againM_i _ _ ?_ ?_ ⟨j + 1, rfl, hjl, rfl, rfl⟩⟩⟩
    · obtain ⟨i, rfl⟩ : ∃ i, j = i + 1 := ⟨j - 1, by omega⟩
      have hwi : IntKind.i64.wrap (((i + 1 : Nat) : Int) - 1) = ((i : Nat) : Int) := by rw [IntWalk.i64_in _ (by omega)]; omega
      obtain ⟨y, hy⟩ := get_of_lt (show i < l.length by omega)
      rw [hwi]
      simp (config := { maxSteps := 10000000 }) [-getElem?_pos, List.lookup, mixed, texts, hy, hx]
      refine ⟨by omega, ?_⟩
      rw [bytesLess_eq]
      refine decide_eq_true ?_
      have hpw := List.pairwise_iff_getElem.1 hlt i (i + 1) (by omega) hjl (Nat.lt_succ_self i)
      rw [List.getElem?_eq_getElem (by omega)] at hy hx
      injection hy with hy
      injection hx with hx
      rw [hy, hx] at hpw
      exact hpw
    · refine exY_i false (And.intro ?_ (by simp [-getElem?_pos]))
      intro hne
      have h5 : x ≠ c.id := hne
      have q0 := hxb h5
      have q1 := q0.1
      have q2 := q0.2
      have hb1 : ∀ s, FnOK Tryz.prog GW 20 [.c (texts t.blocks), .c (.str x)] s (.c (.bool false)) s := fun s => by have := hasRef_ok t.blocks hbl x s; rwa [any_con, q1] at this
      have hb2 : ∀ s, FnOK Tryz.prog GW 20 [.c (texts ms), .c (.str x)] s (.c (.bool true)) s := fun s => by have := hasRef_ok ms (by omega) x s; rwa [any_con, q2] at this
      refine callW0 hb1 rfl ?_
      simp (config := { maxSteps := 10000000 }) [-getElem?_pos, List.lookup, mixed, texts, hx]
      refine exY_i false ⟨?_, rfl⟩
      refine callW0 hb2 rfl ?_
      simp (config := { maxSteps := 10000000 }) [-getElem?_pos, List.lookup, mixed, texts, hx]
    · omega
    · simp [-getElem?_pos, hwj, texts]
  · have he : j = l.length := by omega
    simp (config := { maxSteps := 10000000 }) [-getElem?_pos, List.lookup, mixed, texts, hjl]
    refine callW0 (well_ok c k hc (by omega)) rfl ?_
    simp (config := { maxSteps := 10000000 }) [-getElem?_pos, List.lookup, mixed, texts, hjl]
    have hcon : l.contains c.id = true := List.contains_iff_mem.2 hin
    have hww : IntKind.i64.wrap (1 + (ms.length : Int)) = 1 + (ms.length : Int) := by rw [IntWalk.i64_in _ (by omega)]
    have hb3 : ∀ s, FnOK Tryz.prog GW 20 [.c (texts l), .c (.str c.id)] s (.c (.bool true)) s := fun s => by have := hasRef_ok l (by omega) c.id s; rwa [any_con, hcon] at this
    refine ⟨fun hwl => exY_i true ⟨rfl, exY_i true ⟨fun _ => ?_, exY_i true ⟨fun _ _ => ?_, ⟨rfl, rfl⟩, rfl⟩⟩⟩, fun hwl => exY_i true ⟨rfl, exY_i true ⟨fun _ => ?_, exY_i true ⟨fun _ _ => ?_, ⟨rfl, rfl⟩, rfl⟩⟩⟩⟩
    · refine callW0 hb3 rfl ?_
      simp (config := { maxSteps := 10000000 }) [-getElem?_pos, List.lookup, mixed, texts]
    · rw [hww]
      rw [if_pos hwl] at hlen
      simp only [beq_iff_eq]; omega
    · refine callW0 hb3 rfl ?_
      simp (config := { maxSteps := 10000000 }) [-getElem?_pos, List.lookup, mixed, texts]
    · rw [if_neg (by rw [hwl]; simp [-getElem?_pos])] at hlen
      simp only [beq_iff_eq]; omega
end Go.Proofs.YthkmfboffnhkaaaGreatDoor
