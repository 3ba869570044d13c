/-
  Walks: the rules of the kinds of activities.
-/
import Derived.Test.YthkmfboffnhkaaaGreatDoorW10
set_option linter.all false
namespace Go.Proofs.YthkmfboffnhkaaaGreatDoor
open Go Go.L1
set_option maxRecDepth 100000
set_option maxHeartbeats 4000000

def isPublicS (n : Int) : Bool := inR n 1 2305843009213693950
theorem isPublic_ok (n : Int) (s : List SO) : FnOK Tryz.prog GW 285 [.c (.int .i64 n)] s (.c (.bool (isPublicS n))) s := by
  refine act_isPublic_pu {} (by simp [-getElem?_pos]) rfl ?_
  simp [-getElem?_pos, act_isPublic_R0, act_isPublic_R1, act_isPublic_L, act_isPublic_ks]
  refine callW0 (within_ok _ _ _) rfl ?_
  simp [-getElem?_pos, isPublicS, inR]
def shortS (t : List UInt8) : Bool := decide ((t.length : Int) ≤ 500)
theorem short_ok (t : List UInt8) (s : List SO) : FnOK Tryz.prog GW 297 [.c (.str t)] s (.c (.bool (shortS t))) s := by
  refine act_short_pu {} (by simp [-getElem?_pos]) rfl ?_
  simp [-getElem?_pos, act_short_R0, act_short_R1, act_short_L, act_short_ks, shortS]
theorem reason_ok (a : Act) (s : List SO) : FnOK Tryz.prog GW 287 [agg a.cells] s (.c (.bool (shortS a.text))) s := by
  refine act_reason_pu {} (by simp [-getElem?_pos]) rfl ?_
  simp [-getElem?_pos, act_reason_R0, act_reason_R1, act_reason_L, act_reason_ks, agg, Act.cells]
  refine callW0 (short_ok _) rfl ?_
  simp [-getElem?_pos, act_reason_R0, act_reason_R1, act_reason_L, act_reason_ks]
def isBoxS (b : Box) : Bool := ((b.nonce.length : Int) == 32) && ((b.tag.length : Int) == 16) && shortS b.data
theorem isBox_ok (b : Box) (s : List SO) : FnOK Tryz.prog GW 298 [agg [.str b.nonce, .str b.data, .str b.tag]] s (.c (.bool (isBoxS b))) s := by
  refine act_isBox_pu {} (by simp [-getElem?_pos]) rfl ?_
  simp [-getElem?_pos, act_isBox_R0, act_isBox_R1, act_isBox_L, act_isBox_ks, agg]
  exact exY_i ((b.tag.length : Int) == 16) ⟨fun _ => rfl, exY_i (shortS b.data) ⟨fun _ _ => callW0 (short_ok _) rfl (by simp [-getElem?_pos, act_isBox_R0, act_isBox_R1, act_isBox_L, act_isBox_ks]), rfl⟩⟩
def isWrapS (w : Wrap) : Bool := isPublicS w.to && isPublicS w.eph && isBoxS w.box
theorem isWrap_ok (w : Wrap) (s : List SO) : FnOK Tryz.prog GW 301 [agg w.cells] s (.c (.bool (isWrapS w))) s := by
  refine act_isWrap_pu {} (by simp [-getElem?_pos]) rfl ?_
  simp [-getElem?_pos, act_isWrap_R0, act_isWrap_R1, act_isWrap_L, act_isWrap_ks, agg, Wrap.cells]
  refine callW0 (isPublic_ok _) rfl ?_
  simp [-getElem?_pos, act_isWrap_R0, act_isWrap_R1, act_isWrap_L, act_isWrap_ks]
  exact exY_i (isPublicS w.eph) ⟨fun _ => callW0 (isPublic_ok _) rfl (by simp [-getElem?_pos, act_isWrap_R0, act_isWrap_R1, act_isWrap_L, act_isWrap_ks]), exY_i (isBoxS w.box) ⟨fun _ _ => callW0 (isBox_ok _) rfl (by simp [-getElem?_pos, act_isWrap_R0, act_isWrap_R1, act_isWrap_L, act_isWrap_ks]), rfl⟩⟩
theorem wraps1_ok (w : Wrap) (s : List SO) : FnOK Tryz.prog GW 300 [agg w.cells] s (.c (.bool (!isWrapS w))) s := by
  refine act_wraps_1_pu {} (by simp [-getElem?_pos]) rfl ?_
  simp [-getElem?_pos, act_wraps_1_R0, act_wraps_1_R1, act_wraps_1_L, act_wraps_1_ks, agg, Wrap.cells]
  refine callW0 (isWrap_ok w) rfl ?_
  simp [-getElem?_pos, act_wraps_1_R0, act_wraps_1_R1, act_wraps_1_L, act_wraps_1_ks]
theorem indexWrap_ok {α : Type} (f : α → List C) (hf : ∀ x, (f x).length = 5) (xs : List α) (hl : xs.length ≤ 1073741824) (p : α → Bool) (g : FuncId) (s : List SO)
    (hp : ∀ x ∈ xs, FnOK Tryz.prog GW g [agg (f x)] s (.c (.bool (p x))) s) :
    FnOK Tryz.prog GW 302 [.c (.sl (xs.map f)), .c (.fn g)] s (.c (.int .i64 (idx p xs))) s := by
  refine slices_IndexFunc_Lapi_Wrap_api_Wrap_pu {} (by simp [-getElem?_pos]) rfl ?_
  simp [-getElem?_pos, slices_IndexFunc_Lapi_Wrap_api_Wrap_R0, slices_IndexFunc_Lapi_Wrap_api_Wrap_R1, slices_IndexFunc_Lapi_Wrap_api_Wrap_R2, slices_IndexFunc_Lapi_Wrap_api_Wrap_R3, slices_IndexFunc_Lapi_Wrap_api_Wrap_R4, slices_IndexFunc_Lapi_Wrap_api_Wrap_R5, slices_IndexFunc_Lapi_Wrap_api_Wrap_B1, slices_IndexFunc_Lapi_Wrap_api_Wrap_R6, slices_IndexFunc_Lapi_Wrap_api_Wrap_W1, slices_IndexFunc_Lapi_Wrap_api_Wrap_B0, slices_IndexFunc_Lapi_Wrap_api_Wrap_R7, slices_IndexFunc_Lapi_Wrap_api_Wrap_L, slices_IndexFunc_Lapi_Wrap_api_Wrap_ks]
  refine loopM_intro (fun m e st => ∃ i : Nat, m = xs.length - i ∧ i ≤ xs.length ∧ st = s ∧ (xs.take i).all (fun x => !p x) = true ∧
    e = [(8, .c (I i)), (7, .c (I xs.length)), (0, .c (.sl (xs.map f))), (1, .c (.fn g))]) xs.length _ ?_ ⟨0, rfl, Nat.zero_le _, rfl, rfl, rfl⟩ ?_
  · simp [-getElem?_pos]
  rintro m e st ⟨i, rfl, hi, rfl, hall, rfl⟩
  by_cases h : i < xs.length
  · obtain ⟨x, hx⟩ := get_of_lt h
    have hw := wrap_succ h (by omega)
    have ht : List.take 5 (List.map V.c (f x)) = List.map V.c (f x) := List.take_of_length_le (by simp [-getElem?_pos, hf])
    simp [-getElem?_pos, slices_IndexFunc_Lapi_Wrap_api_Wrap_R0, slices_IndexFunc_Lapi_Wrap_api_Wrap_R1, slices_IndexFunc_Lapi_Wrap_api_Wrap_R2, slices_IndexFunc_Lapi_Wrap_api_Wrap_R3, slices_IndexFunc_Lapi_Wrap_api_Wrap_R4, slices_IndexFunc_Lapi_Wrap_api_Wrap_R5, slices_IndexFunc_Lapi_Wrap_api_Wrap_B1, slices_IndexFunc_Lapi_Wrap_api_Wrap_R6, slices_IndexFunc_Lapi_Wrap_api_Wrap_W1, slices_IndexFunc_Lapi_Wrap_api_Wrap_B0, slices_IndexFunc_Lapi_Wrap_api_Wrap_R7, slices_IndexFunc_Lapi_Wrap_api_Wrap_L, slices_IndexFunc_Lapi_Wrap_api_Wrap_ks, h, hx, hf, ht]
    refine callW1 (hp x (List.mem_of_getElem? hx)) rfl ?_
    simp [-getElem?_pos, slices_IndexFunc_Lapi_Wrap_api_Wrap_R0, slices_IndexFunc_Lapi_Wrap_api_Wrap_R1, slices_IndexFunc_Lapi_Wrap_api_Wrap_R2, slices_IndexFunc_Lapi_Wrap_api_Wrap_R3, slices_IndexFunc_Lapi_Wrap_api_Wrap_R4, slices_IndexFunc_Lapi_Wrap_api_Wrap_R5, slices_IndexFunc_Lapi_Wrap_api_Wrap_B1, slices_IndexFunc_Lapi_Wrap_api_Wrap_R6, slices_IndexFunc_Lapi_Wrap_api_Wrap_W1, slices_IndexFunc_Lapi_Wrap_api_Wrap_B0, slices_IndexFunc_Lapi_Wrap_api_Wrap_R7, slices_IndexFunc_Lapi_Wrap_api_Wrap_L, slices_IndexFunc_Lapi_Wrap_api_Wrap_ks, hw]
    refine ⟨fun h1 => (idx_found hall hx h1).symm, fun h1 => againM_i _ _ ?_ ?_ ⟨i + 1, rfl, h, rfl, all_take hall hx (by simp [-getElem?_pos, h1]), rfl⟩⟩
    · omega
    · simp [-getElem?_pos]
  · simp [-getElem?_pos, slices_IndexFunc_Lapi_Wrap_api_Wrap_R0, slices_IndexFunc_Lapi_Wrap_api_Wrap_R1, slices_IndexFunc_Lapi_Wrap_api_Wrap_R2, slices_IndexFunc_Lapi_Wrap_api_Wrap_R3, slices_IndexFunc_Lapi_Wrap_api_Wrap_R4, slices_IndexFunc_Lapi_Wrap_api_Wrap_R5, slices_IndexFunc_Lapi_Wrap_api_Wrap_B1, slices_IndexFunc_Lapi_Wrap_api_Wrap_R6, slices_IndexFunc_Lapi_Wrap_api_Wrap_W1, slices_IndexFunc_Lapi_Wrap_api_Wrap_B0, slices_IndexFunc_Lapi_Wrap_api_Wrap_R7, slices_IndexFunc_Lapi_Wrap_api_Wrap_L, slices_IndexFunc_Lapi_Wrap_api_Wrap_ks, h, idx_none hall (by omega)]
theorem idx_any {α : Type} (p : α → Bool) (l : List α) : decide (idx p l ≥ 0) = l.any p := by
  rcases idx_spec p l with ⟨h1, h2⟩ | ⟨i, x, h1, h2, h3⟩
  · rw [h1]
    have : l.any p = false := by rw [List.any_eq_false]; intro x hx; simp [-getElem?_pos, h2 x hx]
    rw [this]; rfl
  · rw [h1]
    have : l.any p = true := List.any_eq_true.2 ⟨x, List.mem_of_getElem? h2, h3⟩
    rw [this]; simp [-getElem?_pos]
theorem contains_ok (l : List Wrap) (hl : l.length ≤ 1073741824) (s : List SO) : FnOK Tryz.prog GW 299 [.c (wrapsC l), .c (.fn 300)] s (.c (.bool (l.any fun w => !isWrapS w))) s := by
  refine slices_ContainsFunc_Lapi_Wrap_api_Wrap_pu {} (by simp [-getElem?_pos]) rfl ?_
  simp [-getElem?_pos, slices_ContainsFunc_Lapi_Wrap_api_Wrap_R0, slices_ContainsFunc_Lapi_Wrap_api_Wrap_R1, slices_ContainsFunc_Lapi_Wrap_api_Wrap_L, slices_ContainsFunc_Lapi_Wrap_api_Wrap_ks, wrapsC]
  refine callW1 (indexWrap_ok Wrap.cells (fun _ => rfl) l hl (fun w => !isWrapS w) 300 s (fun x _ => wraps1_ok x s)) rfl ?_
  simp [-getElem?_pos, slices_ContainsFunc_Lapi_Wrap_api_Wrap_R0, slices_ContainsFunc_Lapi_Wrap_api_Wrap_R1, slices_ContainsFunc_Lapi_Wrap_api_Wrap_L, slices_ContainsFunc_Lapi_Wrap_api_Wrap_ks]
  simpa [-getElem?_pos] using idx_any (fun w => !isWrapS w) l
def wrapsOkS (a : Act) : Bool := ((a.wraps.length : Int) == a.to.length) && !(a.wraps.any fun w => !isWrapS w)
theorem wrapsOk_ok (a : Act) (hl : a.wraps.length ≤ 1073741824) (s : List SO) : FnOK Tryz.prog GW 291 [agg a.cells] s (.c (.bool (wrapsOkS a))) s := by
  refine act_wraps_pu {} (by simp [-getElem?_pos]) rfl ?_
  simp [-getElem?_pos, act_wraps_R0, act_wraps_R1, act_wraps_L, act_wraps_ks, agg, Act.cells, texts]
  exact exY_i (!(a.wraps.any fun w => !isWrapS w)) ⟨fun _ => callW0 (contains_ok a.wraps hl) rfl (by simp [-getElem?_pos, act_wraps_R0, act_wraps_R1, act_wraps_L, act_wraps_ks]), rfl⟩
def groupedS (a : Act) : Bool := if a.scope = 2 then nameS a.group else if a.scope = 1 ∨ a.scope = 3 then a.group.isEmpty else false
theorem grouped_ok (a : Act) (s : List SO) : FnOK Tryz.prog GW 290 [agg a.cells] s (.c (.bool (groupedS a))) s := by
  refine act_grouped_pu {} (by simp [-getElem?_pos]) rfl ?_
  simp [-getElem?_pos, act_grouped_R0, act_grouped_R1, act_grouped_R2, act_grouped_R3, act_grouped_R4, act_grouped_R5, act_grouped_R6, act_grouped_B0, act_grouped_R7, act_grouped_L, act_grouped_ks, agg, Act.cells, texts]
  refine ⟨fun h => callW0 (name_ok _) rfl (by simp [-getElem?_pos, act_grouped_R0, act_grouped_R1, act_grouped_R2, act_grouped_R3, act_grouped_R4, act_grouped_R5, act_grouped_R6, act_grouped_B0, act_grouped_R7, act_grouped_L, act_grouped_ks, groupedS, h]), fun h => ⟨fun h1 => ?_, fun h1 => ?_⟩⟩
  all_goals simp_all [act_grouped_R0, act_grouped_R1, act_grouped_R2, act_grouped_R3, act_grouped_R4, act_grouped_R5, act_grouped_R6, act_grouped_B0, act_grouped_R7, act_grouped_L, act_grouped_ks, groupedS]
def bodyZ (b : Box) : Bool := b.nonce.isEmpty && (b.data.isEmpty && b.tag.isEmpty)
def audienceS (a : Act) : Bool := idsS a.to && (if a.scope = 0 then a.group.isEmpty && (a.epoch == 0) && shortS a.text && bodyZ a.body
  else groupedS a && inR a.epoch 0 1073741824 && a.text.isEmpty && isBoxS a.body && (((a.to.length : Int) == 0) || (a.scope == 3)))
theorem audience_ok (a : Act) (hl : a.to.length ≤ 1073741824) (s : List SO) : FnOK Tryz.prog GW 286 [agg a.cells] s (.c (.bool (audienceS a))) s := by
  refine act_audience_pu {} (by simp [-getElem?_pos]) rfl ?_
  simp [-getElem?_pos, act_audience_R0, act_audience_R1, act_audience_R2, act_audience_R3, act_audience_R4, act_audience_R5, act_audience_L, act_audience_ks, agg, Act.cells, texts]
  refine callW0 (ids_ok a.to hl) rfl ?_
  simp [-getElem?_pos, act_audience_R0, act_audience_R1, act_audience_R2, act_audience_R3, act_audience_R4, act_audience_R5, act_audience_L, act_audience_ks]
  refine ⟨fun h => by simp [-getElem?_pos, audienceS, h], fun h => ⟨fun h0 => ?_, fun h0 => ?_⟩⟩
  · refine exY_i (a.epoch == 0) ⟨fun _ => rfl, exY_i (shortS a.text) ⟨fun _ _ => callW0 (short_ok _) rfl (by simp [-getElem?_pos, act_audience_R0, act_audience_R1, act_audience_R2, act_audience_R3, act_audience_R4, act_audience_R5, act_audience_L, act_audience_ks]), exY_i (bodyZ a.body) ⟨fun _ _ _ => rfl, ?_⟩⟩⟩
    simp only [audienceS, h, h0, if_true, Bool.true_and]
  · refine callW0 (grouped_ok a) rfl ?_
    simp [-getElem?_pos, act_audience_R0, act_audience_R1, act_audience_R2, act_audience_R3, act_audience_R4, act_audience_R5, act_audience_L, act_audience_ks]
    refine exY_i (inR a.epoch 0 1073741824) ⟨fun _ => callW0 (within_ok _ _ _) rfl (by simp [-getElem?_pos, act_audience_R0, act_audience_R1, act_audience_R2, act_audience_R3, act_audience_R4, act_audience_R5, act_audience_L, act_audience_ks, inR]), exY_i a.text.isEmpty ⟨fun _ _ => rfl, exY_i (isBoxS a.body) ⟨fun _ _ _ => callW0 (isBox_ok _) rfl (by simp [-getElem?_pos, act_audience_R0, act_audience_R1, act_audience_R2, act_audience_R3, act_audience_R4, act_audience_R5, act_audience_L, act_audience_ks]),
      exY_i (((a.to.length : Int) == 0) || (a.scope == 3)) ⟨fun _ _ _ _ => exY_i (a.scope == 3) ⟨fun _ => rfl, ?_⟩, ?_⟩⟩⟩⟩
    · first | rfl | simp [-getElem?_pos]
    · simp only [audienceS, h, if_neg h0, Bool.true_and]
def rule1 (a : Act) : Bool := nameS a.text && isPublicS a.n && inR a.m 0 19
theorem rule1_ok (a : Act) (s : List SO) : FnOK Tryz.prog GW 283 [agg a.cells] s (.c (.bool (rule1 a))) s := by
  refine act_kinds_1_pu {} (by simp [-getElem?_pos]) rfl ?_
  simp [-getElem?_pos, act_kinds_1_R0, act_kinds_1_R1, act_kinds_1_L, act_kinds_1_ks, agg, Act.cells, texts]
  refine callW0 (name_ok _) rfl ?_
  simp [-getElem?_pos, act_kinds_1_R0, act_kinds_1_R1, act_kinds_1_L, act_kinds_1_ks]
  exact exY_i (isPublicS a.n) ⟨fun _ => callW0 (isPublic_ok _) rfl (by simp [-getElem?_pos, act_kinds_1_R0, act_kinds_1_R1, act_kinds_1_L, act_kinds_1_ks]), exY_i (inR a.m 0 19) ⟨fun _ _ => callW0 (within_ok _ _ _) rfl (by simp [-getElem?_pos, act_kinds_1_R0, act_kinds_1_R1, act_kinds_1_L, act_kinds_1_ks, inR]), rfl⟩⟩
def rule2 (a : Act) : Bool := nameS a.group && idsS a.to
theorem rule2_ok (a : Act) (hl : a.to.length ≤ 1073741824) (s : List SO) : FnOK Tryz.prog GW 288 [agg a.cells] s (.c (.bool (rule2 a))) s := by
  refine act_kinds_2_pu {} (by simp [-getElem?_pos]) rfl ?_
  simp [-getElem?_pos, act_kinds_2_R0, act_kinds_2_R1, act_kinds_2_L, act_kinds_2_ks, agg, Act.cells, texts]
  refine callW0 (name_ok _) rfl ?_
  simp [-getElem?_pos, act_kinds_2_R0, act_kinds_2_R1, act_kinds_2_L, act_kinds_2_ks]
  exact exY_i (idsS a.to) ⟨fun _ => callW0 (ids_ok a.to hl) rfl (by simp [-getElem?_pos, act_kinds_2_R0, act_kinds_2_R1, act_kinds_2_L, act_kinds_2_ks]), rfl⟩
def rule3 (a : Act) : Bool := groupedS a && inR a.epoch 0 1073741824 && idsS a.to && wrapsOkS a && a.text.isEmpty && bodyZ a.body
theorem rule3_ok (a : Act) (hl : a.to.length ≤ 1073741824) (hw : a.wraps.length ≤ 1073741824) (s : List SO) : FnOK Tryz.prog GW 289 [agg a.cells] s (.c (.bool (rule3 a))) s := by
  refine act_kinds_3_pu {} (by simp [-getElem?_pos]) rfl ?_
  simp [-getElem?_pos, act_kinds_3_R0, act_kinds_3_R1, act_kinds_3_L, act_kinds_3_ks, agg, Act.cells, texts]
  refine callW0 (grouped_ok a) rfl ?_
  simp [-getElem?_pos, act_kinds_3_R0, act_kinds_3_R1, act_kinds_3_L, act_kinds_3_ks]
  refine exY_i (inR a.epoch 0 1073741824) ⟨fun _ => callW0 (within_ok _ _ _) rfl (by simp [-getElem?_pos, act_kinds_3_R0, act_kinds_3_R1, act_kinds_3_L, act_kinds_3_ks, inR]), exY_i (idsS a.to) ⟨fun _ _ => callW0 (ids_ok a.to hl) rfl (by simp [-getElem?_pos, act_kinds_3_R0, act_kinds_3_R1, act_kinds_3_L, act_kinds_3_ks]),
    exY_i (wrapsOkS a) ⟨fun _ _ _ => callW0 (wrapsOk_ok a hw) rfl (by simp [-getElem?_pos, act_kinds_3_R0, act_kinds_3_R1, act_kinds_3_L, act_kinds_3_ks]), exY_i a.text.isEmpty ⟨fun _ _ _ _ => rfl, exY_i (bodyZ a.body) ⟨fun _ _ _ _ _ => rfl, rfl⟩⟩⟩⟩⟩
def rule4 (a : Act) : Bool := nameS a.text && !(a.object.isEmpty == a.target.isEmpty)
theorem rule4_ok (a : Act) (s : List SO) : FnOK Tryz.prog GW 292 [agg a.cells] s (.c (.bool (rule4 a))) s := by
  refine act_kinds_4_pu {} (by simp [-getElem?_pos]) rfl ?_
  simp [-getElem?_pos, act_kinds_4_R0, act_kinds_4_R1, act_kinds_4_L, act_kinds_4_ks, agg, Act.cells, texts]
  refine callW0 (name_ok _) rfl ?_
  simp [-getElem?_pos, act_kinds_4_R0, act_kinds_4_R1, act_kinds_4_L, act_kinds_4_ks]
  exact exY_i (!(a.object.isEmpty == a.target.isEmpty)) ⟨fun _ => by simp [-getElem?_pos], rfl⟩
def rule5 (a : Act) : Bool := isPublicS a.n && inR a.m 0 19
theorem rule5_ok (a : Act) (s : List SO) : FnOK Tryz.prog GW 293 [agg a.cells] s (.c (.bool (rule5 a))) s := by
  refine act_kinds_5_pu {} (by simp [-getElem?_pos]) rfl ?_
  simp [-getElem?_pos, act_kinds_5_R0, act_kinds_5_R1, act_kinds_5_L, act_kinds_5_ks, agg, Act.cells, texts]
  refine callW0 (isPublic_ok _) rfl ?_
  simp [-getElem?_pos, act_kinds_5_R0, act_kinds_5_R1, act_kinds_5_L, act_kinds_5_ks]
  exact exY_i (inR a.m 0 19) ⟨fun _ => callW0 (within_ok _ _ _) rfl (by simp [-getElem?_pos, act_kinds_5_R0, act_kinds_5_R1, act_kinds_5_L, act_kinds_5_ks, inR]), rfl⟩
def rule6 (a : Act) : Bool := idsS a.to && decide ((0 : Int) < a.to.length) && wrapsOkS a && inR a.n 1 a.to.length && isPublicS a.m
theorem rule6_ok (a : Act) (hl : a.to.length ≤ 1073741824) (hw : a.wraps.length ≤ 1073741824) (s : List SO) : FnOK Tryz.prog GW 294 [agg a.cells] s (.c (.bool (rule6 a))) s := by
  refine act_kinds_6_pu {} (by simp [-getElem?_pos]) rfl ?_
  simp [-getElem?_pos, act_kinds_6_R0, act_kinds_6_R1, act_kinds_6_L, act_kinds_6_ks, agg, Act.cells, texts]
  refine callW0 (ids_ok a.to hl) rfl ?_
  simp [-getElem?_pos, act_kinds_6_R0, act_kinds_6_R1, act_kinds_6_L, act_kinds_6_ks]
  refine exY_i (decide (0 < a.to.length)) ⟨fun _ => rfl, exY_i (wrapsOkS a) ⟨fun _ _ => callW0 (wrapsOk_ok a hw) rfl (by simp [-getElem?_pos, act_kinds_6_R0, act_kinds_6_R1, act_kinds_6_L, act_kinds_6_ks]), exY_i (inR a.n 1 a.to.length) ⟨fun _ _ _ => callW0 (within_ok _ _ _) rfl (by simp [-getElem?_pos, act_kinds_6_R0, act_kinds_6_R1, act_kinds_6_L, act_kinds_6_ks, inR]),
    exY_i (isPublicS a.m) ⟨fun _ _ _ _ => callW0 (isPublic_ok _) rfl (by simp [-getElem?_pos, act_kinds_6_R0, act_kinds_6_R1, act_kinds_6_L, act_kinds_6_ks]), ?_⟩⟩⟩⟩
  simp [-getElem?_pos, rule6]
def rule7 (a : Act) : Bool := inR a.n 0 1
theorem rule7_ok (a : Act) (s : List SO) : FnOK Tryz.prog GW 295 [agg a.cells] s (.c (.bool (rule7 a))) s := by
  refine act_kinds_7_pu {} (by simp [-getElem?_pos]) rfl ?_
  simp [-getElem?_pos, act_kinds_7_R0, act_kinds_7_R1, act_kinds_7_L, act_kinds_7_ks, agg, Act.cells, texts]
  refine callW0 (within_ok _ _ _) rfl ?_
  simp [-getElem?_pos, act_kinds_7_R0, act_kinds_7_R1, act_kinds_7_L, act_kinds_7_ks, rule7, inR]
def rule8 (a : Act) : Bool := shortS a.text && inR a.n 0 1099511627776
theorem rule8_ok (a : Act) (s : List SO) : FnOK Tryz.prog GW 296 [agg a.cells] s (.c (.bool (rule8 a))) s := by
  refine act_kinds_8_pu {} (by simp [-getElem?_pos]) rfl ?_
  simp [-getElem?_pos, act_kinds_8_R0, act_kinds_8_R1, act_kinds_8_L, act_kinds_8_ks, agg, Act.cells, texts]
  refine callW0 (short_ok _) rfl ?_
  simp [-getElem?_pos, act_kinds_8_R0, act_kinds_8_R1, act_kinds_8_L, act_kinds_8_ks]
  exact exY_i (inR a.n 0 1099511627776) ⟨fun _ => callW0 (within_ok _ _ _) rfl (by simp [-getElem?_pos, act_kinds_8_R0, act_kinds_8_R1, act_kinds_8_L, act_kinds_8_ks, inR]), rfl⟩

/-- The rules by their functions' numbers. -/
def ruleR : FuncId → Act → Bool := fun g a =>
  if g = 283 then rule1 a else if g = 286 then audienceS a else if g = 287 then shortS a.text else if g = 288 then rule2 a else if g = 289 then rule3 a else
  if g = 292 then rule4 a else if g = 293 then rule5 a else if g = 294 then rule6 a else if g = 295 then rule7 a else rule8 a
theorem ruleR_ok (a : Act) (hl : a.to.length ≤ 1073741824) (hw : a.wraps.length ≤ 1073741824) : ∀ g s, (∃ p ∈ kindsList, p.2.rule = .fn g) → FnOK Tryz.prog GW g [agg a.cells] s (.c (.bool (ruleR g a))) s := by
  intro g s ⟨p, hp, hr⟩
  have hg : g = 283 ∨ g = 286 ∨ g = 287 ∨ g = 288 ∨ g = 289 ∨ g = 292 ∨ g = 293 ∨ g = 294 ∨ g = 295 ∨ g = 296 := by
    have h1 := List.all_eq_true.1 rules_have p hp
    simp only [hr] at h1
    obtain ⟨q, hq⟩ := Option.isSome_iff_exists.1 h1
    simp only [ruleBytes, List.lookup] at hq
    repeat' split at hq
    all_goals simp_all
  rcases hg with rfl | rfl | rfl | rfl | rfl | rfl | rfl | rfl | rfl | rfl
  · exact rule1_ok a s
  · exact audience_ok a hl s
  · exact reason_ok a s
  · exact rule2_ok a hl s
  · exact rule3_ok a hl hw s
  · exact rule4_ok a s
  · exact rule5_ok a s
  · exact rule6_ok a hl hw s
  · exact rule7_ok a s
  · exact rule8_ok a s
/-- What a right activity is. -/
def actRight (a : Act) : Bool := rightS ruleR a
theorem actRight_ok (a : Act) (hk : (Lit.int .i64 a.kind).wf = true) (hl : a.to.length ≤ 1073741824) (hw : a.wraps.length ≤ 1073741824) (s : List SO) :
    FnOK Tryz.prog GW 152 [agg a.cells] s (.c (.bool (actRight a))) s := right_ok ruleR a hk kinds_hasG kinds_look (ruleR_ok a hl hw) s
end Go.Proofs.YthkmfboffnhkaaaGreatDoor
