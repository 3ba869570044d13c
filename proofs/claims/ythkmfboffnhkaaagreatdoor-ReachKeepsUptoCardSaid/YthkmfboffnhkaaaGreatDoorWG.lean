/-
  Walks: names, lists of ids.
  Walks: the rules of the kinds of activities.
  Walks: items.
  Walks: the encoding of an activity as an item.
-/
import Derived.Test.YthkmfboffnhkaaaGreatDoorW9
import Derived.Test.YthkmfboffnhkaaaGreatDoorTD
import Derived.Test.YthkmfboffnhkaaaGreatDoorWD
set_option linter.all false
namespace Go.Proofs.YthkmfboffnhkaaaGreatDoor
attribute [local simp] ident_Name_R0 ident_Name_R1 ident_Name_R2 ident_Name_R3 ident_Name_R4 ident_Name_R5 ident_Name_R6 ident_Name_R7 ident_Name_B1 ident_Name_W1 ident_Name_B0 ident_Name_R8 ident_Name_L ident_Name_ks ident_Ids_R0 ident_Ids_R1 ident_Ids_R2 ident_Ids_R3 ident_Ids_R4 ident_Ids_R5 ident_Ids_R6 ident_Ids_R7 ident_Ids_B1 ident_Ids_R8 ident_Ids_W1 ident_Ids_B0 ident_Ids_R9 ident_Ids_L ident_Ids_ks act_isPublic_R0 act_isPublic_R1 act_isPublic_L act_isPublic_ks act_short_R0 act_short_R1 act_short_L act_short_ks act_reason_R0 act_reason_R1 act_reason_L act_reason_ks act_isBox_R0 act_isBox_R1 act_isBox_L act_isBox_ks act_isWrap_R0 act_isWrap_R1 act_isWrap_L act_isWrap_ks act_wraps_1_R0 act_wraps_1_R1 act_wraps_1_L act_wraps_1_ks slices_IndexFunc_Lapi_Wrap_api_Wrap_R0 slices_IndexFunc_Lapi_Wrap_api_Wrap_R1 slices_IndexFunc_Lapi_Wrap_api_Wrap_R2 slices_IndexFunc_Lapi_Wrap_api_Wrap_R3 slices_IndexFunc_Lapi_Wrap_api_Wrap_R4 slices_IndexFunc_Lapi_Wrap_api_Wrap_R5 slices_IndexFunc_Lapi_Wrap_api_Wrap_B1 slices_IndexFunc_Lapi_Wrap_api_Wrap_R6 slices_IndexFunc_Lapi_Wrap_api_Wrap_W1 slices_IndexFunc_Lapi_Wrap_api_Wrap_B0 slices_IndexFunc_Lapi_Wrap_api_Wrap_R7 slices_IndexFunc_Lapi_Wrap_api_Wrap_L slices_IndexFunc_Lapi_Wrap_api_Wrap_ks slices_ContainsFunc_Lapi_Wrap_api_Wrap_R0 slices_ContainsFunc_Lapi_Wrap_api_Wrap_R1 slices_ContainsFunc_Lapi_Wrap_api_Wrap_L slices_ContainsFunc_Lapi_Wrap_api_Wrap_ks act_wraps_R0 act_wraps_R1 act_wraps_L act_wraps_ks act_grouped_R0 act_grouped_R1 act_grouped_R2 act_grouped_R3 act_grouped_R4 act_grouped_R5 act_grouped_R6 act_grouped_B0 act_grouped_R7 act_grouped_L act_grouped_ks act_audience_R0 act_audience_R1 act_audience_R2 act_audience_R3 act_audience_R4 act_audience_R5 act_audience_L act_audience_ks act_kinds_1_R0 act_kinds_1_R1 act_kinds_1_L act_kinds_1_ks act_kinds_2_R0 act_kinds_2_R1 act_kinds_2_L act_kinds_2_ks act_kinds_3_R0 act_kinds_3_R1 act_kinds_3_L act_kinds_3_ks act_kinds_4_R0 act_kinds_4_R1 act_kinds_4_L act_kinds_4_ks act_kinds_5_R0 act_kinds_5_R1 act_kinds_5_L act_kinds_5_ks act_kinds_6_R0 act_kinds_6_R1 act_kinds_6_L act_kinds_6_ks act_kinds_7_R0 act_kinds_7_R1 act_kinds_7_L act_kinds_7_ks act_kinds_8_R0 act_kinds_8_R1 act_kinds_8_L act_kinds_8_ks item_sameDecision_R0 item_sameDecision_R1 item_sameDecision_L item_sameDecision_ks item_Same_R0 item_Same_R1 item_Same_L item_Same_ks item_Right_R0 item_Right_R1 item_Right_R2 item_Right_R3 item_Right_R4 item_Right_R5 item_Right_R6 item_Right_R7 item_Right_R8 item_Right_R9 item_Right_R10 item_Right_R11 item_Right_B0 item_Right_R12 item_Right_L item_Right_ks item_Bytes_R0 item_Bytes_R1 item_Bytes_R2 item_Bytes_R3 item_Bytes_R4 item_Bytes_R5 item_Bytes_R6 item_Bytes_R7 item_Bytes_R8 item_Bytes_R9 item_Bytes_L item_Bytes_ks
open Go Go.L1
set_option maxRecDepth 100000

theorem rune_pos (l : List UInt8) (pos : Nat) : 1 ≤ (runeAt l pos).2 := by
  unfold runeAt Utf8.decode
  simp only
  repeat' split
  all_goals first | exact Nat.le_refl _ | (simp [-getElem?_pos]; done) | skip

/-- Is this character not one of a name? -/
def badR (i r : Int) : Bool := !(decide (97 ≤ r) && decide (r ≤ 122)) && ((i == 0) || ((!decide (48 ≤ r) || !decide (r ≤ 57)) && !(r == 95)))
def nameF (l : List UInt8) : Nat → Nat → Bool
  | 0, _ => true
  | n + 1, pos => if pos < l.length then (if badR pos (runeAt l pos).1 then false else nameF l n (pos + (runeAt l pos).2)) else true
def nameS (l : List UInt8) : Bool := nameF l (l.length + 1) 0 && (!l.isEmpty && decide ((l.length : Int) ≤ 24))

theorem name_ok (l : List UInt8) (s : List SO) : FnOK Tryz.prog GW 284 [.c (.str l)] s (.c (.bool (nameS l))) s := by
  refine ident_Name_F.pu {} (by simp [-getElem?_pos]) rfl ?_
  simp [-getElem?_pos]
  refine loopM_intro (fun m e st => ∃ pos : Nat, l.length < pos + m ∧ nameF l m pos = nameF l (l.length + 1) 0 ∧ st = s ++ [.siter l pos] ∧ e = [(8, .ptr s.length 0), (0, .c (.str l))]) (l.length + 1) _ ?_ ⟨0, by omega, rfl, rfl, rfl⟩ ?_
  · simp [-getElem?_pos]
  rintro m e st ⟨pos, hm, hn, rfl, rfl⟩
  by_cases h : pos < l.length
  · obtain ⟨m, rfl⟩ : ∃ k, m = k + 1 := ⟨m - 1, by omega⟩
    have hp := rune_pos l pos
    rw [nameF, if_pos h] at hn
    generalize hr : runeAt l pos = r at hn hp
    obtain ⟨r, wd⟩ := r
    simp only at hn hp
    simp [-getElem?_pos, h, hr]
    generalize (r : Int) = q at *
    refine exY_i (decide (q ≤ 122)) ⟨fun _ => rfl, exY_i (decide (q ≤ 57)) ⟨fun _ => rfl, exY_i (q == 95) ⟨fun _ => rfl, exY_i (((pos : Int) == 0) || ((!decide (48 ≤ q) || !decide (q ≤ 57)) && !(q == 95))) ⟨fun _ => exY_i _ ⟨fun _ => rfl, rfl⟩, ?_, ?_⟩⟩⟩⟩
    · intro h1 h2
      have hb : badR pos q = true := by
        unfold badR
        rw [h2]
        rcases h1 with h1 | h1
        · simp [-getElem?_pos]; omega
        · simp [-getElem?_pos] at h1; simp [-getElem?_pos]; omega
      rw [hb] at hn
      unfold nameS
      rw [← hn]; rfl
    · intro h1
      have hb : badR pos q = false := by
        unfold badR
        cases h3 : (decide (97 ≤ q) && decide (q ≤ 122)) with
        | true => rfl
        | false => rw [h1 (by simp [-getElem?_pos] at h3; simp [-getElem?_pos]; omega)]; rfl
      rw [hb] at hn
      refine againM_i m _ (by omega) ?_ ⟨pos + wd, by omega, by simpa [-getElem?_pos] using hn, rfl, rfl⟩
      simp [-getElem?_pos]
  · have hn' : nameF l (l.length + 1) 0 = true := by
      rw [← hn]
      cases m with
      | zero => rfl
      | succ k => rw [nameF, if_neg h]
    simp [-getElem?_pos, h]
    refine exY_i (decide ((l.length : Int) ≤ 24)) ⟨fun _ => rfl, ?_⟩
    simp [-getElem?_pos, nameS, hn']

/-- Ids in strictly ascending order. -/
def idsF (l : List (List UInt8)) : Nat → Bool
  | 0 => true
  | i + 1 => idsF l i && (idRight ((l[i]?).getD []) && (decide (i = 0) || Op.bytesLess ((l[i - 1]?).getD []) ((l[i]?).getD [])))
def idsS (l : List (List UInt8)) : Bool := decide ((l.length : Int) ≤ 64) && idsF l l.length
theorem idsF_false {l : List (List UInt8)} {i : Nat} (h : idsF l i = false) : ∀ n, i ≤ n → idsF l n = false
  | 0, hn => by have : i = 0 := by omega
                rw [this] at h; exact h
  | n + 1, hn => by
    by_cases hi : i = n + 1
    · rw [← hi]; exact h
    · simp only [idsF, idsF_false h n (by omega), Bool.false_and]

theorem ids_ok (l : List (List UInt8)) (hl : l.length ≤ 1073741824) (s : List SO) : FnOK Tryz.prog GW 226 [.c (texts l)] s (.c (.bool (idsS l))) s := by
  refine ident_Ids_F.pu {} (by simp [-getElem?_pos]) rfl ?_
  simp [-getElem?_pos, texts]
  refine ⟨fun h1 => by simp [-getElem?_pos, idsS]; omega, fun h1 => ?_⟩
  refine loopM_intro (fun m e st => ∃ i : Nat, m = l.length - i ∧ i ≤ l.length ∧ st = s ∧ idsF l i = true ∧
    e = [(10, .c (I i)), (9, .c (I l.length)), (8, .c (texts l)), (0, .c (texts l))]) l.length _ ?_ ⟨0, rfl, Nat.zero_le _, rfl, rfl, rfl⟩ ?_
  · simp [-getElem?_pos, texts]
  rintro m e st ⟨i, rfl, hi, rfl, hall, rfl⟩
  by_cases h : i < l.length
  · obtain ⟨x, hx⟩ := get_of_lt h
    have hw := wrap_succ h (by omega)
    simp [-getElem?_pos, texts, h, hx]
    refine callW0 (idRight_ok x) rfl ?_
    simp [-getElem?_pos, texts, h, hx, hw]
    have hstep : idsF l (i + 1) = (idRight x && (decide (i = 0) || Op.bytesLess ((l[i - 1]?).getD []) x)) := by simp [-getElem?_pos, idsF, hall, hx]
    have hbad : idsF l (i + 1) = false → idsS l = false := fun hb => by
      simp only [idsS, idsF_false hb l.length (by omega), Bool.and_false]
    refine exY_i (decide (0 < i) && !Op.bytesLess ((l[i - 1]?).getD []) x) ⟨fun _ => exY_i (!Op.bytesLess ((l[i - 1]?).getD []) x) ⟨fun h0 => ?_, rfl⟩, fun h2 => hbad ?_, fun h2 h3 => againM_i _ _ ?_ ?_ ⟨i + 1, rfl, h, rfl, ?_, rfl⟩⟩
    · obtain ⟨p, hp⟩ := get_of_lt (show i - 1 < l.length by omega)
      have hw' : IntKind.i64.wrap ((i : Int) - 1) = ((i - 1 : Nat) : Int) := by rw [IntWalk.i64_in _ (by omega)]; omega
      simp [-getElem?_pos, hw', hp]
    · rw [hstep]
      rcases h2 with h2 | h2
      · rw [h2]; rfl
      · simp only [Bool.and_eq_true, decide_eq_true_eq, Bool.not_eq_true'] at h2
        rw [h2.2]
        have : decide (i = 0) = false := by simp [-getElem?_pos]; omega
        rw [this]; simp [-getElem?_pos]
    · omega
    · simp [-getElem?_pos, texts]
    · rw [hstep, h2]
      cases hb : Op.bytesLess ((l[i - 1]?).getD []) x with
      | true => simp [-getElem?_pos]
      | false => rw [hb] at h3; simp [-getElem?_pos] at h3; simp [-getElem?_pos, h3]
  · have he : i = l.length := by omega
    rw [he] at hall
    simp [-getElem?_pos, h, idsS, hall]
    omega
end Go.Proofs.YthkmfboffnhkaaaGreatDoor
namespace Go.Proofs.YthkmfboffnhkaaaGreatDoor
attribute [local simp] ident_Name_R0 ident_Name_R1 ident_Name_R2 ident_Name_R3 ident_Name_R4 ident_Name_R5 ident_Name_R6 ident_Name_R7 ident_Name_B1 ident_Name_W1 ident_Name_B0 ident_Name_R8 ident_Name_L ident_Name_ks ident_Ids_R0 ident_Ids_R1 ident_Ids_R2 ident_Ids_R3 ident_Ids_R4 ident_Ids_R5 ident_Ids_R6 ident_Ids_R7 ident_Ids_B1 ident_Ids_R8 ident_Ids_W1 ident_Ids_B0 ident_Ids_R9 ident_Ids_L ident_Ids_ks act_isPublic_R0 act_isPublic_R1 act_isPublic_L act_isPublic_ks act_short_R0 act_short_R1 act_short_L act_short_ks act_reason_R0 act_reason_R1 act_reason_L act_reason_ks act_isBox_R0 act_isBox_R1 act_isBox_L act_isBox_ks act_isWrap_R0 act_isWrap_R1 act_isWrap_L act_isWrap_ks act_wraps_1_R0 act_wraps_1_R1 act_wraps_1_L act_wraps_1_ks slices_IndexFunc_Lapi_Wrap_api_Wrap_R0 slices_IndexFunc_Lapi_Wrap_api_Wrap_R1 slices_IndexFunc_Lapi_Wrap_api_Wrap_R2 slices_IndexFunc_Lapi_Wrap_api_Wrap_R3 slices_IndexFunc_Lapi_Wrap_api_Wrap_R4 slices_IndexFunc_Lapi_Wrap_api_Wrap_R5 slices_IndexFunc_Lapi_Wrap_api_Wrap_B1 slices_IndexFunc_Lapi_Wrap_api_Wrap_R6 slices_IndexFunc_Lapi_Wrap_api_Wrap_W1 slices_IndexFunc_Lapi_Wrap_api_Wrap_B0 slices_IndexFunc_Lapi_Wrap_api_Wrap_R7 slices_IndexFunc_Lapi_Wrap_api_Wrap_L slices_IndexFunc_Lapi_Wrap_api_Wrap_ks slices_ContainsFunc_Lapi_Wrap_api_Wrap_R0 slices_ContainsFunc_Lapi_Wrap_api_Wrap_R1 slices_ContainsFunc_Lapi_Wrap_api_Wrap_L slices_ContainsFunc_Lapi_Wrap_api_Wrap_ks act_wraps_R0 act_wraps_R1 act_wraps_L act_wraps_ks act_grouped_R0 act_grouped_R1 act_grouped_R2 act_grouped_R3 act_grouped_R4 act_grouped_R5 act_grouped_R6 act_grouped_B0 act_grouped_R7 act_grouped_L act_grouped_ks act_audience_R0 act_audience_R1 act_audience_R2 act_audience_R3 act_audience_R4 act_audience_R5 act_audience_L act_audience_ks act_kinds_1_R0 act_kinds_1_R1 act_kinds_1_L act_kinds_1_ks act_kinds_2_R0 act_kinds_2_R1 act_kinds_2_L act_kinds_2_ks act_kinds_3_R0 act_kinds_3_R1 act_kinds_3_L act_kinds_3_ks act_kinds_4_R0 act_kinds_4_R1 act_kinds_4_L act_kinds_4_ks act_kinds_5_R0 act_kinds_5_R1 act_kinds_5_L act_kinds_5_ks act_kinds_6_R0 act_kinds_6_R1 act_kinds_6_L act_kinds_6_ks act_kinds_7_R0 act_kinds_7_R1 act_kinds_7_L act_kinds_7_ks act_kinds_8_R0 act_kinds_8_R1 act_kinds_8_L act_kinds_8_ks item_sameDecision_R0 item_sameDecision_R1 item_sameDecision_L item_sameDecision_ks item_Same_R0 item_Same_R1 item_Same_L item_Same_ks item_Right_R0 item_Right_R1 item_Right_R2 item_Right_R3 item_Right_R4 item_Right_R5 item_Right_R6 item_Right_R7 item_Right_R8 item_Right_R9 item_Right_R10 item_Right_R11 item_Right_B0 item_Right_R12 item_Right_L item_Right_ks item_Bytes_R0 item_Bytes_R1 item_Bytes_R2 item_Bytes_R3 item_Bytes_R4 item_Bytes_R5 item_Bytes_R6 item_Bytes_R7 item_Bytes_R8 item_Bytes_R9 item_Bytes_L item_Bytes_ks
open Go Go.L1
set_option maxRecDepth 100000
set_option maxHeartbeats 4000000

def isPublicS (n : Int) : Bool := inR n 1 2305843009213693950
theorem isPublic_ok (n : Int) (s : List SO) : FnOK Tryz.prog GW 285 [.c (.int .i64 n)] s (.c (.bool (isPublicS n))) s := by
  refine act_isPublic_F.pu {} (by simp [-getElem?_pos]) rfl ?_
  simp [-getElem?_pos]
  refine callW0 (within_ok _ _ _) rfl ?_
  simp [-getElem?_pos, isPublicS, inR]
def shortS (t : List UInt8) : Bool := decide ((t.length : Int) ≤ 500)
theorem short_ok (t : List UInt8) (s : List SO) : FnOK Tryz.prog GW 297 [.c (.str t)] s (.c (.bool (shortS t))) s := by
  refine act_short_F.pu {} (by simp [-getElem?_pos]) rfl ?_
  simp [-getElem?_pos, shortS]
theorem reason_ok (a : Act) (s : List SO) : FnOK Tryz.prog GW 287 [agg a.cells] s (.c (.bool (shortS a.text))) s := by
  refine act_reason_F.pu {} (by simp [-getElem?_pos]) rfl ?_
  simp [-getElem?_pos, agg, Act.cells]
  refine callW0 (short_ok _) rfl ?_
  simp [-getElem?_pos]
def isBoxS (b : Box) : Bool := ((b.nonce.length : Int) == 32) && ((b.tag.length : Int) == 16) && shortS b.data
theorem isBox_ok (b : Box) (s : List SO) : FnOK Tryz.prog GW 298 [agg [.str b.nonce, .str b.data, .str b.tag]] s (.c (.bool (isBoxS b))) s := by
  refine act_isBox_F.pu {} (by simp [-getElem?_pos]) rfl ?_
  simp [-getElem?_pos, agg]
  exact exY_i ((b.tag.length : Int) == 16) ⟨fun _ => rfl, exY_i (shortS b.data) ⟨fun _ _ => callW0 (short_ok _) rfl (by simp [-getElem?_pos]), rfl⟩⟩
def isWrapS (w : Wrap) : Bool := isPublicS w.to && isPublicS w.eph && isBoxS w.box
theorem isWrap_ok (w : Wrap) (s : List SO) : FnOK Tryz.prog GW 301 [agg w.cells] s (.c (.bool (isWrapS w))) s := by
  refine act_isWrap_F.pu {} (by simp [-getElem?_pos]) rfl ?_
  simp [-getElem?_pos, agg, Wrap.cells]
  refine callW0 (isPublic_ok _) rfl ?_
  simp [-getElem?_pos]
  exact exY_i (isPublicS w.eph) ⟨fun _ => callW0 (isPublic_ok _) rfl (by simp [-getElem?_pos]), exY_i (isBoxS w.box) ⟨fun _ _ => callW0 (isBox_ok _) rfl (by simp [-getElem?_pos]), rfl⟩⟩
theorem wraps1_ok (w : Wrap) (s : List SO) : FnOK Tryz.prog GW 300 [agg w.cells] s (.c (.bool (!isWrapS w))) s := by
  refine act_wraps_1_F.pu {} (by simp [-getElem?_pos]) rfl ?_
  simp [-getElem?_pos, agg, Wrap.cells]
  refine callW0 (isWrap_ok w) rfl ?_
  simp [-getElem?_pos]
theorem indexWrap_ok {α : Type} (f : α → List C) (hf : ∀ x, (f x).length = 5) (xs : List α) (hl : xs.length ≤ 1073741824) (p : α → Bool) (g : FuncId) (s : List SO)
    (hp : ∀ x ∈ xs, FnOK Tryz.prog GW g [agg (f x)] s (.c (.bool (p x))) s) :
    FnOK Tryz.prog GW 302 [.c (.sl (xs.map f)), .c (.fn g)] s (.c (.int .i64 (idx p xs))) s := by
  refine slices_IndexFunc_Lapi_Wrap_api_Wrap_F.pu {} (by simp [-getElem?_pos]) rfl ?_
  simp [-getElem?_pos]
  refine loopM_intro (fun m e st => ∃ i : Nat, m = xs.length - i ∧ i ≤ xs.length ∧ st = s ∧ (xs.take i).all (fun x => !p x) = true ∧
    e = [(8, .c (I i)), (7, .c (I xs.length)), (0, .c (.sl (xs.map f))), (1, .c (.fn g))]) xs.length _ ?_ ⟨0, rfl, Nat.zero_le _, rfl, rfl, rfl⟩ ?_
  · simp [-getElem?_pos]
  rintro m e st ⟨i, rfl, hi, rfl, hall, rfl⟩
  by_cases h : i < xs.length
  · obtain ⟨x, hx⟩ := get_of_lt h
    have hw := wrap_succ h (by omega)
    have ht : List.take 5 (List.map V.c (f x)) = List.map V.c (f x) := List.take_of_length_le (by simp [-getElem?_pos, hf])
    simp [-getElem?_pos, h, hx, hf, ht]
    refine callW1 (hp x (List.mem_of_getElem? hx)) rfl ?_
    simp [-getElem?_pos, hw]
    refine ⟨fun h1 => (idx_found hall hx h1).symm, fun h1 => againM_i _ _ ?_ ?_ ⟨i + 1, rfl, h, rfl, all_take hall hx (by simp [-getElem?_pos, h1]), rfl⟩⟩
    · omega
    · simp [-getElem?_pos]
  · simp [-getElem?_pos, h, idx_none hall (by omega)]
theorem idx_any {α : Type} (p : α → Bool) (l : List α) : decide (idx p l ≥ 0) = l.any p := by
  rcases idx_spec p l with ⟨h1, h2⟩ | ⟨i, x, h1, h2, h3⟩
  · rw [h1]
    have : l.any p = false := by rw [List.any_eq_false]; intro x hx; simp [-getElem?_pos, h2 x hx]
    rw [this]; rfl
  · rw [h1]
    have : l.any p = true := List.any_eq_true.2 ⟨x, List.mem_of_getElem? h2, h3⟩
    rw [this]; simp [-getElem?_pos]
theorem contains_ok (l : List Wrap) (hl : l.length ≤ 1073741824) (s : List SO) : FnOK Tryz.prog GW 299 [.c (wrapsC l), .c (.fn 300)] s (.c (.bool (l.any fun w => !isWrapS w))) s := by
  refine slices_ContainsFunc_Lapi_Wrap_api_Wrap_F.pu {} (by simp [-getElem?_pos]) rfl ?_
  simp [-getElem?_pos, wrapsC]
  refine callW1 (indexWrap_ok Wrap.cells (fun _ => rfl) l hl (fun w => !isWrapS w) 300 s (fun x _ => wraps1_ok x s)) rfl ?_
  simp [-getElem?_pos]
  simpa [-getElem?_pos] using idx_any (fun w => !isWrapS w) l
def wrapsOkS (a : Act) : Bool := ((a.wraps.length : Int) == a.to.length) && !(a.wraps.any fun w => !isWrapS w)
theorem wrapsOk_ok (a : Act) (hl : a.wraps.length ≤ 1073741824) (s : List SO) : FnOK Tryz.prog GW 291 [agg a.cells] s (.c (.bool (wrapsOkS a))) s := by
  refine act_wraps_F.pu {} (by simp [-getElem?_pos]) rfl ?_
  simp [-getElem?_pos, agg, Act.cells, texts]
  exact exY_i (!(a.wraps.any fun w => !isWrapS w)) ⟨fun _ => callW0 (contains_ok a.wraps hl) rfl (by simp [-getElem?_pos]), rfl⟩
def groupedS (a : Act) : Bool := if a.scope = 2 then nameS a.group else if a.scope = 1 ∨ a.scope = 3 then a.group.isEmpty else false
theorem grouped_ok (a : Act) (s : List SO) : FnOK Tryz.prog GW 290 [agg a.cells] s (.c (.bool (groupedS a))) s := by
  refine act_grouped_F.pu {} (by simp [-getElem?_pos]) rfl ?_
  simp [-getElem?_pos, agg, Act.cells, texts]
  refine ⟨fun h => callW0 (name_ok _) rfl (by simp [-getElem?_pos, groupedS, h]), fun h => ⟨fun h1 => ?_, fun h1 => ?_⟩⟩
  all_goals simp_all [groupedS]
def bodyZ (b : Box) : Bool := b.nonce.isEmpty && (b.data.isEmpty && b.tag.isEmpty)
def audienceS (a : Act) : Bool := idsS a.to && (if a.scope = 0 then a.group.isEmpty && (a.epoch == 0) && shortS a.text && bodyZ a.body
  else groupedS a && inR a.epoch 0 1073741824 && a.text.isEmpty && isBoxS a.body && (((a.to.length : Int) == 0) || (a.scope == 3)))
theorem audience_ok (a : Act) (hl : a.to.length ≤ 1073741824) (s : List SO) : FnOK Tryz.prog GW 286 [agg a.cells] s (.c (.bool (audienceS a))) s := by
  refine act_audience_F.pu {} (by simp [-getElem?_pos]) rfl ?_
  simp [-getElem?_pos, agg, Act.cells, texts]
  refine callW0 (ids_ok a.to hl) rfl ?_
  simp [-getElem?_pos]
  refine ⟨fun h => by simp [-getElem?_pos, audienceS, h], fun h => ⟨fun h0 => ?_, fun h0 => ?_⟩⟩
  · refine exY_i (a.epoch == 0) ⟨fun _ => rfl, exY_i (shortS a.text) ⟨fun _ _ => callW0 (short_ok _) rfl (by simp [-getElem?_pos]), exY_i (bodyZ a.body) ⟨fun _ _ _ => rfl, ?_⟩⟩⟩
    simp only [audienceS, h, h0, if_true, Bool.true_and]
  · refine callW0 (grouped_ok a) rfl ?_
    simp [-getElem?_pos]
    refine exY_i (inR a.epoch 0 1073741824) ⟨fun _ => callW0 (within_ok _ _ _) rfl (by simp [-getElem?_pos, inR]), exY_i a.text.isEmpty ⟨fun _ _ => rfl, exY_i (isBoxS a.body) ⟨fun _ _ _ => callW0 (isBox_ok _) rfl (by simp [-getElem?_pos]),
      exY_i (((a.to.length : Int) == 0) || (a.scope == 3)) ⟨fun _ _ _ _ => exY_i (a.scope == 3) ⟨fun _ => rfl, ?_⟩, ?_⟩⟩⟩⟩
    · first | rfl | simp [-getElem?_pos]
    · simp only [audienceS, h, if_neg h0, Bool.true_and]
def rule1 (a : Act) : Bool := nameS a.text && isPublicS a.n && inR a.m 0 19
theorem rule1_ok (a : Act) (s : List SO) : FnOK Tryz.prog GW 283 [agg a.cells] s (.c (.bool (rule1 a))) s := by
  refine act_kinds_1_F.pu {} (by simp [-getElem?_pos]) rfl ?_
  simp [-getElem?_pos, agg, Act.cells, texts]
  refine callW0 (name_ok _) rfl ?_
  simp [-getElem?_pos]
  exact exY_i (isPublicS a.n) ⟨fun _ => callW0 (isPublic_ok _) rfl (by simp [-getElem?_pos]), exY_i (inR a.m 0 19) ⟨fun _ _ => callW0 (within_ok _ _ _) rfl (by simp [-getElem?_pos, inR]), rfl⟩⟩
def rule2 (a : Act) : Bool := nameS a.group && idsS a.to
theorem rule2_ok (a : Act) (hl : a.to.length ≤ 1073741824) (s : List SO) : FnOK Tryz.prog GW 288 [agg a.cells] s (.c (.bool (rule2 a))) s := by
  refine act_kinds_2_F.pu {} (by simp [-getElem?_pos]) rfl ?_
  simp [-getElem?_pos, agg, Act.cells, texts]
  refine callW0 (name_ok _) rfl ?_
  simp [-getElem?_pos]
  exact exY_i (idsS a.to) ⟨fun _ => callW0 (ids_ok a.to hl) rfl (by simp [-getElem?_pos]), rfl⟩
def rule3 (a : Act) : Bool := groupedS a && inR a.epoch 0 1073741824 && idsS a.to && wrapsOkS a && a.text.isEmpty && bodyZ a.body
theorem rule3_ok (a : Act) (hl : a.to.length ≤ 1073741824) (hw : a.wraps.length ≤ 1073741824) (s : List SO) : FnOK Tryz.prog GW 289 [agg a.cells] s (.c (.bool (rule3 a))) s := by
  refine act_kinds_3_F.pu {} (by simp [-getElem?_pos]) rfl ?_
  simp [-getElem?_pos, agg, Act.cells, texts]
  refine callW0 (grouped_ok a) rfl ?_
  simp [-getElem?_pos]
  refine exY_i (inR a.epoch 0 1073741824) ⟨fun _ => callW0 (within_ok _ _ _) rfl (by simp [-getElem?_pos, inR]), exY_i (idsS a.to) ⟨fun _ _ => callW0 (ids_ok a.to hl) rfl (by simp [-getElem?_pos]),
    exY_i (wrapsOkS a) ⟨fun _ _ _ => callW0 (wrapsOk_ok a hw) rfl (by simp [-getElem?_pos]), exY_i a.text.isEmpty ⟨fun _ _ _ _ => rfl, exY_i (bodyZ a.body) ⟨fun _ _ _ _ _ => rfl, rfl⟩⟩⟩⟩⟩
def rule4 (a : Act) : Bool := nameS a.text && !(a.object.isEmpty == a.target.isEmpty)
theorem rule4_ok (a : Act) (s : List SO) : FnOK Tryz.prog GW 292 [agg a.cells] s (.c (.bool (rule4 a))) s := by
  refine act_kinds_4_F.pu {} (by simp [-getElem?_pos]) rfl ?_
  simp [-getElem?_pos, agg, Act.cells, texts]
  refine callW0 (name_ok _) rfl ?_
  simp [-getElem?_pos]
  exact exY_i (!(a.object.isEmpty == a.target.isEmpty)) ⟨fun _ => by simp [-getElem?_pos], rfl⟩
def rule5 (a : Act) : Bool := isPublicS a.n && inR a.m 0 19
theorem rule5_ok (a : Act) (s : List SO) : FnOK Tryz.prog GW 293 [agg a.cells] s (.c (.bool (rule5 a))) s := by
  refine act_kinds_5_F.pu {} (by simp [-getElem?_pos]) rfl ?_
  simp [-getElem?_pos, agg, Act.cells, texts]
  refine callW0 (isPublic_ok _) rfl ?_
  simp [-getElem?_pos]
  exact exY_i (inR a.m 0 19) ⟨fun _ => callW0 (within_ok _ _ _) rfl (by simp [-getElem?_pos, inR]), rfl⟩
def rule6 (a : Act) : Bool := idsS a.to && decide ((0 : Int) < a.to.length) && wrapsOkS a && inR a.n 1 a.to.length && isPublicS a.m
theorem rule6_ok (a : Act) (hl : a.to.length ≤ 1073741824) (hw : a.wraps.length ≤ 1073741824) (s : List SO) : FnOK Tryz.prog GW 294 [agg a.cells] s (.c (.bool (rule6 a))) s := by
  refine act_kinds_6_F.pu {} (by simp [-getElem?_pos]) rfl ?_
  simp [-getElem?_pos, agg, Act.cells, texts]
  refine callW0 (ids_ok a.to hl) rfl ?_
  simp [-getElem?_pos]
  refine exY_i (decide (0 < a.to.length)) ⟨fun _ => rfl, exY_i (wrapsOkS a) ⟨fun _ _ => callW0 (wrapsOk_ok a hw) rfl (by simp [-getElem?_pos]), exY_i (inR a.n 1 a.to.length) ⟨fun _ _ _ => callW0 (within_ok _ _ _) rfl (by simp [-getElem?_pos, inR]),
    exY_i (isPublicS a.m) ⟨fun _ _ _ _ => callW0 (isPublic_ok _) rfl (by simp [-getElem?_pos]), ?_⟩⟩⟩⟩
  simp [-getElem?_pos, rule6]
def rule7 (a : Act) : Bool := inR a.n 0 1
theorem rule7_ok (a : Act) (s : List SO) : FnOK Tryz.prog GW 295 [agg a.cells] s (.c (.bool (rule7 a))) s := by
  refine act_kinds_7_F.pu {} (by simp [-getElem?_pos]) rfl ?_
  simp [-getElem?_pos, agg, Act.cells, texts]
  refine callW0 (within_ok _ _ _) rfl ?_
  simp [-getElem?_pos, rule7, inR]
def rule8 (a : Act) : Bool := shortS a.text && inR a.n 0 1099511627776
theorem rule8_ok (a : Act) (s : List SO) : FnOK Tryz.prog GW 296 [agg a.cells] s (.c (.bool (rule8 a))) s := by
  refine act_kinds_8_F.pu {} (by simp [-getElem?_pos]) rfl ?_
  simp [-getElem?_pos, agg, Act.cells, texts]
  refine callW0 (short_ok _) rfl ?_
  simp [-getElem?_pos]
  exact exY_i (inR a.n 0 1099511627776) ⟨fun _ => callW0 (within_ok _ _ _) rfl (by simp [-getElem?_pos, inR]), rfl⟩

/-- The rules by their functions' numbers. -/
def ruleR : FuncId → Act → Bool := fun g a =>
  if g = 283 then rule1 a else if g = 286 then audienceS a else if g = 287 then shortS a.text else if g = 288 then rule2 a else if g = 289 then rule3 a else
  if g = 292 then rule4 a else if g = 293 then rule5 a else if g = 294 then rule6 a else if g = 295 then rule7 a else rule8 a
theorem ruleR_ok (a : Act) (hl : a.to.length ≤ 1073741824) (hw : a.wraps.length ≤ 1073741824) : ∀ g s, (∃ p ∈ kindsList, p.2.rule = .fn g) → FnOK Tryz.prog GW g [agg a.cells] s (.c (.bool (ruleR g a))) s := by
  intro g s ⟨p, hp, hr⟩
  have hg : g = 283 ∨ g = 286 ∨ g = 287 ∨ g = 288 ∨ g = 289 ∨ g = 292 ∨ g = 293 ∨ g = 294 ∨ g = 295 ∨ g = 296 := by
    have h1 := List.all_eq_true.1 rules_have p hp
    simp only [hr] at h1
    obtain ⟨q, hq⟩ := Option.isSome_iff_exists.1 h1
    simp only [ruleBytes, List.lookup] at hq
    repeat' split at hq
    all_goals simp_all
  rcases hg with rfl | rfl | rfl | rfl | rfl | rfl | rfl | rfl | rfl | rfl
  · exact rule1_ok a s
  · exact audience_ok a hl s
  · exact reason_ok a s
  · exact rule2_ok a hl s
  · exact rule3_ok a hl hw s
  · exact rule4_ok a s
  · exact rule5_ok a s
  · exact rule6_ok a hl hw s
  · exact rule7_ok a s
  · exact rule8_ok a s
/-- What a right activity is. -/
def actRight (a : Act) : Bool := rightS ruleR a
theorem actRight_ok (a : Act) (hk : (Lit.int .i64 a.kind).wf = true) (hl : a.to.length ≤ 1073741824) (hw : a.wraps.length ≤ 1073741824) (s : List SO) :
    FnOK Tryz.prog GW 152 [agg a.cells] s (.c (.bool (actRight a))) s := right_ok ruleR a hk kinds_hasG kinds_look (ruleR_ok a hl hw) s
end Go.Proofs.YthkmfboffnhkaaaGreatDoor
namespace Go.Proofs.YthkmfboffnhkaaaGreatDoor
attribute [local simp] ident_Name_R0 ident_Name_R1 ident_Name_R2 ident_Name_R3 ident_Name_R4 ident_Name_R5 ident_Name_R6 ident_Name_R7 ident_Name_B1 ident_Name_W1 ident_Name_B0 ident_Name_R8 ident_Name_L ident_Name_ks ident_Ids_R0 ident_Ids_R1 ident_Ids_R2 ident_Ids_R3 ident_Ids_R4 ident_Ids_R5 ident_Ids_R6 ident_Ids_R7 ident_Ids_B1 ident_Ids_R8 ident_Ids_W1 ident_Ids_B0 ident_Ids_R9 ident_Ids_L ident_Ids_ks act_isPublic_R0 act_isPublic_R1 act_isPublic_L act_isPublic_ks act_short_R0 act_short_R1 act_short_L act_short_ks act_reason_R0 act_reason_R1 act_reason_L act_reason_ks act_isBox_R0 act_isBox_R1 act_isBox_L act_isBox_ks act_isWrap_R0 act_isWrap_R1 act_isWrap_L act_isWrap_ks act_wraps_1_R0 act_wraps_1_R1 act_wraps_1_L act_wraps_1_ks slices_IndexFunc_Lapi_Wrap_api_Wrap_R0 slices_IndexFunc_Lapi_Wrap_api_Wrap_R1 slices_IndexFunc_Lapi_Wrap_api_Wrap_R2 slices_IndexFunc_Lapi_Wrap_api_Wrap_R3 slices_IndexFunc_Lapi_Wrap_api_Wrap_R4 slices_IndexFunc_Lapi_Wrap_api_Wrap_R5 slices_IndexFunc_Lapi_Wrap_api_Wrap_B1 slices_IndexFunc_Lapi_Wrap_api_Wrap_R6 slices_IndexFunc_Lapi_Wrap_api_Wrap_W1 slices_IndexFunc_Lapi_Wrap_api_Wrap_B0 slices_IndexFunc_Lapi_Wrap_api_Wrap_R7 slices_IndexFunc_Lapi_Wrap_api_Wrap_L slices_IndexFunc_Lapi_Wrap_api_Wrap_ks slices_ContainsFunc_Lapi_Wrap_api_Wrap_R0 slices_ContainsFunc_Lapi_Wrap_api_Wrap_R1 slices_ContainsFunc_Lapi_Wrap_api_Wrap_L slices_ContainsFunc_Lapi_Wrap_api_Wrap_ks act_wraps_R0 act_wraps_R1 act_wraps_L act_wraps_ks act_grouped_R0 act_grouped_R1 act_grouped_R2 act_grouped_R3 act_grouped_R4 act_grouped_R5 act_grouped_R6 act_grouped_B0 act_grouped_R7 act_grouped_L act_grouped_ks act_audience_R0 act_audience_R1 act_audience_R2 act_audience_R3 act_audience_R4 act_audience_R5 act_audience_L act_audience_ks act_kinds_1_R0 act_kinds_1_R1 act_kinds_1_L act_kinds_1_ks act_kinds_2_R0 act_kinds_2_R1 act_kinds_2_L act_kinds_2_ks act_kinds_3_R0 act_kinds_3_R1 act_kinds_3_L act_kinds_3_ks act_kinds_4_R0 act_kinds_4_R1 act_kinds_4_L act_kinds_4_ks act_kinds_5_R0 act_kinds_5_R1 act_kinds_5_L act_kinds_5_ks act_kinds_6_R0 act_kinds_6_R1 act_kinds_6_L act_kinds_6_ks act_kinds_7_R0 act_kinds_7_R1 act_kinds_7_L act_kinds_7_ks act_kinds_8_R0 act_kinds_8_R1 act_kinds_8_L act_kinds_8_ks item_sameDecision_R0 item_sameDecision_R1 item_sameDecision_L item_sameDecision_ks item_Same_R0 item_Same_R1 item_Same_L item_Same_ks item_Right_R0 item_Right_R1 item_Right_R2 item_Right_R3 item_Right_R4 item_Right_R5 item_Right_R6 item_Right_R7 item_Right_R8 item_Right_R9 item_Right_R10 item_Right_R11 item_Right_B0 item_Right_R12 item_Right_L item_Right_ks item_Bytes_R0 item_Bytes_R1 item_Bytes_R2 item_Bytes_R3 item_Bytes_R4 item_Bytes_R5 item_Bytes_R6 item_Bytes_R7 item_Bytes_R8 item_Bytes_R9 item_Bytes_L item_Bytes_ks
open Go Go.L1
set_option maxRecDepth 100000
set_option maxHeartbeats 4000000

structure Claim where
  actor : List UInt8
  base : Int
  prev : List UInt8
  gen : Int
  home : Int
  pub : Int
  time : Int
  sigE : Int
  sigS : Int
structure Ballot where
  server : Int
  actor : List UInt8
  gen : Int
  claim : List UInt8
  time : Int
  sigE : Int
  sigS : Int
structure Decision where
  server : Int
  number : Int
  kind : Int
  actor : List UInt8
  object : List UInt8
  text : List UInt8
  to : List (List UInt8)
  n : Int
  from_ : Int
  until_ : Int
  sigE : Int
  sigS : Int
structure Item where
  kind : Int
  act : Act
  claim : Claim
  ballot : Ballot
  decision : Decision
def Claim.cells (c : Claim) : List C := [.str c.actor, I c.base, .str c.prev, I c.gen, I c.home, I c.pub, I c.time, I c.sigE, I c.sigS]
def Ballot.cells (b : Ballot) : List C := [I b.server, .str b.actor, I b.gen, .str b.claim, I b.time, I b.sigE, I b.sigS]
def Decision.cells (d : Decision) : List C := [I d.server, I d.number, I d.kind, .str d.actor, .str d.object, .str d.text, texts d.to, I d.n, I d.from_, I d.until_, I d.sigE, I d.sigS]
def Item.cells (it : Item) : List C := I it.kind :: (it.act.cells ++ (it.claim.cells ++ (it.ballot.cells ++ it.decision.cells)))
def noBox : Box := ⟨[], [], []⟩
def noAct : Act := ⟨[], 0, [], 0, 0, [], [], 0, [], [], [], noBox, 0, [], 0, 0, 0, 0⟩
def noClaim : Claim := ⟨[], 0, [], 0, 0, 0, 0, 0, 0⟩
def noBallot : Ballot := ⟨0, [], 0, [], 0, 0, 0⟩
def noDecision : Decision := ⟨0, 0, 0, [], [], [], [], 0, 0, 0, 0, 0⟩
def itemOf (a : Act) : Item := ⟨0, a, noClaim, noBallot, noDecision⟩

def sameClaim (a b : Claim) : Bool := (a.actor == b.actor) && ((a.base == b.base) && ((a.prev == b.prev) && ((a.gen == b.gen) && ((a.home == b.home) && ((a.pub == b.pub) && ((a.time == b.time) && ((a.sigE == b.sigE) && (a.sigS == b.sigS))))))))
def sameBallot (a b : Ballot) : Bool := (a.server == b.server) && ((a.actor == b.actor) && ((a.gen == b.gen) && ((a.claim == b.claim) && ((a.time == b.time) && ((a.sigE == b.sigE) && (a.sigS == b.sigS))))))
def sameDecisionS (a b : Decision) : Bool := eqL (· == ·) a.to b.to && (a.server == b.server) && (a.number == b.number) && (a.kind == b.kind) && (a.actor == b.actor) && (a.object == b.object) && (a.text == b.text) && (a.n == b.n) &&
  (a.from_ == b.from_) && (a.until_ == b.until_) && ((a.sigE == b.sigE) && (a.sigS == b.sigS))
theorem sameDecision_ok (a b : Decision) (h1 : a.to.length ≤ 1073741824) (s : List SO) : FnOK Tryz.prog GW 228 [agg a.cells, agg b.cells] s (.c (.bool (sameDecisionS a b))) s := by
  refine item_sameDecision_F.pu {} (by simp [-getElem?_pos]) rfl ?_
  simp (config := { maxSteps := 10000000 }) [-getElem?_pos, agg, Decision.cells]
  refine callW0 (equalTexts_ok a.to b.to h1) rfl ?_
  simp (config := { maxSteps := 10000000 }) [-getElem?_pos]
  repeat' first
    | rfl
    | (intros; rfl)
    | apply exY_and
    | intro _
def sameItem (a b : Item) : Bool := (a.kind == b.kind) && sameS a.act b.act && sameClaim a.claim b.claim && sameBallot a.ballot b.ballot && sameDecisionS a.decision b.decision
theorem sameItem_ok (a b : Item) (h1 : a.act.to.length ≤ 1073741824) (h2 : a.act.wraps.length ≤ 1073741824) (h3 : a.decision.to.length ≤ 1073741824) (s : List SO) :
    FnOK Tryz.prog GW 204 [agg a.cells, agg b.cells] s (.c (.bool (sameItem a b))) s := by
  refine item_Same_F.pu {} (by simp [-getElem?_pos]) rfl ?_
  simp (config := { maxSteps := 10000000 }) [-getElem?_pos, agg, Item.cells, Act.cells, Claim.cells, Ballot.cells, Decision.cells]
  refine exY_i (sameS a.act b.act) ⟨fun _ => callW0 (same_ok a.act b.act h1 h2) rfl (by simp [-getElem?_pos]), exY_i (sameClaim a.claim b.claim) ⟨fun _ _ => rfl, exY_i (sameBallot a.ballot b.ballot) ⟨fun _ _ _ => rfl,
    exY_i (sameDecisionS a.decision b.decision) ⟨fun _ _ _ _ => callW0 (sameDecision_ok a.decision b.decision h3) rfl (by simp [-getElem?_pos]), rfl⟩⟩⟩⟩
theorem itemRight_ok (it : Item) (h0 : it.kind = 0) (hk : (Lit.int .i64 it.act.kind).wf = true) (h1 : it.act.to.length ≤ 1073741824) (h2 : it.act.wraps.length ≤ 1073741824) (h3 : it.decision.to.length ≤ 1073741824) (s : List SO) :
    FnOK Tryz.prog GW 162 [agg it.cells] s (.c (.bool (actRight it.act && sameItem it (itemOf it.act)))) s := by
  refine item_Right_F.pu {} (by simp [-getElem?_pos]) rfl ?_
  simp (config := { maxSteps := 10000000 }) [-getElem?_pos, agg, Item.cells, Act.cells, Claim.cells, Ballot.cells, Decision.cells, h0, mixed]
  refine callW0 (actRight_ok it.act hk h1 h2) rfl ?_
  simp (config := { maxSteps := 10000000 }) [-getElem?_pos]
  refine exY_i (sameItem it (itemOf it.act)) ⟨fun _ => ?_, rfl⟩
  refine callW0 (res := .c (.bool (sameItem it (itemOf it.act)))) (fun s' => ?_) rfl (by simp [-getElem?_pos])
  have h := sameItem_ok it (itemOf it.act) h1 h2 h3 s'
  simpa [-getElem?_pos, agg, Item.cells, Act.cells, Claim.cells, Ballot.cells, Decision.cells, itemOf, noClaim, noBallot, noDecision, texts, h0] using h
theorem eqL_refl {α : Type} {f : α → α → Bool} (hf : ∀ x, f x x = true) : ∀ l : List α, eqL f l l = true
  | [] => rfl
  | x :: l => by simp [-getElem?_pos, eqL, hf, eqL_refl hf l]
theorem sameS_refl (a : Act) : sameS a a = true := by
  simp [-getElem?_pos, sameS, sameRest, eqL_refl, wrapEq]
theorem sameItem_refl (it : Item) : sameItem it it = true := by
  simp [-getElem?_pos, sameItem, sameS_refl, sameClaim, sameBallot, sameDecisionS, eqL_refl]
theorem itemOf_right (a : Act) (hk : (Lit.int .i64 a.kind).wf = true) (h1 : a.to.length ≤ 1073741824) (h2 : a.wraps.length ≤ 1073741824) (s : List SO) :
    FnOK Tryz.prog GW 162 [agg (itemOf a).cells] s (.c (.bool (actRight a))) s := by
  have h := itemRight_ok (itemOf a) rfl hk h1 h2 (by simp [-getElem?_pos, itemOf, noDecision]) s
  rw [show sameItem (itemOf a) (itemOf (itemOf a).act) = true from sameItem_refl _, Bool.and_true] at h
  exact h
end Go.Proofs.YthkmfboffnhkaaaGreatDoor
namespace Go.Proofs.YthkmfboffnhkaaaGreatDoor
attribute [local simp] ident_Name_R0 ident_Name_R1 ident_Name_R2 ident_Name_R3 ident_Name_R4 ident_Name_R5 ident_Name_R6 ident_Name_R7 ident_Name_B1 ident_Name_W1 ident_Name_B0 ident_Name_R8 ident_Name_L ident_Name_ks ident_Ids_R0 ident_Ids_R1 ident_Ids_R2 ident_Ids_R3 ident_Ids_R4 ident_Ids_R5 ident_Ids_R6 ident_Ids_R7 ident_Ids_B1 ident_Ids_R8 ident_Ids_W1 ident_Ids_B0 ident_Ids_R9 ident_Ids_L ident_Ids_ks act_isPublic_R0 act_isPublic_R1 act_isPublic_L act_isPublic_ks act_short_R0 act_short_R1 act_short_L act_short_ks act_reason_R0 act_reason_R1 act_reason_L act_reason_ks act_isBox_R0 act_isBox_R1 act_isBox_L act_isBox_ks act_isWrap_R0 act_isWrap_R1 act_isWrap_L act_isWrap_ks act_wraps_1_R0 act_wraps_1_R1 act_wraps_1_L act_wraps_1_ks slices_IndexFunc_Lapi_Wrap_api_Wrap_R0 slices_IndexFunc_Lapi_Wrap_api_Wrap_R1 slices_IndexFunc_Lapi_Wrap_api_Wrap_R2 slices_IndexFunc_Lapi_Wrap_api_Wrap_R3 slices_IndexFunc_Lapi_Wrap_api_Wrap_R4 slices_IndexFunc_Lapi_Wrap_api_Wrap_R5 slices_IndexFunc_Lapi_Wrap_api_Wrap_B1 slices_IndexFunc_Lapi_Wrap_api_Wrap_R6 slices_IndexFunc_Lapi_Wrap_api_Wrap_W1 slices_IndexFunc_Lapi_Wrap_api_Wrap_B0 slices_IndexFunc_Lapi_Wrap_api_Wrap_R7 slices_IndexFunc_Lapi_Wrap_api_Wrap_L slices_IndexFunc_Lapi_Wrap_api_Wrap_ks slices_ContainsFunc_Lapi_Wrap_api_Wrap_R0 slices_ContainsFunc_Lapi_Wrap_api_Wrap_R1 slices_ContainsFunc_Lapi_Wrap_api_Wrap_L slices_ContainsFunc_Lapi_Wrap_api_Wrap_ks act_wraps_R0 act_wraps_R1 act_wraps_L act_wraps_ks act_grouped_R0 act_grouped_R1 act_grouped_R2 act_grouped_R3 act_grouped_R4 act_grouped_R5 act_grouped_R6 act_grouped_B0 act_grouped_R7 act_grouped_L act_grouped_ks act_audience_R0 act_audience_R1 act_audience_R2 act_audience_R3 act_audience_R4 act_audience_R5 act_audience_L act_audience_ks act_kinds_1_R0 act_kinds_1_R1 act_kinds_1_L act_kinds_1_ks act_kinds_2_R0 act_kinds_2_R1 act_kinds_2_L act_kinds_2_ks act_kinds_3_R0 act_kinds_3_R1 act_kinds_3_L act_kinds_3_ks act_kinds_4_R0 act_kinds_4_R1 act_kinds_4_L act_kinds_4_ks act_kinds_5_R0 act_kinds_5_R1 act_kinds_5_L act_kinds_5_ks act_kinds_6_R0 act_kinds_6_R1 act_kinds_6_L act_kinds_6_ks act_kinds_7_R0 act_kinds_7_R1 act_kinds_7_L act_kinds_7_ks act_kinds_8_R0 act_kinds_8_R1 act_kinds_8_L act_kinds_8_ks item_sameDecision_R0 item_sameDecision_R1 item_sameDecision_L item_sameDecision_ks item_Same_R0 item_Same_R1 item_Same_L item_Same_ks item_Right_R0 item_Right_R1 item_Right_R2 item_Right_R3 item_Right_R4 item_Right_R5 item_Right_R6 item_Right_R7 item_Right_R8 item_Right_R9 item_Right_R10 item_Right_R11 item_Right_B0 item_Right_R12 item_Right_L item_Right_ks item_Bytes_R0 item_Bytes_R1 item_Bytes_R2 item_Bytes_R3 item_Bytes_R4 item_Bytes_R5 item_Bytes_R6 item_Bytes_R7 item_Bytes_R8 item_Bytes_R9 item_Bytes_L item_Bytes_ks
open Go Go.L1
set_option maxRecDepth 100000
set_option maxHeartbeats 4000000

theorem coreBody_len (a : Act) (hf : a.Fits) : (coreBody a).length ≤ 5000000000000 := by
  have ha := hf.author; have hp := hf.prev; have ho := hf.object; have ht := hf.target; have hg := hf.group; have hx := hf.text; have hto := hf.to; have hts := hf.toSum
  have hb1 := hf.body.nonce; have hb2 := hf.body.data; have hb3 := hf.body.tag; have hw := hf.wraps
  have hn := hf.ints
  simp only [tooBig] at ha hp ho ht hg hx hto hts hb1 hb2 hb3 hw
  have k1 := textS_len a.author (by omega)
  have k2 := textS_len a.prev (by omega)
  have k3 := textS_len a.object (by omega)
  have k4 := textS_len a.target (by omega)
  have k5 := textS_len a.group (by omega)
  have k6 := textS_len a.text (by omega)
  have k7 := textS_len a.body.nonce (by omega)
  have k8 := textS_len a.body.data (by omega)
  have k9 := textS_len a.body.tag (by omega)
  have k10 := listS_len a.to (by omega) (by omega)
  have k11 := wraps_len a.wraps hf.wrap
  have k12 := numS_len a.seq (hn _ (by simp [-getElem?_pos]))
  have k13 := numS_len a.kind (hn _ (by simp [-getElem?_pos]))
  have k14 := numS_len a.time (hn _ (by simp [-getElem?_pos]))
  have k15 := numS_len a.scope (hn _ (by simp [-getElem?_pos]))
  have k16 := numS_len a.epoch (hn _ (by simp [-getElem?_pos]))
  have k17 := numS_len a.n (hn _ (by simp [-getElem?_pos]))
  have k18 := numS_len a.m (hn _ (by simp [-getElem?_pos]))
  have k19 := numS_len (a.wraps.length : Int) (by omega)
  have k20 := textS_len [97, 99, 116] (by simp [-getElem?_pos])
  simp only [coreBody, coreParts, boxS, List.flatten_cons, List.flatten_nil, List.length_append, List.length_nil, List.length_cons] at *
  omega

/-- An activity's encoding as an item. -/
noncomputable def itemBytes (a : Act) : List UInt8 := if actRight a then numS 0 ++ actBytes ruleR a else []
theorem itemBytes_ok (a : Act) (hf : a.Fits) (s : List SO) : FnOK Tryz.prog GW 125 [agg (itemOf a).cells] s (.c (.str (itemBytes a))) s := by
  have hto := hf.to; have hw := hf.wraps
  simp only [tooBig] at hto hw
  have hcl := coreBody_len a hf
  have hright := actRight_ok a hf.kind (by omega) (by omega)
  refine item_Bytes_F.pu { bld := [(3, 5)] } (by simp [-getElem?_pos]) rfl ?_
  simp (config := { maxSteps := 10000000 }) [-getElem?_pos, agg, itemOf, Item.cells, Act.cells, Claim.cells, Ballot.cells, Decision.cells]
  refine callW0 (res := .c (.bool (actRight a))) (fun s' => by
    have h := itemOf_right a hf.kind (by omega) (by omega) s'
    simpa [-getElem?_pos, agg, itemOf, Item.cells, Act.cells, Claim.cells, Ballot.cells, Decision.cells] using h) rfl ?_
  cases hr : actRight a
  · simp (config := { maxSteps := 10000000 }) [-getElem?_pos, itemBytes, hr]
  simp (config := { maxSteps := 10000000 }) [-getElem?_pos]
  rw [bldSt_new]
  refine callW2 (nums_ok (isBld_st (.inl rfl) (.inr rfl)) [0] (by simp [-getElem?_pos]) (by simp [-getElem?_pos]) (by simp [-getElem?_pos]) (by simp [-getElem?_pos])) rfl ?_
  rw [bldSet_st]
  simp (config := { maxSteps := 10000000 }) [-getElem?_pos]
  have hab : actBytes ruleR a = coreBody a ++ numS a.sigE ++ numS a.sigS := by
    have : rightS ruleR a = true := hr
    simp [-getElem?_pos, actBytes, this]
  have n1 := numS_len a.sigE (hf.ints _ (by simp [-getElem?_pos]))
  have n2 := numS_len a.sigS (hf.ints _ (by simp [-getElem?_pos]))
  have n0 := numS_len 0 (by omega)
  refine callW0 (actBytes_ok ruleR a hf (by omega) hright) rfl ?_
  simp (config := { maxSteps := 10000000 }) [-getElem?_pos]
  have e0 : numsS [0] = numS 0 := by simp [-getElem?_pos, numsS]
  refine callW2 (writeString_ok (isBld_st (.inr rfl) (.inr rfl)) (actBytes ruleR a) (by rw [hab, e0]; simp only [List.length_append, List.nil_append]; omega)) rfl ?_
  rw [bldSet_st]
  simp (config := { maxSteps := 10000000 }) [-getElem?_pos]
  have hne : numS 0 ++ actBytes ruleR a ≠ [] := by simp [-getElem?_pos, numS_ne]
  refine callW2 (string_ok (isBld_st (.inr rfl) (.inr rfl)) (by rw [e0]; simpa [-getElem?_pos] using hne) (by rw [hab, e0]; simp only [List.length_append, List.nil_append]; omega)) rfl ?_
  rw [bldSt_dead]
  simp [-getElem?_pos, itemBytes, hr, e0]
end Go.Proofs.YthkmfboffnhkaaaGreatDoor
