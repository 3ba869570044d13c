/-
  Walks: names, lists of ids.
-/
import Derived.Test.YthkmfboffnhkaaaGreatDoorW9
import Derived.Test.YthkmfboffnhkaaaGreatDoorTD
set_option linter.all false
namespace Go.Proofs.YthkmfboffnhkaaaGreatDoor
open Go Go.L1
set_option maxRecDepth 100000

theorem rune_pos (l : List UInt8) (pos : Nat) : 1 ≤ (runeAt l pos).2 := by
  unfold runeAt Utf8.decode
  simp only
  repeat' split
  all_goals first | exact Nat.le_refl _ | (simp [-getElem?_pos]; done) | skip

/-- Is this character not one of a name? -/
def badR (i r : Int) : Bool := !(decide (97 ≤ r) && decide (r ≤ 122)) && ((i == 0) || ((!decide (48 ≤ r) || !decide (r ≤ 57)) && !(r == 95)))
def nameF (l : List UInt8) : Nat → Nat → Bool
  | 0, _ => true
  | n + 1, pos => if pos < l.length then (if badR pos (runeAt l pos).1 then false else nameF l n (pos + (runeAt l pos).2)) else true
def nameS (l : List UInt8) : Bool := nameF l (l.length + 1) 0 && (!l.isEmpty && decide ((l.length : Int) ≤ 24))

theorem name_ok (l : List UInt8) (s : List SO) : FnOK Tryz.prog GW 284 [.c (.str l)] s (.c (.bool (nameS l))) s := by
  refine ident_Name_pu {} (by simp [-getElem?_pos]) rfl ?_
  simp [-getElem?_pos, ident_Name_R0, ident_Name_R1, ident_Name_R2, ident_Name_R3, ident_Name_R4, ident_Name_R5, ident_Name_R6, ident_Name_R7, ident_Name_B1, ident_Name_W1, ident_Name_B0, ident_Name_R8, ident_Name_L, ident_Name_ks]
  refine loopM_intro (fun m e st => ∃ pos : Nat, l.length < pos + m ∧ nameF l m pos = nameF l (l.length + 1) 0 ∧ st = s ++ [.siter l pos] ∧ e = [(8, .ptr s.length 0), (0, .c (.str l))]) (l.length + 1) _ ?_ ⟨0, by omega, rfl, rfl, rfl⟩ ?_
  · simp [-getElem?_pos]
  rintro m e st ⟨pos, hm, hn, rfl, rfl⟩
  by_cases h : pos < l.length
  · obtain ⟨m, rfl⟩ : ∃ k, m = k + 1 := ⟨m - 1, by omega⟩
    have hp := rune_pos l pos
    rw [nameF, if_pos h] at hn
    generalize hr : runeAt l pos = r at hn hp
    obtain ⟨r, wd⟩ := r
    simp only at hn hp
    simp [-getElem?_pos, ident_Name_R0, ident_Name_R1, ident_Name_R2, ident_Name_R3, ident_Name_R4, ident_Name_R5, ident_Name_R6, ident_Name_R7, ident_Name_B1, ident_Name_W1, ident_Name_B0, ident_Name_R8, ident_Name_L, ident_Name_ks, h, hr]
    generalize (r : Int) = q at *
    refine exY_i (decide (q ≤ 122)) ⟨fun _ => rfl, exY_i (decide (q ≤ 57)) ⟨fun _ => rfl, exY_i (q == 95) ⟨fun _ => rfl, exY_i (((pos : Int) == 0) || ((!decide (48 ≤ q) || !decide (q ≤ 57)) && !(q == 95))) ⟨fun _ => exY_i _ ⟨fun _ => rfl, rfl⟩, ?_, ?_⟩⟩⟩⟩
    · intro h1 h2
      have hb : badR pos q = true := by
        unfold badR
        rw [h2]
        rcases h1 with h1 | h1
        · simp [-getElem?_pos]; omega
        · simp [-getElem?_pos] at h1; simp [-getElem?_pos]; omega
      rw [hb] at hn
      unfold nameS
      rw [← hn]; rfl
    · intro h1
      have hb : badR pos q = false := by
        unfold badR
        cases h3 : (decide (97 ≤ q) && decide (q ≤ 122)) with
        | true => rfl
        | false => rw [h1 (by simp [-getElem?_pos] at h3; simp [-getElem?_pos]; omega)]; rfl
      rw [hb] at hn
      refine againM_i m _ (by omega) ?_ ⟨pos + wd, by omega, by simpa [-getElem?_pos] using hn, rfl, rfl⟩
      simp [-getElem?_pos]
  · have hn' : nameF l (l.length + 1) 0 = true := by
      rw [← hn]
      cases m with
      | zero => rfl
      | succ k => rw [nameF, if_neg h]
    simp [-getElem?_pos, ident_Name_R0, ident_Name_R1, ident_Name_R2, ident_Name_R3, ident_Name_R4, ident_Name_R5, ident_Name_R6, ident_Name_R7, ident_Name_B1, ident_Name_W1, ident_Name_B0, ident_Name_R8, ident_Name_L, ident_Name_ks, h]
    refine exY_i (decide ((l.length : Int) ≤ 24)) ⟨fun _ => rfl, ?_⟩
    simp [-getElem?_pos, nameS, hn']

/-- Ids in strictly ascending order. -/
def idsF (l : List (List UInt8)) : Nat → Bool
  | 0 => true
  | i + 1 => idsF l i && (idRight ((l[i]?).getD []) && (decide (i = 0) || Op.bytesLess ((l[i - 1]?).getD []) ((l[i]?).getD [])))
def idsS (l : List (List UInt8)) : Bool := decide ((l.length : Int) ≤ 64) && idsF l l.length
theorem idsF_false {l : List (List UInt8)} {i : Nat} (h : idsF l i = false) : ∀ n, i ≤ n → idsF l n = false
  | 0, hn => by have : i = 0 := by omega
                rw [this] at h; exact h
  | n + 1, hn => by
    by_cases hi : i = n + 1
    · rw [← hi]; exact h
    · simp only [idsF, idsF_false h n (by omega), Bool.false_and]

theorem ids_ok (l : List (List UInt8)) (hl : l.length ≤ 1073741824) (s : List SO) : FnOK Tryz.prog GW 226 [.c (texts l)] s (.c (.bool (idsS l))) s := by
  refine ident_Ids_pu {} (by simp [-getElem?_pos]) rfl ?_
  simp [-getElem?_pos, ident_Ids_R0, ident_Ids_R1, ident_Ids_R2, ident_Ids_R3, ident_Ids_R4, ident_Ids_R5, ident_Ids_R6, ident_Ids_R7, ident_Ids_B1, ident_Ids_R8, ident_Ids_W1, ident_Ids_B0, ident_Ids_R9, ident_Ids_L, ident_Ids_ks, texts]
  refine ⟨fun h1 => by simp [-getElem?_pos, idsS]; omega, fun h1 => ?_⟩
  refine loopM_intro (fun m e st => ∃ i : Nat, m = l.length - i ∧ i ≤ l.length ∧ st = s ∧ idsF l i = true ∧
    e = [(10, .c (I i)), (9, .c (I l.length)), (8, .c (texts l)), (0, .c (texts l))]) l.length _ ?_ ⟨0, rfl, Nat.zero_le _, rfl, rfl, rfl⟩ ?_
  · simp [-getElem?_pos, texts]
  rintro m e st ⟨i, rfl, hi, rfl, hall, rfl⟩
  by_cases h : i < l.length
  · obtain ⟨x, hx⟩ := get_of_lt h
    have hw := wrap_succ h (by omega)
    simp [-getElem?_pos, ident_Ids_R0, ident_Ids_R1, ident_Ids_R2, ident_Ids_R3, ident_Ids_R4, ident_Ids_R5, ident_Ids_R6, ident_Ids_R7, ident_Ids_B1, ident_Ids_R8, ident_Ids_W1, ident_Ids_B0, ident_Ids_R9, ident_Ids_L, ident_Ids_ks, texts, h, hx]
    refine callW0 (idRight_ok x) rfl ?_
    simp [-getElem?_pos, ident_Ids_R0, ident_Ids_R1, ident_Ids_R2, ident_Ids_R3, ident_Ids_R4, ident_Ids_R5, ident_Ids_R6, ident_Ids_R7, ident_Ids_B1, ident_Ids_R8, ident_Ids_W1, ident_Ids_B0, ident_Ids_R9, ident_Ids_L, ident_Ids_ks, texts, h, hx, hw]
    have hstep : idsF l (i + 1) = (idRight x && (decide (i = 0) || Op.bytesLess ((l[i - 1]?).getD []) x)) := by simp [-getElem?_pos, idsF, hall, hx]
    have hbad : idsF l (i + 1) = false → idsS l = false := fun hb => by
      simp only [idsS, idsF_false hb l.length (by omega), Bool.and_false]
    refine exY_i (decide (0 < i) && !Op.bytesLess ((l[i - 1]?).getD []) x) ⟨fun _ => exY_i (!Op.bytesLess ((l[i - 1]?).getD []) x) ⟨fun h0 => ?_, rfl⟩, fun h2 => hbad ?_, fun h2 h3 => againM_i _ _ ?_ ?_ ⟨i + 1, rfl, h, rfl, ?_, rfl⟩⟩
    · obtain ⟨p, hp⟩ := get_of_lt (show i - 1 < l.length by omega)
      have hw' : IntKind.i64.wrap ((i : Int) - 1) = ((i - 1 : Nat) : Int) := by rw [IntWalk.i64_in _ (by omega)]; omega
      simp [-getElem?_pos, hw', hp]
    · rw [hstep]
      rcases h2 with h2 | h2
      · rw [h2]; rfl
      · simp only [Bool.and_eq_true, decide_eq_true_eq, Bool.not_eq_true'] at h2
        rw [h2.2]
        have : decide (i = 0) = false := by simp [-getElem?_pos]; omega
        rw [this]; simp [-getElem?_pos]
    · omega
    · simp [-getElem?_pos, texts]
    · rw [hstep, h2]
      cases hb : Op.bytesLess ((l[i - 1]?).getD []) x with
      | true => simp [-getElem?_pos]
      | false => rw [hb] at h3; simp [-getElem?_pos] at h3; simp [-getElem?_pos, h3]
  · have he : i = l.length := by omega
    rw [he] at hall
    simp [-getElem?_pos, ident_Ids_R0, ident_Ids_R1, ident_Ids_R2, ident_Ids_R3, ident_Ids_R4, ident_Ids_R5, ident_Ids_R6, ident_Ids_R7, ident_Ids_B1, ident_Ids_R8, ident_Ids_W1, ident_Ids_B0, ident_Ids_R9, ident_Ids_L, ident_Ids_ks, h, idsS, hall]
    omega
end Go.Proofs.YthkmfboffnhkaaaGreatDoor
