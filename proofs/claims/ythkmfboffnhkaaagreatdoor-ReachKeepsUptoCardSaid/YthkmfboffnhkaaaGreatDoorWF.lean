/-
  Small things that several walks share.
-/
import Derived.Test.YthkmfboffnhkaaaGreatDoorW18
import Derived.Test.YthkmfboffnhkaaaGreatDoorTD
set_option linter.all false
namespace Go.Proofs.YthkmfboffnhkaaaGreatDoor
attribute [local simp] agoraref21_Has_R0 agoraref21_Has_R1 agoraref21_Has_R2 agoraref21_Has_R4 agoraref21_Has_R5 agoraref21_Has_B1 agoraref21_Has_R3 agoraref21_Has_W1 agoraref21_Has_B0 agoraref21_Has_R6 agoraref21_Has_L agoraref21_Has_ks
open Go Go.L1 Go.RowKit Go.Maps
set_option maxRecDepth 100000
set_option maxHeartbeats 4000000

theorem wf_small {n : Int} (h0 : 0 ≤ n) (h : n < 9223372036854775807) : (Lit.int .i64 n).wf = true := by
  simp [-getElem?_pos, Lit.wf, IntKind.min, IntKind.max, IntKind.signed, IntKind.bits]; omega
theorem hasRef_ok (l : List Str) (hl : l.length ≤ 1000000000) (a : Str) (s : List SO) : FnOK Tryz.prog GW 20 [.c (texts l), .c (.str a)] s (.c (.bool (l.any fun x => x == a))) s := by
  refine agoraref21_Has_F.pu {} (by simp [-getElem?_pos]) rfl ?_
  simp [-getElem?_pos, texts]
  refine loopM_intro (fun m e st => ∃ i : Nat, m = l.length - i ∧ i ≤ l.length ∧ st = s ∧ (l.take i).any (fun x => x == a) = false ∧
    e = [(5, .c (I i)), (0, .c (texts l)), (1, .c (.str a))]) l.length _ ?_ ⟨0, rfl, Nat.zero_le _, rfl, rfl, rfl⟩ ?_
  · simp [-getElem?_pos, texts]
  rintro m e st ⟨i, rfl, hi, rfl, hall, rfl⟩
  by_cases h : i < l.length
  · obtain ⟨x, hx⟩ := get_of_lt h
    have hw := wrap_succ h (by omega)
    simp [-getElem?_pos, texts, h, hx, hw]
    refine ⟨fun h1 => ?_, fun h1 => againM_i _ _ ?_ ?_ ⟨i + 1, rfl, h, rfl, ?_, rfl⟩⟩
    · first
        | exact ⟨x, List.mem_of_getElem? hx, h1⟩
        | (have := List.mem_of_getElem? hx; rw [h1] at this; simpa [-getElem?_pos] using this)
    · omega
    · simp [-getElem?_pos, texts]
    · rw [List.take_add_one, hx, List.any_append, hall]; simp [-getElem?_pos, h1]
  · have he : i = l.length := by omega
    rw [he, List.take_length] at hall
    simp [-getElem?_pos, texts, h]
    simpa [-getElem?_pos] using hall

def actFew (a : Act) : Bool := decide (a.to.length ≤ 8) && decide (a.wraps.length ≤ 8) && decide (a.text.length ≤ 600) && decide (a.body.data.length ≤ 600)
def chainFew (c : Chain) : Bool := decide (c.acts.length ≤ 24) && c.acts.all actFew
def fewS (cs : List Chain) : Bool := decide (cs.length ≤ 6) && cs.all chainFew
def FitsAll (cs : List Chain) : Prop := ∀ c ∈ cs, ∀ a ∈ c.acts, a.Fits
theorem few_cs {cs : List Chain} (h : fewS cs = true) : cs.length ≤ 6 := by
  simp only [fewS, Bool.and_eq_true, decide_eq_true_eq] at h; exact h.1
def idA1 : Str := [48, 48, 48, 48, 48, 48, 48, 48, 48, 48, 48, 48, 48, 48, 97, 49]
end Go.Proofs.YthkmfboffnhkaaaGreatDoor
