/-
  Walks: ListsExpires.
-/
import Derived.Test.YthkmfboffnhkaaaGreatDoorW23
import Derived.Test.YthkmfboffnhkaaaGreatDoorTE
set_option linter.all false
namespace Go.Proofs.YthkmfboffnhkaaaGreatDoor
open Go Go.L1
set_option maxRecDepth 100000
set_option maxHeartbeats 4000000

theorem expires_ok (cs : List Chain) (ks : List Str) (now later : Int) (hcs : cs.length ≤ 1000000000) (hks : ks.length ≤ 1000000000) (hf : fewS cs = true → FitsAll cs) (s : List SO) :
    FnOK Tryz.prog GW 4 [chains cs, .c (texts ks), .c (.int .i64 now), .c (.int .i64 later)] s (.c (.bool true)) s := by
  refine agoralaw37_ListsExpires_pu {} (by simp [-getElem?_pos]) rfl ?_
  simp [-getElem?_pos, agoralaw37_ListsExpires_R0, agoralaw37_ListsExpires_R1, agoralaw37_ListsExpires_R2, agoralaw37_ListsExpires_R3, agoralaw37_ListsExpires_R4, agoralaw37_ListsExpires_R5, agoralaw37_ListsExpires_R6, agoralaw37_ListsExpires_R7, agoralaw37_ListsExpires_R9, agoralaw37_ListsExpires_R10, agoralaw37_ListsExpires_R11, agoralaw37_ListsExpires_R12, agoralaw37_ListsExpires_B1, agoralaw37_ListsExpires_R8, agoralaw37_ListsExpires_W1, agoralaw37_ListsExpires_B0, agoralaw37_ListsExpires_R13, agoralaw37_ListsExpires_L, agoralaw37_ListsExpires_ks, mixed, chains]
  refine callW0 (res := .c (.bool true)) (fun s => small_ok s) rfl ?_
  simp [-getElem?_pos, agoralaw37_ListsExpires_R0, agoralaw37_ListsExpires_R1, agoralaw37_ListsExpires_R2, agoralaw37_ListsExpires_R3, agoralaw37_ListsExpires_R4, agoralaw37_ListsExpires_R5, agoralaw37_ListsExpires_R6, agoralaw37_ListsExpires_R7, agoralaw37_ListsExpires_R9, agoralaw37_ListsExpires_R10, agoralaw37_ListsExpires_R11, agoralaw37_ListsExpires_R12, agoralaw37_ListsExpires_B1, agoralaw37_ListsExpires_R8, agoralaw37_ListsExpires_W1, agoralaw37_ListsExpires_B0, agoralaw37_ListsExpires_R13, agoralaw37_ListsExpires_L, agoralaw37_ListsExpires_ks, mixed, chains]
  refine callW0 (few_ok cs hcs) rfl ?_
  simp [-getElem?_pos, agoralaw37_ListsExpires_R0, agoralaw37_ListsExpires_R1, agoralaw37_ListsExpires_R2, agoralaw37_ListsExpires_R3, agoralaw37_ListsExpires_R4, agoralaw37_ListsExpires_R5, agoralaw37_ListsExpires_R6, agoralaw37_ListsExpires_R7, agoralaw37_ListsExpires_R9, agoralaw37_ListsExpires_R10, agoralaw37_ListsExpires_R11, agoralaw37_ListsExpires_R12, agoralaw37_ListsExpires_B1, agoralaw37_ListsExpires_R8, agoralaw37_ListsExpires_W1, agoralaw37_ListsExpires_B0, agoralaw37_ListsExpires_R13, agoralaw37_ListsExpires_L, agoralaw37_ListsExpires_ks, mixed, texts, chains, listings]
  refine exY_i (decide (8 < (ks.length : Int))) ⟨fun _ => rfl, exY_i (decide (later < now)) ⟨fun _ _ => rfl, fun hw h8 hlt => ?_⟩⟩
  simp only [decide_eq_false_iff_not] at h8 hlt
  replace hf := hf hw
  refine callW0 (res := listings (ofS digestS cs ks now)) (lof_ok hf hw ks now (by omega)) rfl ?_
  simp [-getElem?_pos, agoralaw37_ListsExpires_R0, agoralaw37_ListsExpires_R1, agoralaw37_ListsExpires_R2, agoralaw37_ListsExpires_R3, agoralaw37_ListsExpires_R4, agoralaw37_ListsExpires_R5, agoralaw37_ListsExpires_R6, agoralaw37_ListsExpires_R7, agoralaw37_ListsExpires_R9, agoralaw37_ListsExpires_R10, agoralaw37_ListsExpires_R11, agoralaw37_ListsExpires_R12, agoralaw37_ListsExpires_B1, agoralaw37_ListsExpires_R8, agoralaw37_ListsExpires_W1, agoralaw37_ListsExpires_B0, agoralaw37_ListsExpires_R13, agoralaw37_ListsExpires_L, agoralaw37_ListsExpires_ks, mixed, texts, chains, listings]
  refine callW0 (lof_ok hf hw ks later (by omega)) rfl ?_
  simp [-getElem?_pos, agoralaw37_ListsExpires_R0, agoralaw37_ListsExpires_R1, agoralaw37_ListsExpires_R2, agoralaw37_ListsExpires_R3, agoralaw37_ListsExpires_R4, agoralaw37_ListsExpires_R5, agoralaw37_ListsExpires_R6, agoralaw37_ListsExpires_R7, agoralaw37_ListsExpires_R9, agoralaw37_ListsExpires_R10, agoralaw37_ListsExpires_R11, agoralaw37_ListsExpires_R12, agoralaw37_ListsExpires_B1, agoralaw37_ListsExpires_R8, agoralaw37_ListsExpires_W1, agoralaw37_ListsExpires_B0, agoralaw37_ListsExpires_R13, agoralaw37_ListsExpires_L, agoralaw37_ListsExpires_ks, mixed, texts, chains, listings]
  have hLl := ofS_len cs ks now (fun k _ => few_acts hw k)
  have hMl := ofS_len cs ks later (fun k _ => few_acts hw k)
  have hown : ∀ x ∈ ofS digestS cs ks now, now < x.until_ := fun x hx => (ofS_own hx).2.1
  have hlat : ∀ x ∈ ofS digestS cs ks now, hasS (ofS digestS cs ks later) x.actor = if later < x.until_ then some x else none := fun x hx => by
    have h1 := ofS_later (later := later) (by omega) hx
    split
    · next h => exact hasS_mem (ofS_ok ks later) (h1.1 h)
    · next h => exact hasS_no (h1.2 h)
  have hend : ∀ x ∈ ofS digestS cs ks now, hasS (ofS digestS cs ks x.until_) x.actor = none := fun x hx => by
    have h1 := hown x hx
    exact hasS_no ((ofS_later (later := x.until_) (by omega) hx).2 (by omega))
  have hlen : (ofS digestS cs ks later).length ≤ (ofS digestS cs ks now).length :=
    len_le_of_mem (ofS_ok ks later).nodup fun y hy => ofS_earlier (by omega) hy
  generalize hL : ofS digestS cs ks now = L at *
  generalize hM : ofS digestS cs ks later = M at *
  refine loopM_intro (fun m e st => ∃ i : Nat, m = L.length - i ∧ i ≤ L.length ∧ st = s ∧
    e = [(12, .c (I i)), (11, listings M), (10, listings L), (9, .c (.bool true)), (0, chains cs), (1, .c (texts ks)), (2, .c (I now)), (3, .c (I later))]) L.length _ ?_ ⟨0, rfl, Nat.zero_le _, rfl, rfl⟩ ?_
  · simp [-getElem?_pos, texts, chains, listings]
  rintro m e st ⟨i, rfl, hi, rfl, rfl⟩
  by_cases h : i < L.length
  · obtain ⟨x, hx⟩ := get_of_lt h
    have hxm := List.mem_of_getElem? hx
    have hwi := wrap_succ h (by omega)
    simp [-getElem?_pos, agoralaw37_ListsExpires_R0, agoralaw37_ListsExpires_R1, agoralaw37_ListsExpires_R2, agoralaw37_ListsExpires_R3, agoralaw37_ListsExpires_R4, agoralaw37_ListsExpires_R5, agoralaw37_ListsExpires_R6, agoralaw37_ListsExpires_R7, agoralaw37_ListsExpires_R9, agoralaw37_ListsExpires_R10, agoralaw37_ListsExpires_R11, agoralaw37_ListsExpires_R12, agoralaw37_ListsExpires_B1, agoralaw37_ListsExpires_R8, agoralaw37_ListsExpires_W1, agoralaw37_ListsExpires_B0, agoralaw37_ListsExpires_R13, agoralaw37_ListsExpires_L, agoralaw37_ListsExpires_ks, mixed, texts, chains, listings, h, hx, Listing.cells]
    refine callW0 (has_ok M (by omega) x.actor) rfl ?_
    have hR := hlat x hxm
    by_cases hu : later < x.until_
    · rw [if_pos hu] at hR
      simp [-getElem?_pos, agoralaw37_ListsExpires_R0, agoralaw37_ListsExpires_R1, agoralaw37_ListsExpires_R2, agoralaw37_ListsExpires_R3, agoralaw37_ListsExpires_R4, agoralaw37_ListsExpires_R5, agoralaw37_ListsExpires_R6, agoralaw37_ListsExpires_R7, agoralaw37_ListsExpires_R9, agoralaw37_ListsExpires_R10, agoralaw37_ListsExpires_R11, agoralaw37_ListsExpires_R12, agoralaw37_ListsExpires_B1, agoralaw37_ListsExpires_R8, agoralaw37_ListsExpires_W1, agoralaw37_ListsExpires_B0, agoralaw37_ListsExpires_R13, agoralaw37_ListsExpires_L, agoralaw37_ListsExpires_ks, mixed, texts, chains, listings, h, hx, Listing.cells, hasR, hR, agg]
      refine callW0 (lof_ok hf hw ks x.until_ (by omega)) rfl ?_
      simp [-getElem?_pos, agoralaw37_ListsExpires_R0, agoralaw37_ListsExpires_R1, agoralaw37_ListsExpires_R2, agoralaw37_ListsExpires_R3, agoralaw37_ListsExpires_R4, agoralaw37_ListsExpires_R5, agoralaw37_ListsExpires_R6, agoralaw37_ListsExpires_R7, agoralaw37_ListsExpires_R9, agoralaw37_ListsExpires_R10, agoralaw37_ListsExpires_R11, agoralaw37_ListsExpires_R12, agoralaw37_ListsExpires_B1, agoralaw37_ListsExpires_R8, agoralaw37_ListsExpires_W1, agoralaw37_ListsExpires_B0, agoralaw37_ListsExpires_R13, agoralaw37_ListsExpires_L, agoralaw37_ListsExpires_ks, mixed, texts, chains, listings, h, hx, Listing.cells, hasR, hR, agg]
      refine callW0 (has_ok (ofS digestS cs ks x.until_) (by have := ofS_len cs ks x.until_ (fun k _ => few_acts hw k); omega) x.actor) rfl ?_
      simp [-getElem?_pos, agoralaw37_ListsExpires_R0, agoralaw37_ListsExpires_R1, agoralaw37_ListsExpires_R2, agoralaw37_ListsExpires_R3, agoralaw37_ListsExpires_R4, agoralaw37_ListsExpires_R5, agoralaw37_ListsExpires_R6, agoralaw37_ListsExpires_R7, agoralaw37_ListsExpires_R9, agoralaw37_ListsExpires_R10, agoralaw37_ListsExpires_R11, agoralaw37_ListsExpires_R12, agoralaw37_ListsExpires_B1, agoralaw37_ListsExpires_R8, agoralaw37_ListsExpires_W1, agoralaw37_ListsExpires_B0, agoralaw37_ListsExpires_R13, agoralaw37_ListsExpires_L, agoralaw37_ListsExpires_ks, mixed, texts, chains, listings, h, hx, Listing.cells, hasR, hR, agg, hend x hxm]
      refine exY_i false ⟨fun _ => exY_i false ⟨rfl, rfl⟩, exY_i false ⟨fun _ _ => rfl, by simp [-getElem?_pos, hu], fun _ _ _ => againM_i _ _ ?_ ?_ ⟨i + 1, rfl, h, rfl, rfl⟩⟩⟩
      · omega
      · simp [-getElem?_pos, hwi, texts, chains, listings]
    · rw [if_neg hu] at hR
      simp [-getElem?_pos, agoralaw37_ListsExpires_R0, agoralaw37_ListsExpires_R1, agoralaw37_ListsExpires_R2, agoralaw37_ListsExpires_R3, agoralaw37_ListsExpires_R4, agoralaw37_ListsExpires_R5, agoralaw37_ListsExpires_R6, agoralaw37_ListsExpires_R7, agoralaw37_ListsExpires_R9, agoralaw37_ListsExpires_R10, agoralaw37_ListsExpires_R11, agoralaw37_ListsExpires_R12, agoralaw37_ListsExpires_B1, agoralaw37_ListsExpires_R8, agoralaw37_ListsExpires_W1, agoralaw37_ListsExpires_B0, agoralaw37_ListsExpires_R13, agoralaw37_ListsExpires_L, agoralaw37_ListsExpires_ks, mixed, texts, chains, listings, h, hx, Listing.cells, hasR, hR, agg]
      refine callW0 (lof_ok hf hw ks x.until_ (by omega)) rfl ?_
      simp [-getElem?_pos, agoralaw37_ListsExpires_R0, agoralaw37_ListsExpires_R1, agoralaw37_ListsExpires_R2, agoralaw37_ListsExpires_R3, agoralaw37_ListsExpires_R4, agoralaw37_ListsExpires_R5, agoralaw37_ListsExpires_R6, agoralaw37_ListsExpires_R7, agoralaw37_ListsExpires_R9, agoralaw37_ListsExpires_R10, agoralaw37_ListsExpires_R11, agoralaw37_ListsExpires_R12, agoralaw37_ListsExpires_B1, agoralaw37_ListsExpires_R8, agoralaw37_ListsExpires_W1, agoralaw37_ListsExpires_B0, agoralaw37_ListsExpires_R13, agoralaw37_ListsExpires_L, agoralaw37_ListsExpires_ks, mixed, texts, chains, listings, h, hx, Listing.cells, hasR, hR, agg]
      refine callW0 (has_ok (ofS digestS cs ks x.until_) (by have := ofS_len cs ks x.until_ (fun k _ => few_acts hw k); omega) x.actor) rfl ?_
      simp [-getElem?_pos, agoralaw37_ListsExpires_R0, agoralaw37_ListsExpires_R1, agoralaw37_ListsExpires_R2, agoralaw37_ListsExpires_R3, agoralaw37_ListsExpires_R4, agoralaw37_ListsExpires_R5, agoralaw37_ListsExpires_R6, agoralaw37_ListsExpires_R7, agoralaw37_ListsExpires_R9, agoralaw37_ListsExpires_R10, agoralaw37_ListsExpires_R11, agoralaw37_ListsExpires_R12, agoralaw37_ListsExpires_B1, agoralaw37_ListsExpires_R8, agoralaw37_ListsExpires_W1, agoralaw37_ListsExpires_B0, agoralaw37_ListsExpires_R13, agoralaw37_ListsExpires_L, agoralaw37_ListsExpires_ks, mixed, texts, chains, listings, h, hx, Listing.cells, hasR, hR, agg, hend x hxm, hu]
      refine exY_i false ⟨exY_i false rfl, exY_i false ?_⟩
      simp [-getElem?_pos]
      refine againM_i _ _ ?_ ?_ ⟨i + 1, rfl, h, rfl, rfl⟩
      · omega
      · simp [-getElem?_pos, hwi, texts, chains, listings]
  · simp [-getElem?_pos, agoralaw37_ListsExpires_R0, agoralaw37_ListsExpires_R1, agoralaw37_ListsExpires_R2, agoralaw37_ListsExpires_R3, agoralaw37_ListsExpires_R4, agoralaw37_ListsExpires_R5, agoralaw37_ListsExpires_R6, agoralaw37_ListsExpires_R7, agoralaw37_ListsExpires_R9, agoralaw37_ListsExpires_R10, agoralaw37_ListsExpires_R11, agoralaw37_ListsExpires_R12, agoralaw37_ListsExpires_B1, agoralaw37_ListsExpires_R8, agoralaw37_ListsExpires_W1, agoralaw37_ListsExpires_B0, agoralaw37_ListsExpires_R13, agoralaw37_ListsExpires_L, agoralaw37_ListsExpires_ks, mixed, texts, chains, listings, h]
    exact exY_i true ⟨by simpa [-getElem?_pos] using hlen, rfl⟩
end Go.Proofs.YthkmfboffnhkaaaGreatDoor
