/-
  Walks: finding.
-/
import Derived.Test.YthkmfboffnhkaaaGreatDoorPL
import Derived.Test.YthkmfboffnhkaaaGreatDoorTA
import Derived.Test.YthkmfboffnhkaaaGreatDoorTD
set_option linter.all false
namespace Go.Proofs.YthkmfboffnhkaaaGreatDoor
attribute [local simp] chain_Find_R0 chain_Find_R1 chain_Find_R2 chain_Find_R3 chain_Find_R4 chain_Find_L chain_Find_ks
open Go Go.L1
set_option maxRecDepth 100000

/-- A function as a value. -/
def isFun (v : V) (g : FuncId) (caps : List V) : Prop := v = .clo g caps ∧ caps.all plainV = true ∨ v = .c (.fn g) ∧ caps = []

theorem indexListing_ok {α : Type} (f : α → List C) (hf : ∀ x, (f x).length = 4) (xs : List α) (hl : xs.length ≤ 1073741824) (p : α → Bool) (g : FuncId) (caps : List V) (s : List SO)
    (hp : ∀ x ∈ xs, FnOK Tryz.prog GW g (agg (f x) :: caps) s (.c (.bool (p x))) s) (hc : caps.all plainV = true) :
    FnOK Tryz.prog GW 60 [.c (.sl (xs.map f)), .clo g caps] s (.c (.int .i64 (idx p xs))) s := by
  refine slices_IndexFunc_Lapi_Listing_api_Listing_F.pu {} (by simp [-getElem?_pos]) rfl ?_
  simp [-getElem?_pos, slices_IndexFunc_Lapi_Listing_api_Listing_L, slices_IndexFunc_Lapi_Listing_api_Listing_R0, slices_IndexFunc_Lapi_Listing_api_Listing_R1, slices_IndexFunc_Lapi_Listing_api_Listing_B0]
  refine loopM_intro (fun m e st => ∃ i : Nat, m = xs.length - i ∧ i ≤ xs.length ∧ st = s ∧ (xs.take i).all (fun x => !p x) = true ∧
    e = [(8, .c (I i)), (7, .c (I xs.length)), (0, .c (.sl (xs.map f))), (1, .clo g caps)]) xs.length _ ?_ ⟨0, rfl, Nat.zero_le _, rfl, rfl, rfl⟩ ?_
  · simp [-getElem?_pos]
  rintro m e st ⟨i, rfl, hi, rfl, hall, rfl⟩
  by_cases h : i < xs.length
  · obtain ⟨x, hx⟩ := get_of_lt h
    have hw := wrap_succ h (by omega)
    have ht : List.take 4 (List.map V.c (f x)) = List.map V.c (f x) := List.take_of_length_le (by simp [-getElem?_pos, hf])
    simp [-getElem?_pos, slices_IndexFunc_Lapi_Listing_api_Listing_W1, slices_IndexFunc_Lapi_Listing_api_Listing_R2, slices_IndexFunc_Lapi_Listing_api_Listing_B1, slices_IndexFunc_Lapi_Listing_api_Listing_R3, slices_IndexFunc_Lapi_Listing_api_Listing_R4, h, hx, hf, ht]
    refine callW1 (hp x (List.mem_of_getElem? hx)) rfl ?_
    simp [-getElem?_pos, slices_IndexFunc_Lapi_Listing_api_Listing_R5, slices_IndexFunc_Lapi_Listing_api_Listing_R6, hw]
    refine ⟨fun h1 => (idx_found hall hx h1).symm, fun h1 => againM_i _ _ ?_ ?_ ⟨i + 1, rfl, h, rfl, all_take hall hx (by simp [-getElem?_pos, h1]), rfl⟩⟩
    · omega
    · simp [-getElem?_pos]
  · simp [-getElem?_pos, slices_IndexFunc_Lapi_Listing_api_Listing_W1, slices_IndexFunc_Lapi_Listing_api_Listing_R2, slices_IndexFunc_Lapi_Listing_api_Listing_R7, h, idx_none hall (by omega)]

theorem indexChain_ok {α : Type} (f : α → List C) (hf : ∀ x, (f x).length = 6) (xs : List α) (hl : xs.length ≤ 1073741824) (p : α → Bool) (g : FuncId) (caps : List V) (s : List SO)
    (hp : ∀ x ∈ xs, FnOK Tryz.prog GW g (agg (f x) :: caps) s (.c (.bool (p x))) s) (hc : caps.all plainV = true) :
    FnOK Tryz.prog GW 62 [.c (.sl (xs.map f)), .clo g caps] s (.c (.int .i64 (idx p xs))) s := by
  refine slices_IndexFunc_Lapi_Chain_api_Chain_F.pu {} (by simp [-getElem?_pos]) rfl ?_
  simp [-getElem?_pos, slices_IndexFunc_Lapi_Chain_api_Chain_L, slices_IndexFunc_Lapi_Chain_api_Chain_R0, slices_IndexFunc_Lapi_Chain_api_Chain_R1, slices_IndexFunc_Lapi_Chain_api_Chain_B0]
  refine loopM_intro (fun m e st => ∃ i : Nat, m = xs.length - i ∧ i ≤ xs.length ∧ st = s ∧ (xs.take i).all (fun x => !p x) = true ∧
    e = [(8, .c (I i)), (7, .c (I xs.length)), (0, .c (.sl (xs.map f))), (1, .clo g caps)]) xs.length _ ?_ ⟨0, rfl, Nat.zero_le _, rfl, rfl, rfl⟩ ?_
  · simp [-getElem?_pos]
  rintro m e st ⟨i, rfl, hi, rfl, hall, rfl⟩
  by_cases h : i < xs.length
  · obtain ⟨x, hx⟩ := get_of_lt h
    have hw := wrap_succ h (by omega)
    have ht : List.take 6 (List.map V.c (f x)) = List.map V.c (f x) := List.take_of_length_le (by simp [-getElem?_pos, hf])
    simp [-getElem?_pos, slices_IndexFunc_Lapi_Chain_api_Chain_W1, slices_IndexFunc_Lapi_Chain_api_Chain_R2, slices_IndexFunc_Lapi_Chain_api_Chain_B1, slices_IndexFunc_Lapi_Chain_api_Chain_R3, slices_IndexFunc_Lapi_Chain_api_Chain_R4, h, hx, hf, ht]
    refine callW1 (hp x (List.mem_of_getElem? hx)) rfl ?_
    simp [-getElem?_pos, slices_IndexFunc_Lapi_Chain_api_Chain_R5, slices_IndexFunc_Lapi_Chain_api_Chain_R6, hw]
    refine ⟨fun h1 => (idx_found hall hx h1).symm, fun h1 => againM_i _ _ ?_ ?_ ⟨i + 1, rfl, h, rfl, all_take hall hx (by simp [-getElem?_pos, h1]), rfl⟩⟩
    · omega
    · simp [-getElem?_pos]
  · simp [-getElem?_pos, slices_IndexFunc_Lapi_Chain_api_Chain_W1, slices_IndexFunc_Lapi_Chain_api_Chain_R2, slices_IndexFunc_Lapi_Chain_api_Chain_R7, h, idx_none hall (by omega)]

theorem indexAct_ok {α : Type} (f : α → List C) (hf : ∀ x, (f x).length = 20) (xs : List α) (hl : xs.length ≤ 1073741824) (p : α → Bool) (g : FuncId) (caps : List V) (s : List SO)
    (hp : ∀ x ∈ xs, FnOK Tryz.prog GW g (agg (f x) :: caps) s (.c (.bool (p x))) s) (hc : caps.all plainV = true) :
    FnOK Tryz.prog GW 82 [.c (.sl (xs.map f)), .clo g caps] s (.c (.int .i64 (idx p xs))) s := by
  refine slices_IndexFunc_Lapi_Act_api_Act_F.pu {} (by simp [-getElem?_pos]) rfl ?_
  simp [-getElem?_pos, slices_IndexFunc_Lapi_Act_api_Act_L, slices_IndexFunc_Lapi_Act_api_Act_R0, slices_IndexFunc_Lapi_Act_api_Act_R1, slices_IndexFunc_Lapi_Act_api_Act_B0]
  refine loopM_intro (fun m e st => ∃ i : Nat, m = xs.length - i ∧ i ≤ xs.length ∧ st = s ∧ (xs.take i).all (fun x => !p x) = true ∧
    e = [(8, .c (I i)), (7, .c (I xs.length)), (0, .c (.sl (xs.map f))), (1, .clo g caps)]) xs.length _ ?_ ⟨0, rfl, Nat.zero_le _, rfl, rfl, rfl⟩ ?_
  · simp [-getElem?_pos]
  rintro m e st ⟨i, rfl, hi, rfl, hall, rfl⟩
  by_cases h : i < xs.length
  · obtain ⟨x, hx⟩ := get_of_lt h
    have hw := wrap_succ h (by omega)
    have ht : List.take 20 (List.map V.c (f x)) = List.map V.c (f x) := List.take_of_length_le (by simp [-getElem?_pos, hf])
    simp [-getElem?_pos, slices_IndexFunc_Lapi_Act_api_Act_W1, slices_IndexFunc_Lapi_Act_api_Act_R2, slices_IndexFunc_Lapi_Act_api_Act_B1, slices_IndexFunc_Lapi_Act_api_Act_R3, slices_IndexFunc_Lapi_Act_api_Act_R4, h, hx, hf, ht]
    refine callW1 (hp x (List.mem_of_getElem? hx)) rfl ?_
    simp [-getElem?_pos, slices_IndexFunc_Lapi_Act_api_Act_R5, slices_IndexFunc_Lapi_Act_api_Act_R6, hw]
    refine ⟨fun h1 => (idx_found hall hx h1).symm, fun h1 => againM_i _ _ ?_ ?_ ⟨i + 1, rfl, h, rfl, all_take hall hx (by simp [-getElem?_pos, h1]), rfl⟩⟩
    · omega
    · simp [-getElem?_pos]
  · simp [-getElem?_pos, slices_IndexFunc_Lapi_Act_api_Act_W1, slices_IndexFunc_Lapi_Act_api_Act_R2, slices_IndexFunc_Lapi_Act_api_Act_R7, h, idx_none hall (by omega)]


theorem has1_ok (x : Listing) (a : List UInt8) (st : List SO) (id : Nat) (h : st[id]? = some (.box [.c (.str a)])) :
    FnOK Tryz.prog GW 61 [agg x.cells, .ptr id 0] st (.c (.bool (x.actor == a))) st := by
  refine lists_Has_1_F.pu {} (by simp [-getElem?_pos]) rfl ?_
  simp [-getElem?_pos, lists_Has_1_L, lists_Has_1_R0, lists_Has_1_R1, agg, Listing.cells, h]

/-- The first entry for an actor. -/
def hasS (l : List Listing) (a : List UInt8) : Option Listing := l.find? fun x => x.actor == a
def hasR (l : List Listing) (a : List UInt8) : V := .tup [agg ((hasS l a).getD noListing).cells, .c (.bool (hasS l a).isSome)]

theorem find_idx {α : Type} (p : α → Bool) (l : List α) : (idx p l = -1 ∧ l.find? p = none) ∨ ∃ i x, idx p l = (i : Nat) ∧ l[i]? = some x ∧ l.find? p = some x := by
  unfold idx
  cases h : l.findIdx? p with
  | none =>
    left
    refine ⟨rfl, ?_⟩
    rw [List.find?_eq_none]
    intro x hx
    have := List.findIdx?_eq_none_iff.1 h x hx
    simp [-getElem?_pos, this]
  | some i =>
    right
    obtain ⟨hi, h1, h2⟩ := List.findIdx?_eq_some_iff_getElem.1 h
    refine ⟨i, l[i], rfl, List.getElem?_eq_getElem hi, ?_⟩
    rw [List.find?_eq_some_iff_getElem]
    exact ⟨h1, i, hi, rfl, fun j hj => by simpa [-getElem?_pos] using h2 j hj⟩

theorem has_ok (l : List Listing) (hl : l.length ≤ 1073741824) (a : List UInt8) (s : List SO) : FnOK Tryz.prog GW 19 [.c (.sl (l.map Listing.cells)), .c (.str a)] s (hasR l a) s := by
  refine lists_Has_F.pu { esc := [3] } (by simp [-getElem?_pos]) rfl ?_
  simp [-getElem?_pos, lists_Has_L, lists_Has_R0, lists_Has_R1]
  refine callW1 (indexListing_ok Listing.cells (fun _ => rfl) l hl (fun x => x.actor == a) 61 [.ptr s.length 0] _ (fun x _ => has1_ok x a _ _ (by simp [-getElem?_pos])) rfl) rfl ?_
  simp [-getElem?_pos, lists_Has_R2]
  rcases find_idx (fun x : Listing => x.actor == a) l with ⟨h1, h2⟩ | ⟨i, x, h1, h2, h3⟩
  · simp [-getElem?_pos, h1, lists_Has_R4, hasR, hasS, h2, noListing, agg, Listing.cells]
  · simp [-getElem?_pos, h1, h2, lists_Has_R3, hasR, hasS, h3, agg, Listing.cells]

theorem find1_ok (x : Chain) (a : List UInt8) (st : List SO) (id : Nat) (h : st[id]? = some (.box [.c (.str a)])) :
    FnOK Tryz.prog GW 63 [agg x.cells, .ptr id 0] st (.c (.bool (x.id == a))) st := by
  refine chain_Find_1_F.pu {} (by simp [-getElem?_pos]) rfl ?_
  simp [-getElem?_pos, chain_Find_1_L, chain_Find_1_R0, chain_Find_1_R1, agg, Chain.cells, h]

/-- The first chain of an actor. -/
def findR (l : List Chain) (a : List UInt8) : V := .tup [agg (findC l a).cells, .c (.bool (findS l a).isSome)]

theorem find_ok (l : List Chain) (hl : l.length ≤ 1073741824) (a : List UInt8) (s : List SO) : FnOK Tryz.prog GW 21 [chains l, .c (.str a)] s (findR l a) s := by
  refine chain_Find_F.pu { esc := [3] } (by simp [-getElem?_pos]) rfl ?_
  simp [-getElem?_pos, chain_Find_L, chain_Find_R0, chain_Find_R1, chains]
  refine callW1 (indexChain_ok Chain.cells (fun _ => rfl) l hl (fun x => x.id == a) 63 [.ptr s.length 0] _ (fun x _ => find1_ok x a _ _ (by simp [-getElem?_pos])) rfl) rfl ?_
  simp [-getElem?_pos, chain_Find_R2]
  rcases find_idx (fun x : Chain => x.id == a) l with ⟨h1, h2⟩ | ⟨i, x, h1, h2, h3⟩
  · simp [-getElem?_pos, h1, findR, findC, findS, h2, noChain, agg, Chain.cells]
  · simp [-getElem?_pos, h1, h2, findR, findC, findS, h3, agg, Chain.cells]
end Go.Proofs.YthkmfboffnhkaaaGreatDoor
