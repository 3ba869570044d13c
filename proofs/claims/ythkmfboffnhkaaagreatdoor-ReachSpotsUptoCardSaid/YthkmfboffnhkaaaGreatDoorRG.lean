/-
  Walks: reach.Spots.
-/
import Derived.Test.YthkmfboffnhkaaaGreatDoorRE
set_option linter.all false
namespace Go.Proofs.YthkmfboffnhkaaaGreatDoor
attribute [local simp] reach_Spots_R0 reach_Spots_R1 reach_Spots_R2 reach_Spots_R3 reach_Spots_R4 reach_Spots_R5 reach_Spots_R6 reach_Spots_R7 reach_Spots_R8 reach_Spots_B3 reach_Spots_G1 reach_Spots_B2 reach_Spots_B1 reach_Spots_R9 reach_Spots_W2 reach_Spots_B0 reach_Spots_R10 reach_Spots_L reach_Spots_ks
open Go Go.L1 Go.RowKit Go.Maps
set_option maxRecDepth 100000
set_option maxHeartbeats 4000000

def spotC (c : Chain) (k : Nat) : List C := [.str c.id, I k]
noncomputable def spotK (c : Chain) (r : Str) (k : Nat) : List Nat := (List.range k).filter fun j => wantT c j && mayS digestS c j r
noncomputable def spotsN (cs : List Chain) (r : Str) (n : Nat) : List (List C) := (cs.take n).flatMap fun c => (spotK c r c.acts.length).map (spotC c)
theorem spotK_succ (c : Chain) (r : Str) (k : Nat) : spotK c r (k + 1) = spotK c r k ++ (if wantT c k = true ∧ mayS digestS c k r = true then [k] else []) := by
  unfold spotK
  rw [List.range_succ, List.filter_append]
  congr 1
  by_cases h : wantT c k = true ∧ mayS digestS c k r = true
  · rw [if_pos h]; simp [-getElem?_pos, h.1, h.2]
  · rw [if_neg h]
    simp [-getElem?_pos]
    intro h1
    cases h2 : mayS digestS c k r with
    | false => rfl
    | true => exact absurd ⟨h1, h2⟩ h
theorem spotK_len (c : Chain) (r : Str) (k : Nat) : (spotK c r k).length ≤ k := by
  unfold spotK
  exact Nat.le_trans (List.length_filter_le _ _) (by simp [-getElem?_pos])
theorem spotsN_succ {cs : List Chain} {i : Nat} {c : Chain} (h : cs[i]? = some c) (r : Str) : spotsN cs r (i + 1) = spotsN cs r i ++ (spotK c r c.acts.length).map (spotC c) := by
  unfold spotsN
  rw [List.take_add_one, h, List.flatMap_append]
  simp [-getElem?_pos]
theorem spotsN_len (cs : List Chain) (r : Str) (hc : ∀ c ∈ cs, c.acts.length ≤ 100000) : ∀ i, i ≤ cs.length → (spotsN cs r i).length ≤ i * 100000
  | 0, _ => by simp [-getElem?_pos, spotsN]
  | i + 1, hi => by
    obtain ⟨c, h⟩ := get_of_lt (show i < cs.length by omega)
    rw [spotsN_succ h, List.length_append, List.length_map]
    have := spotsN_len cs r hc i (by omega)
    have := spotK_len c r c.acts.length
    have := hc c (List.mem_of_getElem? h)
    omega
theorem spots_ok (cs : List Chain) (r : Str) (hcs : cs.length ≤ 1000) (hc : ∀ c ∈ cs, (∀ a ∈ c.acts, a.Fits) ∧ c.acts.length ≤ 100000) (s : List SO) :
    FnOK Tryz.prog GW 42 [chains cs, .c (.str r)] s (.c (.sl (spotsN cs r cs.length))) s := by
  refine reach_Spots_F.pu { esc := [3, 5, 7], own := [(5, 78, 2)], frz := [(999, [4])] } (by simp [-getElem?_pos]) rfl ?_
  simp (config := { maxSteps := 10000000 }) [-getElem?_pos, List.lookup, mixed, chains]
  have hsl := spotsN_len cs r fun c h => (hc c h).2
  refine loopM_intro (fun m e st => ∃ (i ep : Nat) (rest : List SO), m = cs.length - i ∧ i ≤ cs.length ∧ st = s ++ (.box [.c (.str r)] :: .arr 78 2 ep (spotsN cs r i) :: .box [.own (s.length + 1) ep] :: rest) ∧
    e = [(11, .c (I i)), (10, .c (I cs.length)), (9, chains cs), (5, .ptr (s.length + 2) 0), (3, .ptr s.length 0)]) cs.length _ ?_ ⟨0, 0, [], rfl, Nat.zero_le _, rfl, rfl⟩ ?_
  · simp [-getElem?_pos, chains]
  rintro m e st ⟨i, ep, rest, rfl, hi, rfl, rfl⟩
  by_cases h : i < cs.length
  · obtain ⟨c, hcc⟩ := get_of_lt h
    have hw := wrap_succ h (by omega)
    obtain ⟨hfc, hlc⟩ := hc c (List.mem_of_getElem? hcc)
    simp (config := { maxSteps := 10000000 }) [-getElem?_pos, List.lookup, mixed, chains, h, hcc, Chain.cells]
    refine callW2 (texts_ok c _) rfl ?_
    simp (config := { maxSteps := 10000000 }) [-getElem?_pos, List.lookup, mixed, chains, h, hcc, Chain.cells]
    have hS0 := hsl i (by omega)
    refine rngM_intro (N := c.acts.length) [(7, .ptr (s.length + (rest.length + 1 + 1 + 1)) 0), (5, .ptr (s.length + 2) 0), (3, .ptr s.length 0)]
      (fun k st' => ∃ ep', st' = s ++ (SO.box [.c (.str r)] :: SO.arr 78 2 ep' (spotsN cs r i ++ (spotK c r k).map (spotC c)) :: SO.box [.own (s.length + 1) ep'] :: (rest ++ [SO.box (cV c), SO.box (cV c)])))
      (texts_iter c (by omega) (id := s.length + (rest.length + 1 + 1 + 1 + 1)) (by simp [-getElem?_pos, Chain.cells])) (by simp [-getElem?_pos, getE, opnd, slotV]) (fun k _ => elsT_len c k) (by simp [-getElem?_pos]) rfl ⟨ep, by simp [-getElem?_pos, spotK]⟩ ?_ ?_ ?_
    · rintro k st' hk hwt ⟨ep', rfl⟩
      exact ⟨ep', by rw [spotK_succ, if_neg (by rw [hwt]; simp [-getElem?_pos])]; simp [-getElem?_pos]⟩
    · rintro k st' hk hwt ⟨ep', rfl⟩
      obtain ⟨a, ha⟩ := get_of_lt hk
      have hel : elsT c k = [.c (I k), agg a.cells] := by simp only [elsT, ha]
      have hkl := spotK_len c r k
      have hsu := spotK_succ c r k
      rw [hel]
      simp (config := { maxSteps := 10000000 }) [-getElem?_pos, List.lookup, setE, mixed, agg, Act.cells, Chain.cells]
      refine callW0 (may_ok c k r hfc (by omega)) rfl ?_
      simp (config := { maxSteps := 10000000 }) [-getElem?_pos, List.lookup, setE, mixed, agg, Act.cells, Chain.cells]
      refine ⟨fun hm => ⟨by omega, by omega, rndE_n _ [] (List.append_nil _).symm (by simp [-getElem?_pos]) id ⟨ep' + 1, ?_⟩⟩, fun hm => rndE_n _ [] (List.append_nil _).symm (by simp [-getElem?_pos]) id ⟨ep', ?_⟩⟩
      · rw [hsu, if_pos ⟨hwt, hm⟩]; simp [-getElem?_pos, spotC]
      · rw [hsu, if_neg (by rw [hm]; simp [-getElem?_pos])]; simp [-getElem?_pos]
    · rintro st' ⟨ep', rfl⟩
      simp (config := { maxSteps := 10000000 }) [-getElem?_pos, List.lookup, mixed, chains]
      refine againM_i _ _ ?_ ?_ ⟨i + 1, ep', rest ++ [SO.box (cV c), SO.box (cV c)], rfl, h, by rw [spotsN_succ hcc], rfl⟩
      · omega
      · simp [-getElem?_pos, hw, chains]
  · have he : i = cs.length := by omega
    subst he
    simp (config := { maxSteps := 10000000 }) [-getElem?_pos, List.lookup, mixed, chains]
end Go.Proofs.YthkmfboffnhkaaaGreatDoor
