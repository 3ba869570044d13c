/-
  Walks: chain.Cut.
-/
import Derived.Test.YthkmfboffnhkaaaGreatDoorTR
import Derived.Test.YthkmfboffnhkaaaGreatDoorWF
import Derived.Test.YthkmfboffnhkaaaGreatDoorPL
set_option linter.all false
namespace Go.Proofs.YthkmfboffnhkaaaGreatDoor
attribute [local simp] chain_Cut_R0 chain_Cut_R1 chain_Cut_R2 chain_Cut_R3 chain_Cut_R4 chain_Cut_B0 chain_Cut_R5 chain_Cut_R6 chain_Cut_R7 chain_Cut_R8 chain_Cut_R9 chain_Cut_R10 chain_Cut_R11 chain_Cut_B2 chain_Cut_R12 chain_Cut_W1 chain_Cut_B1 chain_Cut_R13 chain_Cut_R14 chain_Cut_R15 chain_Cut_R16 chain_Cut_R17 chain_Cut_B4 chain_Cut_R18 chain_Cut_W2 chain_Cut_B3 chain_Cut_R19 chain_Cut_R20 chain_Cut_L chain_Cut_ks
open Go Go.L1 Go.RowKit Go.Maps
set_option maxRecDepth 100000
set_option maxHeartbeats 4000000

def cutKeys (ks : List KeyAt) (n : Int) (i : Nat) : List KeyAt := (ks.take i).filter fun k => decide (k.from_ ≤ n)
def cutG (ks : List KeyAt) (n : Int) : Nat → Int
  | 0 => -1
  | i + 1 => match ks[i]? with
    | some k => if k.from_ ≤ n then IntKind.i64.wrap (cutG ks n i + 1) else cutG ks n i
    | none => cutG ks n i
def cutM (acts : List Act) (g : Int) : Nat → Int
  | 0 => g
  | i + 1 => match acts[i]? with
    | some a => if a.kind = 18 then IntKind.i64.wrap (cutM acts g i - 1) else cutM acts g i
    | none => cutM acts g i
def cutD (c : Chain) (n : Int) (a : Act) : Chain :=
  { id := c.id, acts := c.acts.take n.toNat, keys := cutKeys c.keys n c.keys.length, prev := a.prev, gen := max (cutM (c.acts.take n.toNat) (cutG c.keys n c.keys.length) (c.acts.take n.toNat).length) 0, fork := false }
def cutC (c : Chain) (n : Int) : Chain :=
  if n < 1 then ⟨c.id, [], [], [], 0, false⟩ else match c.acts[n.toNat]? with
    | some a => cutD c n a
    | none => c
theorem cutKeys_succ {ks : List KeyAt} {i : Nat} {k : KeyAt} (h : ks[i]? = some k) (n : Int) : cutKeys ks n (i + 1) = cutKeys ks n i ++ if k.from_ ≤ n then [k] else [] := by
  unfold cutKeys
  rw [List.take_add_one, h, List.filter_append]
  congr 1
  by_cases hk : k.from_ ≤ n <;> simp [-getElem?_pos, hk]
theorem cutKeys_len (ks : List KeyAt) (n : Int) (i : Nat) : (cutKeys ks n i).length ≤ i := Nat.le_trans (List.length_filter_le _ _) (by simp [-getElem?_pos]; omega)
theorem cut_ok (c : Chain) (n : Int) (hl : c.acts.length ≤ 1000000000) (hk : c.keys.length ≤ 1000000000) (s : List SO) :
    FnOK Tryz.prog GW 43 [agg c.cells, .c (I n)] s (agg (cutC c n).cells) s := by
  refine chain_Cut_F.pu { ofl := [(36, 2, 133, 3)], frz := [(20, [1102])] } (by simp [-getElem?_pos]) rfl ?_
  simp (config := { maxSteps := 10000000 }) [-getElem?_pos, List.lookup, mixed, agg, Chain.cells]
  refine ⟨fun h => ?_, fun h => ⟨fun h2 => ?_, fun h2 => ?_⟩⟩
  · have he : cutC c n = ⟨c.id, [], [], [], 0, false⟩ := by unfold cutC; rw [if_pos h]
    rw [he]
    simp [-getElem?_pos]
  · have he : cutC c n = c := by
      unfold cutC
      rw [if_neg (by omega), List.getElem?_eq_none (by omega)]
    rw [he]
    simp [-getElem?_pos]
  · obtain ⟨k, rfl⟩ := Int.eq_ofNat_of_zero_le (show 0 ≤ n by omega)
    obtain ⟨a, ha⟩ := get_of_lt (show k < c.acts.length by omega)
    have he : cutC c k = cutD c k a := by
      unfold cutC
      rw [if_neg (by omega), Int.toNat_natCast, ha]
    have hk0 : (0 : Int) ≤ (k : Int) := by omega
    have hkl : k ≤ c.acts.length := by omega
    rw [he]
    refine ⟨fun a _ => rfl, ?_⟩
    simp (config := { maxSteps := 10000000 }) [-getElem?_pos, List.lookup, mixed, agg, Chain.cells, ha, hk0, hkl, Act.cells]
    have hbox : ∀ (ep : Nat) (g : Int), V.box [.c (.str c.id), .c (.sl (List.take k (List.map Act.cells c.acts))), .own s.length ep, .c (.str a.prev), .c (I g), .c (.bool false)] = V.box [.c (.str c.id), .c (.sl ((c.acts.take k).map Act.cells)), .own s.length ep, .c (.str a.prev), .c (I g), .c (.bool false)] := fun ep g => by rw [List.map_take]
    refine loopM_intro (fun m e st => ∃ (i ep : Nat), m = c.keys.length - i ∧ i ≤ c.keys.length ∧ st = s ++ [SO.arr 133 3 ep ((cutKeys c.keys k i).map KeyAt.cells)] ∧
      e = [(40, .c (I i)), (39, .c (I c.keys.length)), (38, .c (.sl (c.keys.map KeyAt.cells))),
        (5, .box [.c (.str c.id), .c (.sl (List.take k (List.map Act.cells c.acts))), .own s.length ep, .c (.str a.prev), .c (I (cutG c.keys k i)), .c (.bool false)]),
        (4, .box [.c (.str []), .c (.sl []), .c (.sl []), .c (.str []), .c (I 0), .c (.bool false)]), (1, .c (I k))]) c.keys.length _ ?_ ⟨0, 0, rfl, Nat.zero_le _, rfl, rfl⟩ ?_
    · simp [-getElem?_pos, cutG]
    rintro m e st ⟨i, ep, rfl, hi, rfl, rfl⟩
    have hkn := cutKeys_len c.keys k i
    by_cases hil : i < c.keys.length
    · obtain ⟨x, hx⟩ := get_of_lt hil
      have hw := wrap_succ hil (by omega)
      have hs := cutKeys_succ hx (k : Int)
      have hg : cutG c.keys k (i + 1) = if x.from_ ≤ (k : Int) then IntKind.i64.wrap (cutG c.keys k i + 1) else cutG c.keys k i := by simp only [cutG, hx]
      simp (config := { maxSteps := 10000000 }) [-getElem?_pos, List.lookup, mixed, hil, hx, KeyAt.cells]
      refine ⟨fun hf => ⟨by omega, by omega, againM_i _ _ ?_ ?_ ⟨i + 1, ep + 1, rfl, hil, by rw [hs, if_pos hf]; simp [-getElem?_pos, KeyAt.cells], rfl⟩⟩, fun hf => againM_i _ _ ?_ ?_ ⟨i + 1, ep, rfl, hil, by rw [hs, if_neg (by omega)]; simp [-getElem?_pos], rfl⟩⟩
      · omega
      · rw [hg, if_pos hf]; simp [-getElem?_pos, hw]
      · omega
      · rw [hg, if_neg (by omega)]; simp [-getElem?_pos, hw]
    · have hie : i = c.keys.length := by omega
      subst hie
      simp (config := { maxSteps := 10000000 }) [-getElem?_pos, List.lookup, mixed, hkl]
      refine loopM_intro (fun m e st => ∃ (i : Nat), m = k - i ∧ i ≤ k ∧ st = s ++ [SO.arr 133 3 ep ((cutKeys c.keys k c.keys.length).map KeyAt.cells)] ∧
        e = [(62, .c (I i)), (61, .c (I k)), (60, .c (.sl (List.take k (List.map Act.cells c.acts)))),
          (5, .box [.c (.str c.id), .c (.sl (List.take k (List.map Act.cells c.acts))), .own s.length ep, .c (.str a.prev), .c (I (cutM (c.acts.take k) (cutG c.keys k c.keys.length) i)), .c (.bool false)]),
          (4, .box [.c (.str []), .c (.sl []), .c (.sl []), .c (.str []), .c (I 0), .c (.bool false)])]) k _ ?_ ⟨0, rfl, Nat.zero_le _, rfl, rfl⟩ ?_
      · simp [-getElem?_pos, cutM]
      rintro m e st ⟨i, rfl, hi, rfl, rfl⟩
      by_cases hil : i < k
      · obtain ⟨x, hx⟩ := get_of_lt (show i < c.acts.length by omega)
        have hw := wrap_succ hil (by omega)
        have hxt : (c.acts.take k)[i]? = some x := by rw [List.getElem?_take_of_lt hil]; exact hx
        have hxm : (List.take k (List.map Act.cells c.acts))[i]? = some x.cells := by rw [List.getElem?_take_of_lt hil, List.getElem?_map, hx]; rfl
        have hg : cutM (c.acts.take k) (cutG c.keys k c.keys.length) (i + 1) = if x.kind = 18 then IntKind.i64.wrap (cutM (c.acts.take k) (cutG c.keys k c.keys.length) i - 1) else cutM (c.acts.take k) (cutG c.keys k c.keys.length) i := by simp only [cutM, hxt]
        simp (config := { maxSteps := 10000000 }) [-getElem?_pos, List.lookup, mixed, hil, hxm, Act.cells]
        refine ⟨fun hf => againM_i _ _ ?_ ?_ ⟨i + 1, rfl, hil, rfl, rfl⟩, fun hf => againM_i _ _ ?_ ?_ ⟨i + 1, rfl, hil, rfl, rfl⟩⟩
        · omega
        · rw [hg, if_pos hf]; simp [-getElem?_pos, hw]
        · omega
        · rw [hg, if_neg hf]; simp [-getElem?_pos, hw]
      · have hie : i = k := by omega
        subst hie
        simp (config := { maxSteps := 10000000 }) [-getElem?_pos, List.lookup, mixed]
        have hlen : (List.take i c.acts).length = i := by simp [-getElem?_pos]; omega
        simp only [agg, Chain.cells, cutD, Int.toNat_natCast, hlen, List.map_cons, List.map_nil]
        rw [List.map_take]
        have hmx : ∀ x : Int, (if x < 0 then (0 : Int) else x) = max x 0 := fun x => by split <;> omega
        rw [hmx]
end Go.Proofs.YthkmfboffnhkaaaGreatDoor
