/-
  Walks: CircleFresh.
-/
import Derived.Test.YthkmfboffnhkaaaGreatDoorWZ
import Derived.Test.YthkmfboffnhkaaaGreatDoorM6
set_option linter.all false
namespace Go.Proofs.YthkmfboffnhkaaaGreatDoor
attribute [local simp] agoralaw22_CircleFresh_R0 agoralaw22_CircleFresh_R1 agoralaw22_CircleFresh_R2 agoralaw22_CircleFresh_R3 agoralaw22_CircleFresh_R4 agoralaw22_CircleFresh_R5 agoralaw22_CircleFresh_R6 agoralaw22_CircleFresh_R7 agoralaw22_CircleFresh_R8 agoralaw22_CircleFresh_R9 agoralaw22_CircleFresh_R10 agoralaw22_CircleFresh_R11 agoralaw22_CircleFresh_R12 agoralaw22_CircleFresh_R13 agoralaw22_CircleFresh_R14 agoralaw22_CircleFresh_L agoralaw22_CircleFresh_ks
open Go Go.L1 Go.RowKit Go.Maps
set_option maxRecDepth 100000
set_option maxHeartbeats 4000000

def newAct (c : Chain) (n scope : Int) (group : Str) (to : List Str) (epoch kind : Int) : Act :=
  { author := c.id, seq := n, prev := [], kind := kind, time := 0, object := [], target := [], scope := scope, group := group, to := to, text := [], body := ⟨[], [], []⟩, epoch := epoch, wraps := [], n := 0, m := 0, sigE := 0, sigS := 0 }
/-- The chain with an activity put in after the first n. -/
def putIn (c : Chain) (n : Nat) (a : Act) (r : List Act) : Chain := { c with acts := c.acts.take n ++ a :: r }
theorem putIn_take (c : Chain) (n : Nat) (a : Act) (r : List Act) (hn : n ≤ c.acts.length) : c.acts.take n = (putIn c n a r).acts.take n := by
  show _ = (c.acts.take n ++ a :: r).take n
  rw [List.take_append_of_le_length (by simp [-getElem?_pos]; omega), List.take_take, Nat.min_self]
theorem putIn_get (c : Chain) (n : Nat) (a : Act) (r : List Act) (hn : n ≤ c.acts.length) : (putIn c n a r).acts[n]? = some a := by
  show (c.acts.take n ++ a :: r)[n]? = some a
  have : (c.acts.take n).length = n := by simp [-getElem?_pos]; omega
  rw [List.getElem?_append_right (by omega), this]
  simp [-getElem?_pos]
theorem well_putIn (dg : Act → Str) (c : Chain) (n : Nat) (r : List Act) (hn : n ≤ c.acts.length) (scope : Int) (group : Str) (to : List Str) (epoch kind : Int) :
    wellS dg (putIn c n (newAct c n scope group to epoch kind) r) n = ((isPosting kind || kind == 14) && decide (1 ≤ scope) && decide (scope ≤ 3) && !freshS dg c n scope group to && decide ((epochS c.acts n scope group).1 = epoch)) := by
  have ht := putIn_take c n (newAct c n scope group to epoch kind) r hn
  have hl : n ≤ (putIn c n (newAct c n scope group to epoch kind) r).acts.length := by
    show n ≤ (c.acts.take n ++ _ :: r).length
    simp [-getElem?_pos]; omega
  have h1 := epochS_congr (c := c) (d := putIn c n (newAct c n scope group to epoch kind) r) ht hn hl scope group
  have h2 := freshS_congr (dg := dg) (c := c) (d := putIn c n (newAct c n scope group to epoch kind) r) rfl ht hn hl scope group to
  have hg := putIn_get c n (newAct c n scope group to epoch kind) r hn
  simp only [wellS, Int.toNat_natCast, hg]
  rw [if_pos (by omega)]
  show (if ((isPosting kind || kind == 14) && decide (1 ≤ scope) && decide (scope ≤ 3)) = true then decide ((epochS (putIn c n (newAct c n scope group to epoch kind) r).acts n scope group).1 = epoch) && !freshS dg (putIn c n (newAct c n scope group to epoch kind) r) n scope group to else false) = _
  rw [← h1, ← h2]
  cases ((isPosting kind || kind == 14) && decide (1 ≤ scope) && decide (scope ≤ 3)) with
  | true => simp [-getElem?_pos, Bool.and_comm]
  | false => simp [-getElem?_pos]
theorem wellLend (d : Chain) (i : Int) (hc : ∀ a ∈ d.acts, a.Fits) (hl : d.acts.length ≤ 1000000000) {st : List SO} {id ep : Nat} (ho : st[id]? = some (.arr 49 20 ep (d.acts.map Act.cells))) :
    FnOK Tryz.prog GW 29 [.agg [.c (.str d.id), .own id ep, .c (.sl (d.keys.map KeyAt.cells)), .c (.str d.prev), .c (I d.gen), .c (.bool d.fork)], .c (I i)] st (.c (.bool (wellS digestS d i))) st :=
  FnOK.lend rfl (by simp [-getElem?_pos, viewV, viewC, ho, agg, Chain.cells]) (fun s => well_ok d i hc hl s)
theorem fresh22_ok (c : Chain) (n scope : Int) (group : Str) (to : List Str) (epoch kind : Int) (hc : chainFew c = true → ∀ a ∈ c.acts, a.Fits) (hl : c.acts.length ≤ 100000000)
    (hto : to.length ≤ 1000000000) (htw : ∀ k ∈ to, k.length ≤ 9223372036854775807) (hnew : to.length ≤ 8 → (newAct c n scope group to epoch kind).Fits) (s : List SO) :
    FnOK Tryz.prog GW 8 [agg c.cells, .c (I n), .c (I scope), .c (.str group), .c (texts to), .c (I epoch), .c (I kind)] s (.c (.bool true)) s := by
  refine agoralaw22_CircleFresh_F.pu { own := [(55, 49, 20)] } (by simp [-getElem?_pos]) rfl ?_
  simp (config := { maxSteps := 10000000 }) [-getElem?_pos, List.lookup, mixed, agg, Chain.cells]
  refine callW0 small22_ok rfl ?_
  simp (config := { maxSteps := 10000000 }) [-getElem?_pos, List.lookup, mixed, agg, Chain.cells]
  refine callW0 (short22_ok c (by omega)) rfl ?_
  simp (config := { maxSteps := 10000000 }) [-getElem?_pos, List.lookup, mixed, agg, Chain.cells, texts]
  refine exY_i (decide (8 < (to.length : Int))) ⟨fun _ => rfl, exY_i (decide (n < 0)) ⟨fun _ _ => rfl, exY_i (decide ((c.acts.length : Int) < n)) ⟨fun _ _ _ => rfl, fun hw h1 h2 h3 => ?_⟩⟩⟩
  simp only [decide_eq_false_iff_not] at h1 h2 h3
  obtain ⟨k, rfl⟩ := Int.eq_ofNat_of_zero_le (show 0 ≤ n by omega)
  have hk : k ≤ c.acts.length := by omega
  have hk' : k ≤ (c.acts.length : Nat) := hk
  replace hc := hc hw
  have ha := hnew (by omega)
  refine ⟨fun a _ => rfl, ?_⟩
  simp (config := { maxSteps := 10000000 }) [-getElem?_pos, List.lookup, mixed, agg, Chain.cells, texts, hk]
  refine ⟨fun z hz => ?_, by omega, by omega, by omega, by omega, ?_⟩
  · obtain ⟨a, -, rfl⟩ := List.mem_map.1 (List.mem_of_mem_take hz)
    rfl
  have hd : ∀ r, (∀ x ∈ r, x ∈ c.acts) → ∀ x ∈ (putIn c k (newAct c k scope group to epoch kind) r).acts, x.Fits := fun r hr x hx => by
    rcases List.mem_append.1 hx with hx | hx
    · exact hc x (List.mem_of_mem_take hx)
    · rcases List.mem_cons.1 hx with rfl | hx
      · exact ha
      · exact hc x (hr x hx)
  have hdl : ∀ r : List Act, r.length ≤ c.acts.length - k → (putIn c k (newAct c k scope group to epoch kind) r).acts.length ≤ 100000001 := fun r hr => by
    show (c.acts.take k ++ _ :: r).length ≤ _
    simp [-getElem?_pos]; omega
  refine callW1 (wellLend (putIn c k (newAct c k scope group to epoch kind) []) k (hd [] (by simp [-getElem?_pos])) (by have := hdl [] (by simp [-getElem?_pos]); omega) (by simp [-getElem?_pos, putIn, newAct, Act.cells, texts, I])) rfl ?_
  simp (config := { maxSteps := 10000000 }) [-getElem?_pos, List.lookup, mixed, agg, Chain.cells, texts, hk]
  refine callW0 (epoch_ok c k scope group hc (by omega)) rfl ?_
  simp (config := { maxSteps := 10000000 }) [-getElem?_pos, List.lookup, mixed, agg, Chain.cells, texts, hk]
  refine callW0 (fresh_ok c k scope group to hc (by omega) hto htw) rfl ?_
  simp (config := { maxSteps := 10000000 }) [-getElem?_pos, List.lookup, mixed, agg, Chain.cells, texts, hk]
  refine callW0 (posting_ok kind) rfl ?_
  rw [well_putIn digestS c k [] hk scope group to epoch kind]
  simp (config := { maxSteps := 10000000 }) [-getElem?_pos, List.lookup, mixed, agg, Chain.cells, texts, hk]
  have hF : (epochS c.acts k scope group).2.2 = false → freshS digestS c k scope group to = true := fun h => by unfold freshS; rw [h]; rfl
  have hW := well_putIn digestS c k (c.acts.drop k) hk scope group to epoch kind
  have hfa : ∀ x ∈ (putIn c k (newAct c k scope group to epoch kind) (c.acts.drop k)).acts, x.Fits := hd _ fun x hx => List.mem_of_mem_drop hx
  have hfl : (putIn c k (newAct c k scope group to epoch kind) (c.acts.drop k)).acts.length ≤ 1000000000 := by have := hdl (c.acts.drop k) (by simp [-getElem?_pos]); omega
  have hfs : (putIn c k (newAct c k scope group to epoch kind) (c.acts.drop k)).acts.length = k + 1 + (c.acts.length - k) := by
    show (c.acts.take k ++ _ :: c.acts.drop k).length = _
    simp [-getElem?_pos]; omega
  have hdr : List.drop k (List.take c.acts.length (List.map Act.cells c.acts)) = List.map Act.cells (c.acts.drop k) := by rw [List.take_of_length_le (by simp [-getElem?_pos]), List.map_drop]
  rw [hdr]
  generalize freshS digestS c k scope group to = F at hF hW ⊢
  generalize (epochS c.acts k scope group).1 = E at hW ⊢
  generalize (epochS c.acts k scope group).2.2 = ok at hF ⊢
  have hcells : ∀ a : Act, a.cells.length = 20 := fun a => rfl
  refine exY_i (kind == 14) ⟨fun _ => rfl, exY_i (decide (1 ≤ scope)) ⟨fun _ => rfl, exY_i (decide (scope ≤ 3)) ⟨fun _ _ => rfl, exY_i (!F) ⟨fun _ _ _ => by simp [-getElem?_pos], exY_i (E == epoch) ⟨fun _ _ _ _ => rfl, exY_i false ⟨fun _ => exY_i (!F) ⟨fun _ => by simp [-getElem?_pos], ?_⟩, ⟨rfl, rfl⟩, fun _ _ => ⟨fun a _ => rfl, ?_, by omega, by omega, ?_⟩⟩⟩⟩⟩⟩⟩
  · cases ok with
    | true => rfl
    | false => rw [hF rfl]; rfl
  · intro z hz
    obtain ⟨a, -, rfl⟩ := List.mem_map.1 hz
    rfl
  have hst : (s ++ [SO.arr 49 20 3 (List.take k (List.map Act.cells c.acts) ++ [C.str c.id, I k, C.str [], I kind, C.int .i64 0, C.str [], C.str [], I scope, C.str group, C.sl (List.map (fun s => [C.str s]) to),
      C.str [], C.str [], C.str [], C.str [], I epoch, C.sl [], C.int .i64 0, C.int .i64 0, C.int .i64 0, C.int .i64 0] :: List.map Act.cells (List.drop k c.acts))])[s.length]? =
      some (.arr 49 20 3 ((putIn c k (newAct c k scope group to epoch kind) (c.acts.drop k)).acts.map Act.cells)) := by simp [-getElem?_pos, putIn, newAct, Act.cells, texts, I]
  have hW2 : wellS digestS (putIn c k (newAct c k scope group to epoch kind) (c.acts.drop k)) (-1) = false := rfl
  have hW3 : wellS digestS (putIn c k (newAct c k scope group to epoch kind) (c.acts.drop k)) ((k : Int) + (((c.acts.length - k : Nat) : Int) + 1)) = false := by
    have hn : (putIn c k (newAct c k scope group to epoch kind) (c.acts.drop k)).acts[((k : Int) + (((c.acts.length - k : Nat) : Int) + 1)).toNat]? = none := by
      rw [List.getElem?_eq_none_iff, hfs]; omega
    simp only [wellS, hn]
    split <;> rfl
  generalize hD : putIn c k (newAct c k scope group to epoch kind) (c.acts.drop k) = D at hW hW2 hW3 hfa hfl hst
  have hid : D.id = c.id ∧ D.keys = c.keys ∧ D.prev = c.prev ∧ D.gen = c.gen ∧ D.fork = c.fork := by rw [← hD]; exact ⟨rfl, rfl, rfl, rfl, rfl⟩
  obtain ⟨i1, i2, i3, i4, i5⟩ := hid
  have w1 := wellLend D k hfa hfl hst
  have w2 := wellLend D (-1) hfa hfl hst
  have w3 := wellLend D ((k : Int) + (((c.acts.length - k : Nat) : Int) + 1)) hfa hfl hst
  rw [i1, i2, i3, i4, i5] at w1 w2 w3
  rw [hW] at w1
  rw [hW2] at w2
  rw [hW3] at w3
  refine exY_i true ⟨?_, exY_i true ⟨fun _ => ?_, exY_i true ⟨fun _ _ => ?_, by simp [-getElem?_pos]⟩⟩⟩
  · refine callW1 w1 rfl ?_
    simp (config := { maxSteps := 10000000 }) [-getElem?_pos, List.lookup, mixed, agg, Chain.cells, texts, hk]
  · refine callW1 w2 rfl ?_
    simp (config := { maxSteps := 10000000 }) [-getElem?_pos, List.lookup, mixed, agg, Chain.cells, texts, hk]
  · refine callW1 w3 rfl ?_
    simp (config := { maxSteps := 10000000 }) [-getElem?_pos, List.lookup, mixed, agg, Chain.cells, texts, hk]
end Go.Proofs.YthkmfboffnhkaaaGreatDoor
