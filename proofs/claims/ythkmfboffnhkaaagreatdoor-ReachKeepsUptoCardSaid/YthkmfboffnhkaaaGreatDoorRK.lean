/-
  Walks: ReachKeeps.
-/
import Derived.Test.YthkmfboffnhkaaaGreatDoorRI
import Derived.Test.YthkmfboffnhkaaaGreatDoorRE
set_option linter.all false
namespace Go.Proofs.YthkmfboffnhkaaaGreatDoor
attribute [local simp] agoralaw25_ReachKeeps_R0 agoralaw25_ReachKeeps_R1 agoralaw25_ReachKeeps_R2 agoralaw25_ReachKeeps_R3 agoralaw25_ReachKeeps_R4 agoralaw25_ReachKeeps_R5 agoralaw25_ReachKeeps_R6 agoralaw25_ReachKeeps_R7 agoralaw25_ReachKeeps_R8 agoralaw25_ReachKeeps_R9 agoralaw25_ReachKeeps_R10 agoralaw25_ReachKeeps_R11 agoralaw25_ReachKeeps_L agoralaw25_ReachKeeps_ks
open Go Go.L1 Go.RowKit Go.Maps
set_option maxRecDepth 100000
set_option maxHeartbeats 10000000

theorem cutC_id (c : Chain) (n : Int) : (cutC c n).id = c.id := by
  unfold cutC
  split
  · rfl
  · split <;> rfl
theorem cutC_acts (c : Chain) (n : Int) (h1 : 1 ≤ n) (h2 : n ≤ c.acts.length) : (cutC c n).acts = c.acts.take n.toNat := by
  unfold cutC
  rw [if_neg (by omega)]
  split
  · rfl
  · next h =>
    rw [List.getElem?_eq_none_iff] at h
    rw [List.take_of_length_le h]
theorem same25_refl (l : List Str) : eqL strEq l l = true := by
  rw [eqLg_iff fun x y => strEq_iff]
theorem keeps25_ok (c : Chain) (i n : Int) (r : Str) (others : List Act) (hc : chainFew c = true → ∀ a ∈ c.acts, a.Fits) (hl : c.acts.length ≤ 1000000000) (hkl : c.keys.length ≤ 1000000000)
    (ho : others.length ≤ tooBig) (hof : others.all actFew = true → ∀ a ∈ others, a.Fits) (s : List SO) :
    FnOK Tryz.prog GW 12 [agg c.cells, .c (I i), .c (I n), .c (.str r), .c (.sl (others.map Act.cells))] s (.c (.bool true)) s := by
  have big : tooBig = 1048576 := rfl
  refine agoralaw25_ReachKeeps_F.pu { own := [(52, 49, 20)], frz := [(7, [1261])] } (by simp [-getElem?_pos]) rfl ?_
  simp (config := { maxSteps := 10000000 }) [-getElem?_pos, List.lookup, mixed, agg, Chain.cells]
  refine callW0 small25_ok rfl ?_
  simp (config := { maxSteps := 10000000 }) [-getElem?_pos, List.lookup, mixed, agg, Chain.cells]
  refine callW0 (short25_ok c) rfl ?_
  simp (config := { maxSteps := 10000000 }) [-getElem?_pos, List.lookup, mixed, agg, Chain.cells]
  have hoc : ∀ s, FnOK Tryz.prog GW 36 [agg (⟨[], others, [], [], 0, false⟩ : Chain).cells] s (.c (.bool (chainFew ⟨[], others, [], [], 0, false⟩))) s := short25_ok _
  refine exY_i (!chainFew ⟨[], others, [], [], 0, false⟩) ⟨fun _ => ?_, exY_i (decide (i < 0)) ⟨fun _ _ => rfl, exY_i (decide (n ≤ i)) ⟨fun _ _ _ => rfl, exY_i (decide ((c.acts.length : Int) < n)) ⟨fun _ _ _ _ => rfl, fun hw h1 h2 h3 h4 => ?_⟩⟩⟩⟩
  · refine callW0 hoc rfl ?_
    simp (config := { maxSteps := 10000000 }) [-getElem?_pos, List.lookup, mixed]
  replace hc := hc hw
  have hof2 : ∀ a ∈ others, a.Fits := hof (by
    have : chainFew ⟨[], others, [], [], 0, false⟩ = true := by simpa [-getElem?_pos] using h1
    simp only [chainFew, Bool.and_eq_true] at this
    exact this.2)
  simp only [decide_eq_false_iff_not] at h2 h3 h4
  have h24 : c.acts.length ≤ 24 := by
    simp only [chainFew, Bool.and_eq_true, decide_eq_true_eq] at hw
    exact hw.1
  obtain ⟨k, rfl⟩ := Int.eq_ofNat_of_zero_le (show 0 ≤ i by omega)
  obtain ⟨N, rfl⟩ := Int.eq_ofNat_of_zero_le (show 0 ≤ n by omega)
  have hkN : k < N := by omega
  have hN : N ≤ c.acts.length := by omega
  refine callW0 (cut_ok c N (by omega) hkl) rfl ?_
  have hid := cutC_id c (N : Int)
  have hac := cutC_acts c (N : Int) (by omega) (by omega)
  rw [Int.toNat_natCast] at hac
  generalize cutC c (N : Int) = d at hid hac ⊢
  have hdf : ∀ a ∈ d.acts, a.Fits := fun a ha => hc a (List.mem_of_mem_take (by rw [← hac]; exact ha))
  have hdl : d.acts.length = N := by rw [hac]; simp [-getElem?_pos]; omega
  obtain ⟨e, he⟩ : ∃ e : Chain, e = ⟨d.id, d.acts ++ others, d.keys, d.prev, d.gen, d.fork⟩ := ⟨_, rfl⟩
  have hef : ∀ a ∈ e.acts, a.Fits := fun a ha => by
    rw [he] at ha
    rcases List.mem_append.1 ha with h | h
    · exact hdf a h
    · exact hof2 a h
  have hel : e.acts.length = N + others.length := by rw [he]; simp [-getElem?_pos, hdl]
  have rd : readersS digestS d k = readersS digestS c k := readersS_congr (n := N) (by rw [hid]) (by rw [hac, List.take_take, Nat.min_self]) (by omega) hN hkN
  have re : readersS digestS e k = readersS digestS c k := readersS_congr (n := N) (by rw [he]; exact hid) (by
    rw [he]
    show (d.acts ++ others).take N = _
    rw [List.take_append_of_le_length (by omega), hac, List.take_take, Nat.min_self]) (by omega) hN hkN
  have md : mayS digestS d k r = mayS digestS c k r := by unfold mayS; rw [rd]
  have me : mayS digestS e k r = mayS digestS c k r := by unfold mayS; rw [re]
  simp (config := { maxSteps := 10000000 }) [-getElem?_pos, List.lookup, mixed, agg, Chain.cells]
  have hrc : ∀ s, FnOK Tryz.prog GW 37 [agg c.cells, .c (I k)] s (.tup [.c (texts (readersS digestS c k).1), .c (.bool (readersS digestS c k).2)]) s := readers_ok c k hc (by omega)
  have hrd : ∀ s, FnOK Tryz.prog GW 37 [agg d.cells, .c (I k)] s (.tup [.c (texts (readersS digestS c k).1), .c (.bool (readersS digestS c k).2)]) s := fun s => rd ▸ readers_ok d k hdf (by omega) s
  have hre : ∀ s, FnOK Tryz.prog GW 37 [agg (⟨d.id, d.acts ++ others, d.keys, d.prev, d.gen, d.fork⟩ : Chain).cells, .c (I k)] s (.tup [.c (texts (readersS digestS c k).1), .c (.bool (readersS digestS c k).2)]) s := fun s => by
    have := readers_ok e k hef (by omega) s
    rw [re, he] at this
    exact this
  have hmc : ∀ s, FnOK Tryz.prog GW 38 [agg c.cells, .c (I k), .c (.str r)] s (.c (.bool (mayS digestS c k r))) s := may_ok c k r hc (by omega)
  have hmd : ∀ s, FnOK Tryz.prog GW 38 [agg d.cells, .c (I k), .c (.str r)] s (.c (.bool (mayS digestS c k r))) s := fun s => md ▸ may_ok d k r hdf (by omega) s
  have hme : ∀ s, FnOK Tryz.prog GW 38 [agg (⟨d.id, d.acts ++ others, d.keys, d.prev, d.gen, d.fork⟩ : Chain).cells, .c (I k), .c (.str r)] s (.c (.bool (mayS digestS c k r))) s := fun s => by
    have := may_ok e k r hef (by omega) s
    rw [me, he] at this
    exact this
  have hsm : ∀ s, FnOK Tryz.prog GW 34 [.c (texts (readersS digestS c k).1), .c (texts (readersS digestS c k).1)] s (.c (.bool true)) s := fun s => by
    have hrl := readers_len c k hc (by omega)
    have := sameS_ok (readersS digestS c k).1 (readersS digestS c k).1 (by omega) s
    rw [same25_refl] at this
    exact this
  refine ⟨fun a _ => rfl, by omega, by omega, fun a _ => rfl, by omega, by omega, ?_⟩
  generalize readersS digestS c k = R at hrc hrd hre hsm
  generalize mayS digestS c k r = M at hmc hmd hme
  have hme2 : ∀ s, FnOK Tryz.prog GW 38 [.agg [.c (.str d.id), .c (.sl (d.acts.map Act.cells ++ others.map Act.cells)), .c (.sl (d.keys.map KeyAt.cells)), .c (.str d.prev), .c (I d.gen), .c (.bool d.fork)], .c (I k), .c (.str r)] s (.c (.bool M)) s := fun s => by
    have := hme s
    simp only [agg, Chain.cells, List.map_append, List.map_cons, List.map_nil] at this
    exact this
  refine callW0 hrc rfl ?_
  simp (config := { maxSteps := 10000000 }) [-getElem?_pos, List.lookup, mixed, agg, Chain.cells]
  refine callW0 hrd rfl ?_
  simp (config := { maxSteps := 10000000 }) [-getElem?_pos, List.lookup, mixed, agg, Chain.cells]
  rw [← List.map_append]
  refine callW0 hre rfl ?_
  simp (config := { maxSteps := 10000000 }) [-getElem?_pos, List.lookup, mixed, agg, Chain.cells]
  refine callW0 hmc rfl ?_
  simp (config := { maxSteps := 10000000 }) [-getElem?_pos, List.lookup, mixed, agg, Chain.cells]
  refine exY_i true ⟨rfl, exY_i true ⟨fun _ => rfl, exY_i true ⟨fun _ _ => ?_, exY_i true ⟨fun _ _ _ => ?_, exY_i true ⟨fun _ _ _ _ => ?_, exY_i true ⟨fun _ _ _ _ _ => ?_, by simp [-getElem?_pos]⟩⟩⟩⟩⟩⟩
  · refine callW0 hsm rfl ?_
    simp (config := { maxSteps := 10000000 }) [-getElem?_pos, List.lookup, mixed]
  · refine callW0 hsm rfl ?_
    simp (config := { maxSteps := 10000000 }) [-getElem?_pos, List.lookup, mixed]
  · refine callW0 hmd rfl ?_
    simp (config := { maxSteps := 10000000 }) [-getElem?_pos, List.lookup, mixed]
  · refine callW0 hme2 rfl ?_
    simp (config := { maxSteps := 10000000 }) [-getElem?_pos, List.lookup, mixed]
end Go.Proofs.YthkmfboffnhkaaaGreatDoor
