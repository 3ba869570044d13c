/-
  Walks: reach.
-/
import Derived.Test.YthkmfboffnhkaaaGreatDoorRB
import Derived.Test.YthkmfboffnhkaaaGreatDoorWY
set_option linter.all false
namespace Go.Proofs.YthkmfboffnhkaaaGreatDoor
attribute [local simp] reach_Readers_R0 reach_Readers_R1 reach_Readers_R2 reach_Readers_R3 reach_Readers_R4 reach_Readers_R5 reach_Readers_R6 reach_Readers_B2 reach_Readers_R7 reach_Readers_R8 reach_Readers_R9 reach_Readers_R10 reach_Readers_R11 reach_Readers_B1 reach_Readers_G1 reach_Readers_B0 reach_Readers_R12 reach_Readers_L reach_Readers_ks
open Go Go.L1 Go.RowKit Go.Maps
set_option maxRecDepth 100000
set_option maxHeartbeats 4000000

theorem rndE_n {n : Nat} {I : List SO → Prop} {Q : Exit → Env → List SO → Prop} {e e2 : Env} {st : List SO} (st' extra : List SO) (h1 : st = st' ++ extra) (h2 : n ≤ st'.length) (h3 : StOk st → StOk st') (h4 : I st') :
    rndE n I Q e .normal e2 st := ⟨st', extra, h1, h2, h3, h4⟩
theorem rndE_r {n : Nat} {I : List SO → Prop} {Q : Exit → Env → List SO → Prop} {e e2 : Env} {st : List SO} (st' extra : List SO) (h1 : st = st' ++ extra) (h2 : n ≤ st'.length) (h3 : StOk st → StOk st') (h4 : Q .ret e st') :
    rndE n I Q e .ret e2 st := ⟨st', extra, h1, h2, h3, h4⟩
theorem endsS_i {cx : Cx} {rs : List ResultVar} {res : V} {st0 : List SO} {e : Env} {st : List SO} (extra : List SO) (h : st = st0 ++ extra) (hr : resAllS cx.P e st rs = some res) : EndsS cx rs res st0 .ret e st :=
  ⟨.inr rfl, ⟨extra, h⟩, hr⟩
theorem Act.Fits.toBig {a : Act} (h : a.Fits) : a.to.length ≤ tooBig := h.to
theorem members_le (c : Chain) (n scope : Int) (group : Str) (to : List Str) (hc : ∀ a ∈ c.acts, a.Fits) (hl : c.acts.length ≤ 100000000) (hto : to.length ≤ tooBig) : (membersS digestS c n scope group to).length ≤ 900000000 := by
  have h1 : (membersS digestS c n scope group to).length ≤ (fromS digestS c.acts n scope group to).length := Nat.le_trans (ascS_len _) (List.length_filter_le _ _)
  have h2 := (tiesN_le digestS c.acts (upTo n c.acts)).2
  have hM : upTo n c.acts ≤ c.acts.length := by unfold upTo; omega
  have h3 : (fromS digestS c.acts n scope group to).length ≤ 900000000 := by
    have hb : tooBig ≤ 900000000 := by unfold tooBig; omega
    unfold fromS
    split
    · simp only [tiesS, (sorted_perm _).length_eq]; omega
    · split
      · omega
      · split
        · rcases circN_in c.acts group (upTo n c.acts) with h | ⟨a, ha, h⟩
          · rw [h]; simp [-getElem?_pos]
          · rw [h]; have := (hc a ha).toBig; omega
        · simp [-getElem?_pos]
  omega
abbrev cV (c : Chain) : List V := [.c (.str c.id), .c (.sl (c.acts.map Act.cells)), .c (.sl (c.keys.map KeyAt.cells)), .c (.str c.prev), .c (I c.gen), .c (.bool c.fork)]
theorem readers_ok (c : Chain) (i : Int) (hc : ∀ a ∈ c.acts, a.Fits) (hl : c.acts.length ≤ 100000000) (s : List SO) :
    FnOK Tryz.prog GW 37 [agg c.cells, .c (I i)] s (.tup [.c (texts (readersS digestS c i).1), .c (.bool (readersS digestS c i).2)]) s := by
  refine reach_Readers_F.sto { esc := [2, 3, 4, 5], own := [(23, 9, 1)], frz := [(11, [8])] } (by simp [-getElem?_pos]) rfl id (Nat.le_refl _) ?_
  simp [-getElem?_pos, List.lookup, mixed, agg, Chain.cells]
  refine callW2 (texts_ok c _) rfl ?_
  simp [-getElem?_pos, List.lookup, mixed, agg, Chain.cells]
  refine rngM_intro (N := c.acts.length) [(2, .ptr s.length 0), (3, .ptr (s.length + 1) 0), (4, .ptr (s.length + 2) 0), (5, .ptr (s.length + 3) 0)]
    (fun k st' => st' = s ++ [SO.box (cV c), .box [.c (I i)], .box [.c (.sl [])], .box [.c (.bool false)], .box (cV c)] ∧ ∀ j : Nat, j < k → (j : Int) = i → wantT c j = false)
    (texts_iter c (by omega) (id := s.length + 4) (by simp [-getElem?_pos, Chain.cells])) (by simp [-getElem?_pos, getE, opnd, slotV]) (fun k _ => elsT_len c k) (by simp [-getElem?_pos]) rfl ⟨rfl, by omega⟩ ?_ ?_ ?_
  · rintro k st' hk hw ⟨rfl, h⟩
    refine ⟨rfl, fun j hj he => ?_⟩
    by_cases hjk : j = k
    · subst hjk; exact hw
    · exact h j (by omega) he
  · rintro k st' hk hw ⟨rfl, h⟩
    obtain ⟨a, ha⟩ := get_of_lt hk
    have hf := hc a (List.mem_of_getElem? ha)
    have ht : isText a.kind = true := by simpa [-getElem?_pos, wantT, ha] using hw
    have hel : elsT c k = [.c (I k), agg a.cells] := by simp only [elsT, ha]
    rw [hel]
    simp [-getElem?_pos, List.lookup, setE, mixed, agg, Act.cells]
    refine ⟨fun hne => rndE_n _ [] (List.append_nil _).symm (by simp [-getElem?_pos]) id ⟨rfl, fun j hj he => ?_⟩, fun hki => ?_⟩
    · by_cases hjk : j = k
      · exact absurd (hjk ▸ he) hne
      · exact h j (by omega) he
    · subst hki
      refine ⟨fun hs0 => rndE_r _ [] (List.append_nil _).symm (by simp [-getElem?_pos]) id (endsS_i _ rfl ?_), fun hs0 => ?_⟩
      · rw [readersS_other c k a ha (.inr hs0), ht]
        simp [-getElem?_pos, resAllS, resVsS, resOneS, getE, texts, plainV]
      · refine callW0 (well_ok c k hc (by omega)) rfl ?_
        have hrd : readersS digestS c k = (if wellS digestS c k = true then sorted (c.id :: membersS digestS c k a.scope a.group a.to) else [c.id], true) := by
          simp only [readersS, Int.toNat_natCast, ha]
          rw [if_pos (by omega), if_pos ht, if_neg hs0]
        rw [hrd]
        simp [-getElem?_pos, List.lookup, mixed, agg, Act.cells]
        refine ⟨fun hwl => ?_, fun hwl => rndE_r _ [] (List.append_nil _).symm (by simp [-getElem?_pos]) id (endsS_i _ rfl ?_)⟩
        · refine callW0 (members_ok c k a.scope a.group a.to hc (by omega) hf.toLe hf.toWf) rfl ?_
          rw [if_pos hwl]
          generalize hms : membersS digestS c k a.scope a.group a.to = ms
          have hml : ms.length ≤ 900000000 := by rw [← hms]; exact members_le c k a.scope a.group a.to hc hl hf.toBig
          simp [-getElem?_pos, List.lookup, mixed, agg, Act.cells, texts]
          refine ⟨by omega, by omega, ?_⟩
          refine callW2 (sortOwn_ok (c.id :: ms) (by simp [-getElem?_pos]; omega) (id := s.length + 5) (ep := 1) (by simp [-getElem?_pos, strs])) rfl ?_
          simp [-getElem?_pos, List.lookup, mixed, agg, Act.cells, texts]
          refine rndE_r _ [] (List.append_nil _).symm (by simp [-getElem?_pos]) id (endsS_i _ rfl ?_)
          simp [-getElem?_pos, resAllS, resVsS, resOneS, getE, plainV, strs]
        · rw [if_neg (by rw [hwl]; simp [-getElem?_pos])]
          simp [-getElem?_pos, resAllS, resVsS, resOneS, getE, texts, plainV]
  · rintro st' ⟨rfl, h⟩
    simp [-getElem?_pos, List.lookup, mixed]
    refine endsS_i _ rfl ?_
    have hrd : readersS digestS c i = ([], true) := by
      by_cases h0 : i < 0 ∨ (c.acts.length : Int) ≤ i
      · exact readersS_none c i h0
      · obtain ⟨k, rfl⟩ := Int.eq_ofNat_of_zero_le (show 0 ≤ i by omega)
        obtain ⟨a, ha⟩ := get_of_lt (show k < c.acts.length by omega)
        have hw := h k (by omega) rfl
        simp only [wantT, ha] at hw
        rw [readersS_other c k a ha (.inl hw), hw]
        rfl
    rw [hrd]
    simp [-getElem?_pos, resAllS, resVsS, resOneS, getE, texts, plainV]
end Go.Proofs.YthkmfboffnhkaaaGreatDoor
