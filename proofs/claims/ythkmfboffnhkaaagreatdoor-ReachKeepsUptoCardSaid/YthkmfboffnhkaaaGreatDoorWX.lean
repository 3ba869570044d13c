/-
  Walks: relation.Of, circle.
-/
import Derived.Test.YthkmfboffnhkaaaGreatDoorWU
set_option linter.all false
namespace Go.Proofs.YthkmfboffnhkaaaGreatDoor
attribute [local simp] relation_Of_R0 relation_Of_R1 relation_Of_R2 relation_Of_R3 relation_Of_R4 relation_Of_R5 relation_Of_B1 relation_Of_R6 relation_Of_W1 relation_Of_B0 relation_Of_R7 relation_Of_L relation_Of_ks circle_Members_R0 circle_Members_R1 circle_Members_R2 circle_Members_R3 circle_Members_R4 circle_Members_R5 circle_Members_R6 circle_Members_R7 circle_Members_R8 circle_Members_R9 circle_Members_R10 circle_Members_R11 circle_Members_R12 circle_Members_R13 circle_Members_R14 circle_Members_B2 circle_Members_R15 circle_Members_W1 circle_Members_B1 circle_Members_B0 circle_Members_R16 circle_Members_R17 circle_Members_R18 circle_Members_L circle_Members_ks
open Go Go.L1 Go.RowKit Go.Maps
set_option maxRecDepth 100000
set_option maxHeartbeats 4000000

/-- Everything in the sets is some activity's target. -/
def TieS.In (t : TieS) (p : Str → Prop) : Prop := ∀ x, (x ∈ t.follows ∨ x ∈ t.accepts ∨ x ∈ t.blocks ∨ x ∈ t.mutes) → p x
theorem addSet_in {l : List Str} {x y : Str} (h : y ∈ addSet l x) : y ∈ l ∨ y = x := by
  unfold addSet at h
  split at h
  · exact .inl h
  · simpa [-getElem?_pos] using h
theorem remS_in {l : List Str} {x y : Str} (h : y ∈ remS l x) : y ∈ l := List.mem_of_mem_eraseP h
theorem undoS_in {t : TieS} {p : Str → Prop} (h : t.In p) (a : Act) : (undoS t a).In p := by
  intro x hx
  apply h x
  unfold undoS at hx
  split at hx
  · exact hx.imp remS_in id
  · split at hx
    · exact hx.imp id (.imp remS_in id)
    · split at hx
      · exact hx.imp id (.imp id (.imp remS_in id))
      · split at hx
        · exact hx.imp id (.imp id (.imp id remS_in))
        · exact hx
theorem applyS_in {dg : Act → Str} {acts : List Act} {i : Nat} {a : Act} {t : TieS} {p : Str → Prop} (h : t.In p) (ha : p a.target) : (applyS dg acts i a t).In p := by
  have hu : ∀ b, (undoS t b).In p := undoS_in h
  have q : ∀ {l : List Str} {x : Str}, x ∈ addSet l a.target → (x ∈ l → p x) → p x := fun hx hl => (addSet_in hx).elim hl fun e => e ▸ ha
  unfold applyS
  split
  · intro x hx; rcases hx with hx | hx
    · exact q hx fun hx => h x (.inl hx)
    · exact h x (.inr hx)
  · split
    · intro x hx; rcases hx with hx | hx | hx
      · exact h x (.inl hx)
      · exact q hx fun hx => h x (.inr (.inl hx))
      · exact h x (.inr (.inr hx))
    · split
      · intro x hx; exact h x (hx.imp id (.imp remS_in id))
      · split
        · intro x hx; rcases hx with hx | hx | hx | hx
          · exact h x (.inl (remS_in hx))
          · exact h x (.inr (.inl (remS_in hx)))
          · exact q hx fun hx => h x (.inr (.inr (.inl hx)))
          · exact h x (.inr (.inr (.inr hx)))
        · split
          · intro x hx; rcases hx with hx | hx | hx | hx
            · exact h x (.inl hx)
            · exact h x (.inr (.inl hx))
            · exact h x (.inr (.inr (.inl hx)))
            · exact q hx fun hx => h x (.inr (.inr (.inr hx)))
          · split
            · split
              · split
                · split
                  · exact hu _
                  · exact h
                · exact h
              · exact h
            · exact h
theorem tiesN_in (dg : Act → Str) {acts : List Act} {p : Str → Prop} (h : ∀ a ∈ acts, p a.target) : ∀ n, (tiesN dg acts n).In p
  | 0 => by intro x hx; simp [-getElem?_pos, tiesN] at hx
  | n + 1 => by
    simp only [tiesN]
    split
    · next a ha => exact applyS_in (tiesN_in dg h n) (h a (List.mem_of_getElem? ha))
    · exact tiesN_in dg h n
theorem target_wf {c : Chain} (hc : ∀ a ∈ c.acts, a.Fits) : ∀ a ∈ c.acts, a.target.length ≤ 9223372036854775807 := fun a ha => by
  have := (hc a ha).target
  unfold tooBig at this
  omega
def tieC (t : TieS) : List C := [texts t.follows, texts t.accepts, texts t.blocks, texts t.mutes]
theorem relOf_ok (c : Chain) (n : Int) (hc : ∀ a ∈ c.acts, a.Fits) (hl : c.acts.length ≤ 1000000000) (s : List SO) :
    FnOK Tryz.prog GW 39 [agg c.cells, .c (I n)] s (agg (tieC (tiesS digestS c.acts n))) s := by
  refine relation_Of_F.pu {} (by simp [-getElem?_pos]) rfl ?_
  have hN : (if (c.acts.length : Int) < (if n < 0 then 0 else n) then (c.acts.length : Int) else if n < 0 then 0 else n) = (upTo n c.acts : Nat) := by unfold upTo; repeat' split <;> omega
  have hM : upTo n c.acts ≤ c.acts.length := by unfold upTo; omega
  simp [-getElem?_pos, List.lookup, mixed, agg, Chain.cells]
  have hT : tiesS digestS c.acts n = ⟨sorted (tiesN digestS c.acts (upTo n c.acts)).follows, sorted (tiesN digestS c.acts (upTo n c.acts)).accepts, sorted (tiesN digestS c.acts (upTo n c.acts)).blocks, sorted (tiesN digestS c.acts (upTo n c.acts)).mutes⟩ := rfl
  rw [hT]
  generalize hNN : upTo n c.acts = N at hM hN
  refine loopM_intro (fun m e st => ∃ i : Nat, m = N - i ∧ i ≤ N ∧ st = s ++ setsO (tiesN digestS c.acts i) ∧
    e = [(18, .c (I i)), (17, .c (I N)), (5, .box [.mref s.length, .mref (s.length + 1), .mref (s.length + 2), .mref (s.length + 3)]), (4, .box [.c (.sl []), .c (.sl []), .c (.sl []), .c (.sl [])]),
      (2, .box [.c (.str c.id), .c (.sl (c.acts.map Act.cells)), .c (.sl (c.keys.map KeyAt.cells)), .c (.str c.prev), .c (I c.gen), .c (.bool c.fork)])]) N _ ?_ ⟨0, rfl, Nat.zero_le _, rfl, rfl⟩ ?_
  · simp [-getElem?_pos, hN]
  rintro m e st ⟨i, rfl, hi, rfl, rfl⟩
  by_cases h : i < N
  · obtain ⟨a, ha⟩ := get_of_lt (show i < c.acts.length by omega)
    have hw := wrap_succ h (by omega)
    simp [-getElem?_pos, List.lookup, mixed, h]
    refine callW2 (apply_ok c i a ha hc hl (tiesN digestS c.acts i) s) rfl ?_
    have hn : applyS digestS c.acts i a (tiesN digestS c.acts i) = tiesN digestS c.acts (i + 1) := by simp only [tiesN, ha]
    rw [hn]
    simp [-getElem?_pos, List.lookup, mixed, hw]
    refine againM_i _ _ ?_ ?_ ⟨i + 1, rfl, h, rfl, rfl⟩
    · omega
    · simp [-getElem?_pos]
  · have he : i = N := by omega
    subst he
    have hnd := tiesN_nodup digestS c.acts i
    have hle := tiesN_le digestS c.acts i
    have hwf : ∀ x, (x ∈ (tiesN digestS c.acts i).follows ∨ x ∈ (tiesN digestS c.acts i).accepts ∨ x ∈ (tiesN digestS c.acts i).blocks ∨ x ∈ (tiesN digestS c.acts i).mutes) → x.length ≤ 9223372036854775807 := tiesN_in digestS (p := fun x => x.length ≤ 9223372036854775807) (target_wf hc) i
    generalize tiesN digestS c.acts i = t at hnd hle hwf ⊢
    have f1 := hle.1; have f2 := hle.2; have f3 := hle.3; have f4 := hle.4
    simp [-getElem?_pos, List.lookup, mixed]
    have k0 := setList_ok (st := s ++ setsO t) (id := s.length) (l := t.follows) (by simp [-getElem?_pos, setsO]) hnd.1 (fun x hx => hwf x (.inl hx)) (by omega)
    refine callW1 (res := .c (texts (sorted t.follows))) k0 rfl ?_
    simp [-getElem?_pos, List.lookup, mixed]
    have k1 := setList_ok (st := s ++ setsO t) (id := s.length + 1) (l := t.accepts) (by simp [-getElem?_pos, setsO]) hnd.2 (fun x hx => hwf x (.inr (.inl hx))) (by omega)
    refine callW1 (res := .c (texts (sorted t.accepts))) k1 rfl ?_
    simp [-getElem?_pos, List.lookup, mixed]
    have k2 := setList_ok (st := s ++ setsO t) (id := s.length + 2) (l := t.blocks) (by simp [-getElem?_pos, setsO]) hnd.3 (fun x hx => hwf x (.inr (.inr (.inl hx)))) (by omega)
    refine callW1 (res := .c (texts (sorted t.blocks))) k2 rfl ?_
    simp [-getElem?_pos, List.lookup, mixed]
    have k3 := setList_ok (st := s ++ setsO t) (id := s.length + 3) (l := t.mutes) (by simp [-getElem?_pos, setsO]) hnd.4 (fun x hx => hwf x (.inr (.inr (.inr hx)))) (by omega)
    refine callW1 (res := .c (texts (sorted t.mutes))) k3 rfl ?_
    simp [-getElem?_pos, List.lookup, mixed, tieC, texts, agg]
/-- slices.Clone: data. -/
theorem cloneD_ok (l : List Str) (hl : l.length ≤ 1000000000) (hwf : ∀ k ∈ l, k.length ≤ 9223372036854775807) (st : List SO) :
    FnOK Tryz.prog GW 68 [.c (texts l)] st (.c (texts l)) st := by
  refine ⟨by kernel_rfl, fun γ w vals h1 h2 h3 h4 => ?_⟩
  obtain ⟨x, rfl, hx⟩ := one_arg (P := Tryz.prog) h3 h4
  rcases texts_at hx with ⟨rfl, rfl⟩ | ⟨rfl, a, cap, rfl⟩ | ⟨b, off, cap, rfl, _, hc⟩
  · refine (AnyG.slices_Clone_string_nil Tryz.cloneS 0 0 w).mono ?_
    rintro e w' ⟨rfl, rfl⟩
    obtain ⟨γ', q1, q2, q3⟩ := new_sl (xs := strs []) (e := 9) (esz := 1) (v := .slice none 0 0) (vs := []) h1 (Below.refl _ _) ⟨rfl, .inl ⟨rfl, rfl⟩⟩ (strs_one _) (strs_rel (l := []) (by simp [-getElem?_pos]))
    exact ⟨γ', _, rfl, q1, q2, q3⟩
  · refine (AnyG.slices_Clone_string_zero Tryz.cloneS a cap w).mono ?_
    rintro e w' ⟨v, rfl, hrow, _, hB⟩
    obtain ⟨γ', q1, q2, q3⟩ := new_sl (xs := strs []) h1 hB hrow (strs_one _) (strs_rel (l := []) (by simp [-getElem?_pos]))
    exact ⟨γ', _, rfl, q1, q2, q3⟩
  · refine (AnyG.slices_Clone_string Tryz.cloneS b off l.length cap (l.map ba) w (by simp [-getElem?_pos]) (by omega) (by simpa [-getElem?_pos] using hc)).mono ?_
    rintro e w' ⟨v, rfl, hrow, _, hB⟩
    rw [List.take_of_length_le (by simp [-getElem?_pos]), map_ba] at hrow
    obtain ⟨γ', q1, q2, q3⟩ := new_sl (xs := strs l) h1 hB (by rw [strs_len]; exact hrow) (strs_one _) (strs_rel hwf)
    exact ⟨γ', _, rfl, q1, q2, q3⟩
theorem Act.Fits.toLe {a : Act} (h : a.Fits) : a.to.length ≤ 1000000000 := by have := h.to; unfold tooBig at this; omega
theorem Act.Fits.toWf {a : Act} (h : a.Fits) : ∀ k ∈ a.to, k.length ≤ 9223372036854775807 := fun k hk => by
  have h1 := h.toSum
  have h2 : k.length ≤ sumL a.to := by
    generalize a.to = l at hk
    induction l with
    | nil => simp [-getElem?_pos] at hk
    | cons x l ih =>
      simp only [sumL, List.map_cons, List.sum_cons] at ih ⊢
      rcases List.mem_cons.1 hk with rfl | hk
      · omega
      · have := ih hk; omega
  omega
theorem circN_in (acts : List Act) (group : Str) : ∀ n, circN acts group n = [] ∨ ∃ a ∈ acts, circN acts group n = a.to
  | 0 => .inl rfl
  | n + 1 => by
    simp only [circN]
    split
    · next a ha =>
      split
      · exact .inr ⟨a, List.mem_of_getElem? ha, rfl⟩
      · exact circN_in acts group n
    · exact circN_in acts group n
theorem members_def (c : Chain) (n scope : Int) (group : Str) (to : List Str) : membersS digestS c n scope group to = dedupA (sorted ((fromS digestS c.acts n scope group to).filter fun x => !(x == c.id || (tiesS digestS c.acts n).blocks.contains x))) := rfl
theorem members_ok (c : Chain) (n scope : Int) (group : Str) (to : List Str) (hc : ∀ a ∈ c.acts, a.Fits) (hl : c.acts.length ≤ 1000000000) (hto : to.length ≤ 1000000000) (htw : ∀ k ∈ to, k.length ≤ 9223372036854775807) (s : List SO) :
    FnOK Tryz.prog GW 40 [agg c.cells, .c (I n), .c (I scope), .c (.str group), .c (texts to)] s (.c (texts (membersS digestS c n scope group to))) s := by
  refine circle_Members_F.pu { esc := [5, 11], own := [(12, 9, 1)], frz := [(999, [10])] } (by simp [-getElem?_pos]) rfl ?_
  simp [-getElem?_pos, List.lookup, mixed, agg, Chain.cells]
  refine callW0 (relOf_ok c n hc hl) rfl ?_
  have hle := tiesN_le digestS c.acts (upTo n c.acts)
  have hM : upTo n c.acts ≤ c.acts.length := by unfold upTo; omega
  have hal : (tiesS digestS c.acts n).accepts.length ≤ 1000000000 := by
    have := hle.2
    simp only [tiesS, (sorted_perm _).length_eq]
    omega
  have hbl : (tiesS digestS c.acts n).blocks.length ≤ 1000000000 := by
    have := hle.3
    simp only [tiesS, (sorted_perm _).length_eq]
    omega
  have haw : ∀ k ∈ (tiesS digestS c.acts n).accepts, k.length ≤ 9223372036854775807 := fun k hk => by
    have : k ∈ (tiesN digestS c.acts (upTo n c.acts)).accepts := (sorted_perm _).mem_iff.1 hk
    exact tiesN_in digestS (p := fun x => x.length ≤ 9223372036854775807) (target_wf hc) (upTo n c.acts) k (.inr (.inl this))
  rw [members_def]
  have hf : fromS digestS c.acts n scope group to = if scope = 1 then (tiesS digestS c.acts n).accepts else if scope = 3 then to else if scope = 2 then circN c.acts group (upTo n c.acts) else [] := rfl
  rw [hf]
  generalize tiesS digestS c.acts n = t at hal hbl haw ⊢
  simp [-getElem?_pos, List.lookup, mixed, agg, Chain.cells, tieC]
  refine ⟨fun hs1 => ?_, fun hs1 => ⟨fun hs3 => ?_, fun hs3 => ⟨fun hs2 => ?_, fun hs2 => ?_⟩⟩⟩
  · refine callW2 (cloneOwn_ok t.accepts hal haw _) rfl ?_
    rw [if_pos hs1]
    simp [-getElem?_pos, List.lookup, mixed, agg, Chain.cells, tieC]
    refine callW2 (delOwn_ok t.accepts t.blocks c.id hal (by omega) _ _ _ _ _ _ _ _ (id := s.length + 3) (ep := 0) (k := s.length) (j := s.length + 1) (by simp [-getElem?_pos]) (by simp [-getElem?_pos]; exact ⟨rfl, rfl, rfl, rfl, rfl⟩) (by simp [-getElem?_pos]; exact ⟨rfl, rfl, rfl⟩)) rfl ?_
    generalize hys : (List.filter (fun x => !(x == c.id || t.blocks.contains x)) t.accepts) = ys
    have hyl : ys.length ≤ 1000000000 := by rw [← hys]; exact Nat.le_trans (List.length_filter_le _ _) hal
    simp [-getElem?_pos, List.lookup, mixed, agg, Chain.cells, tieC]
    refine callW2 (sortOwn_ok ys hyl (id := s.length + 3) (ep := 1) (by simp [-getElem?_pos])) rfl ?_
    simp [-getElem?_pos, List.lookup, mixed, agg, Chain.cells, tieC]
    refine callW2 (compactOwn_ok (sorted ys) (by rw [(sorted_perm ys).length_eq]; exact hyl) (id := s.length + 3) (ep := 1) (by simp [-getElem?_pos])) rfl ?_
    simp [-getElem?_pos, List.lookup, mixed, agg, Chain.cells, tieC]
    simp [-getElem?_pos, texts, strs, hys]
  · refine callW2 (cloneOwn_ok to hto htw _) rfl ?_
    rw [if_neg hs1, if_pos hs3]
    simp [-getElem?_pos, List.lookup, mixed, agg, Chain.cells, tieC]
    refine callW2 (delOwn_ok to t.blocks c.id hto (by omega) _ _ _ _ _ _ _ _ (id := s.length + 3) (ep := 0) (k := s.length) (j := s.length + 1) (by simp [-getElem?_pos]) (by simp [-getElem?_pos]; exact ⟨rfl, rfl, rfl, rfl, rfl⟩) (by simp [-getElem?_pos]; exact ⟨rfl, rfl, rfl⟩)) rfl ?_
    generalize hys : (List.filter (fun x => !(x == c.id || t.blocks.contains x)) to) = ys
    have hyl : ys.length ≤ 1000000000 := by rw [← hys]; exact Nat.le_trans (List.length_filter_le _ _) hto
    simp [-getElem?_pos, List.lookup, mixed, agg, Chain.cells, tieC]
    refine callW2 (sortOwn_ok ys hyl (id := s.length + 3) (ep := 1) (by simp [-getElem?_pos])) rfl ?_
    simp [-getElem?_pos, List.lookup, mixed, agg, Chain.cells, tieC]
    refine callW2 (compactOwn_ok (sorted ys) (by rw [(sorted_perm ys).length_eq]; exact hyl) (id := s.length + 3) (ep := 1) (by simp [-getElem?_pos])) rfl ?_
    simp [-getElem?_pos, List.lookup, mixed, agg, Chain.cells, tieC]
    simp [-getElem?_pos, texts, strs, hys]
  · rw [if_neg hs1, if_neg hs3, if_pos hs2]
    obtain ⟨z, hz, hzi⟩ : ∃ z : Int, (if (c.acts.length : Int) < n then (c.acts.length : Int) else n) = z ∧ ∀ i : Nat, ((i : Int) < z ↔ i < upTo n c.acts) := ⟨_, rfl, fun i => by unfold upTo; split <;> omega⟩
    rw [hz]
    generalize hNN : upTo n c.acts = N at hM hzi ⊢
    refine loopM_intro (fun m e st => ∃ (i j : Nat) (rest : List SO), m = N - i ∧ i ≤ N ∧ rest[j]? = some (.arr 9 1 0 (strs (circN c.acts group i))) ∧
      st = s ++ (SO.box [.c (.str c.id), .c (.sl (c.acts.map Act.cells)), .c (.sl (c.keys.map KeyAt.cells)), .c (.str c.prev), .c (I c.gen), .c (.bool c.fork)] :: SO.box [.c (texts t.follows), .c (texts t.accepts), .c (texts t.blocks), .c (texts t.mutes)] :: rest) ∧
      e = [(35, .c (I i)), (34, .c (I z)), (12, .own (s.length + (j + 2)) 0), (11, .ptr (s.length + 1) 0), (5, .ptr s.length 0), (3, .c (.str group))]) N _ ?_ ⟨0, 0, [.arr 9 1 0 []], rfl, Nat.zero_le _, rfl, rfl, rfl⟩ ?_
    · simp [-getElem?_pos]
    rintro m e st ⟨i, j, rest, rfl, hi, hr, rfl, rfl⟩
    by_cases h : i < N
    · obtain ⟨a, ha⟩ := get_of_lt (show i < c.acts.length by omega)
      have hw := wrap_succ h (by omega)
      have hiz : (i : Int) < z := (hzi i).2 h
      have hto2 := (hc a (List.mem_of_getElem? ha))
      have hcn : circN c.acts group (i + 1) = if a.kind = 15 ∧ a.group = group then a.to else circN c.acts group i := by simp only [circN, ha]
      simp [-getElem?_pos, List.lookup, mixed, agg, Chain.cells, tieC, hiz, ha, Act.cells]
      refine exY_i (a.group == group) ⟨fun _ => rfl, fun h1 h2 => ?_, fun h1 => ?_⟩
      · have h3 : circN c.acts group (i + 1) = a.to := by rw [hcn, if_pos ⟨h1, by simpa [-getElem?_pos] using h2⟩]
        refine callW2 (cloneOwn_ok a.to hto2.toLe hto2.toWf _) rfl ?_
        simp [-getElem?_pos, List.lookup, mixed, agg, Chain.cells, tieC, hw]
        refine againM_i _ _ ?_ ?_ ⟨i + 1, rest.length, rest ++ [.arr 9 1 0 (strs a.to)], rfl, h, by rw [h3]; simp [-getElem?_pos], rfl, rfl⟩
        · omega
        · simp [-getElem?_pos]
      · have h3 : circN c.acts group (i + 1) = circN c.acts group i := by rw [hcn, if_neg fun hh => by simpa [-getElem?_pos, hh.2] using h1 hh.1]
        refine againM_i _ _ ?_ ?_ ⟨i + 1, j, rest, rfl, h, by rw [h3]; exact hr, rfl, rfl⟩
        · omega
        · simp [-getElem?_pos, hw]
    · have he : i = N := by omega
      subst he
      have hiz : ¬ (i : Int) < z := fun h2 => h ((hzi i).1 h2)
      have hxl : (circN c.acts group i).length ≤ 1000000000 := by
        rcases circN_in c.acts group i with h1 | ⟨a, ha, h1⟩
        · rw [h1]; simp [-getElem?_pos]
        · rw [h1]; exact (hc a ha).toLe
      generalize circN c.acts group i = xs at hr hxl ⊢
      simp [-getElem?_pos, List.lookup, mixed, agg, Chain.cells, tieC, hiz]
      refine callW2 (delOwn_ok xs t.blocks c.id hxl (by omega) _ _ _ _ _ _ _ _ (id := s.length + (j + 2)) (ep := 0) (k := s.length) (j := s.length + 1) (by simpa [-getElem?_pos] using hr) (by simp [-getElem?_pos]; exact ⟨rfl, rfl, rfl, rfl, rfl⟩) (by simp [-getElem?_pos]; exact ⟨rfl, rfl, rfl⟩)) rfl ?_
      generalize hys : (List.filter (fun x => !(x == c.id || t.blocks.contains x)) xs) = ys
      have hyl : ys.length ≤ 1000000000 := by rw [← hys]; exact Nat.le_trans (List.length_filter_le _ _) hxl
      simp [-getElem?_pos, List.lookup, mixed, agg, Chain.cells, tieC]
      refine callW2 (sortOwn_ok ys hyl (id := s.length + (j + 2)) (ep := 1) (by simp [-getElem?_pos]; exact List.getElem?_set_self (lt_of_some hr))) rfl ?_
      simp [-getElem?_pos, List.lookup, mixed, agg, Chain.cells, tieC]
      refine callW2 (compactOwn_ok (sorted ys) (by rw [(sorted_perm ys).length_eq]; exact hyl) (id := s.length + (j + 2)) (ep := 1) (by simp [-getElem?_pos]; exact List.getElem?_set_self (lt_of_some hr))) rfl ?_
      simp [-getElem?_pos, List.lookup, mixed, agg, Chain.cells, tieC]
      have hg : ∀ X, (rest.set j X)[j]? = some X := fun X => List.getElem?_set_self (lt_of_some hr)
      simp [-getElem?_pos, List.lookup, mixed, agg, Chain.cells, tieC, hg, strs, texts, hys]
  · rw [if_neg hs1, if_neg hs3, if_neg hs2]
    refine callW2 (delOwn_ok [] t.blocks c.id (by simp [-getElem?_pos]) (by omega) _ _ _ _ _ _ _ _ (id := s.length + 2) (ep := 0) (k := s.length) (j := s.length + 1) (by simp [-getElem?_pos, strs]) (by simp [-getElem?_pos]; exact ⟨rfl, rfl, rfl, rfl, rfl⟩) (by simp [-getElem?_pos]; exact ⟨rfl, rfl, rfl⟩)) rfl ?_
    generalize hys : (List.filter (fun x => !(x == c.id || t.blocks.contains x)) []) = ys
    have hyl : ys.length ≤ 1000000000 := by rw [← hys]; exact Nat.le_trans (List.length_filter_le _ _) (by simp [-getElem?_pos])
    simp [-getElem?_pos, List.lookup, mixed, agg, Chain.cells, tieC]
    refine callW2 (sortOwn_ok ys hyl (id := s.length + 2) (ep := 1) (by simp [-getElem?_pos])) rfl ?_
    simp [-getElem?_pos, List.lookup, mixed, agg, Chain.cells, tieC]
    refine callW2 (compactOwn_ok (sorted ys) (by rw [(sorted_perm ys).length_eq]; exact hyl) (id := s.length + 2) (ep := 1) (by simp [-getElem?_pos])) rfl ?_
    simp [-getElem?_pos, List.lookup, mixed, agg, Chain.cells, tieC]
    simp [-getElem?_pos, texts, strs, hys]
end Go.Proofs.YthkmfboffnhkaaaGreatDoor
