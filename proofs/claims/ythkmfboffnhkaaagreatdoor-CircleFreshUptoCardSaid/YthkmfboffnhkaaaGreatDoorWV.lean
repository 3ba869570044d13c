/-
  The values of a map of strings by numbers, sorted into a row of one's own.
-/
import Derived.Test.YthkmfboffnhkaaaGreatDoorWS
import Derived.Shelf.SlIter.AllValuesS
set_option linter.all false
namespace Go.Proofs
open Go.RowKit Go.Maps Go.Sort Go.Shelf
set_option maxRecDepth 100000 in
set_option maxHeartbeats 2000000 in
theorem Tryz.values1_in {H : Type} (l Bm b nn : Nat) (D0 : DataW H) (J : List (List UInt8) → World → Prop)
    (hY : ∀ pre x W, J pre W → pre.length < Maps.size D0 → YieldAt Fence.wide (2 - 1) Tryz.prog l #[encStr x] W fun e W' => e = .returned (.bool true) ∧ J (pre ++ [x]) W' ∧ KeepsWalks W W')
    (W : World) (hJ : AbidesFrom W.heap.size J) (hm : W.cell? ⟨Bm, 0, none⟩ = some (.map (some b))) (hown : W.ownsMap Tryz.prog 3 (plainElem Tryz.prog 9) b nn D0) (h0 : J [] W) :
    CallsIn Fence.wide 2 Tryz.prog 106 #[.func (.yield l) #[] #[], .pointer (some ⟨Bm, 0, none⟩)] W fun e W' => (∃ v, e = .returned v) ∧
      ∃ ps : List (Int × List UInt8), (ps.map (·.1)).Perm (intKeys D0) ∧ (∀ p ∈ ps, ∀ zd, D0.atKey (.int .i64 p.1) zd = .lit (.string p.2)) ∧ J (ps.map (·.2)) W' := by
  refine callsIn_of_wp Tryz.func106 rfl trivial ?_ rfl
  simp only [Tryz.ntmps106, List.size_toArray, List.length_cons, List.length_nil, Nat.reduceAdd, Nat.reduceSub, Array.replicate_succ, Array.replicate_zero, List.push_toArray, List.append_toArray, List.nil_append, List.cons_append]
  gi_wp2_with (first
    | (gi_at_range; refine wpListIn_range_own _ rfl _ 118 rfl 3 9 (int_keyed Tryz.underlying3) Tryz.underlying118 _ b nn _ rfl hown ?_; intro w0 hrg0 hg0 hs0)
    | gi_in)
  go_frame
  gi_loopw [4] (fun _ wr => ∃ (left : Lit → Bool) (cnt : Nat) (ps : List (Int × List UInt8)), wr.ranges Tryz.prog 3 (plainElem Tryz.prog 9) b W.heap.size nn D0 left cnt ∧ ps.length + cnt ≤ Maps.size D0 ∧ CollectedI D0 left (ps.map (·.1)) ∧ (∀ p ∈ ps, ∀ zd, D0.atKey (.int .i64 p.1) zd = .lit (.string p.2)) ∧ J (ps.map (·.2)) wr)
    (fun _ wr => wr.rangeLeft b W.heap.size)
  case atStart =>
    exact ⟨_, _, [], hrg0, by simp [-getElem?_pos], CollectedI.start D0, by simp [-getElem?_pos], hJ [] W w0 none h0 hg0 (fun r e => by cases e)⟩
  case round =>
    obtain ⟨left, cnt, ps, hrg, hcs, hC, hV, hJs⟩ := hrel
    gi_wp2_with (first
      | (gi_at_next; refine wpListIn_next_ranges _ rfl _ rfl 3 (int_keyed Tryz.underlying3) (plainElem Tryz.prog 9) encZ encStr (fun key kl hk => by obtain ⟨x, hx, _⟩ := Maps.keyOf_i64 Tryz.underlying3 hk; exact ⟨x, hx⟩) (fun v y hv => by obtain ⟨c, rfl, _⟩ := plainElem_string_inv Tryz.underlying9 hv; exact ⟨c, rfl⟩) b W.heap.size nn _ _ _ rfl hrg ?_ ?_)
      | gi_in)
    · intro hc0 hl0
      gi_wp2
      go_end0
      exact ⟨⟨_, rfl⟩, ps, hC.perm hown (int_keyed Tryz.underlying3) Tryz.underlying3 hl0, hV, hJs⟩
    · intro x c kl yd yp w2 cnt2 hkey hlk hv hat hrg2 hlt hg2 hs2 hen
      obtain ⟨x', ex, rfl, _⟩ := Maps.keyOf_i64 Tryz.underlying3 hkey
      obtain rfl : x = x' := encZ_inj ex
      obtain ⟨c', ec, ez, _⟩ := plainElem_string_inv Tryz.underlying9 hv
      obtain rfl : c = c' := encStr_inj ec
      obtain rfl : yd = .lit (.string c) := (Prod.mk.inj ez).1
      have hJ2 : J (ps.map (·.2)) w2 := hJ _ wr w2 (some W.heap.size) hJs hg2 (fun r e => by cases e; exact ⟨Nat.le_refl _, hrg.iter_walk⟩)
      obtain ⟨fn, tmps, assign, body, hy, hR⟩ := hY (ps.map (·.2)) c w2 hJ2 (by simp [-getElem?_pos]; omega)
      clear hs2
      gi_wp2
      refine hR.mono ?_
      rintro e W3 ⟨rfl, hJ3, hk3⟩
      gi_wp2
      have hrg3 := hrg2.of_walks hk3
      go_roundw
      case rel => exact ⟨_, cnt2, ps ++ [(x, c)], hrg3, by simp [-getElem?_pos]; omega, by simpa [-getElem?_pos] using hC.step hlk hat, fun p hp => (List.mem_append.1 hp).elim (hV p) (fun e => by simp [-getElem?_pos] at e; subst e; exact hat), by simpa [-getElem?_pos] using hJ3⟩
      case measure => rw [hrg3.left_eq, hrg.left_eq]; exact hlt
end Go.Proofs
namespace Go.Proofs.YthkmfboffnhkaaaGreatDoor
open Go Go.L1 Go.RowKit Go.Maps Go.Sort Go.Shelf
set_option maxRecDepth 100000
set_option maxHeartbeats 4000000
/-- Strings by numbers, in a map. -/
def givC (m : List (Nat × Str)) : List (List C × List C) := m.map fun p => ([I p.1], [C.str p.2])
/-- As clo_map, the elements too. -/
theorem clo_map2 {γ : Gh} {w : World} {st : List SO} {F : FuncId} {bid id : Nat} {ag : Bool} {es : List (List C × List C)} {x : Value} (h1 : RelW γ st w) (hx : RelV γ w (.clo F [.ptr bid 0]) x)
    (hb : st[bid]? = some (.box [.mref id])) (hm : st[id]? = some (.map false ag es)) :
    ∃ b r ents clock, x = .func (.func F) #[] #[.pointer (some ⟨b, 0, none⟩)] ∧ b < w.heap.size ∧ w.cell? ⟨b, 0, none⟩ = some (.map (some r)) ∧ w.heap[r]? = some (.map ents clock) ∧ ents.size = es.length ∧
      (∀ (i : Nat) e y, es[i]? = some e → ents[i]? = some y → RelCells γ.pers w false e.1 y.key ∧ RelCells γ.pers w ag e.2 y.val) ∧ (∀ (i : Nat) y, ents[i]? = some y → y.born < clock) ∧
      (∀ (i j : Nat) y z, ents[i]? = some y → ents[j]? = some z → y.born = z.born → i = j) := by
  obtain ⟨b, r, ents, clock, e1, e2, e3, e4, e5, _, e7, e8⟩ := clo_map h1 hx hb hm
  refine ⟨b, r, ents, clock, e1, e2, e3, e4, e5, ?_, e7, e8⟩
  have hid := lt_of_some hm
  obtain ⟨l, hl⟩ : ∃ l, γ.locs[id]? = some l := ⟨_, List.getElem?_eq_getElem (by rw [h1.len]; exact hid)⟩
  obtain ⟨_, r', ents', clock', hr', hmap, hsz, hrel, _⟩ := h1.objs id l _ hl hm
  have hr : r' = r := by
    subst e1
    cases hx with
    | clo _ _ vs hlen hh =>
      cases hh 0 _ _ rfl rfl with
      | ptr _ _ bb loc hloc hbb =>
        obtain ⟨_, b', vs', T, hb', hheap, hrow⟩ := h1.objs bid loc _ hloc hb
        rw [hbb] at hb'
        simp [-getElem?_pos] at hb'
        subst hb'
        obtain ⟨l'⟩ := vs'
        match l', hrow.1 with
        | [q], _ =>
          have hc : q = .map (some r) := by
            simpa [-getElem?_pos, World.cell?, hheap] using e3
          subst hc
          cases (hrow.2 0 _ _ rfl rfl).1 with
          | mref _ r2 loc' hloc' hr2 =>
            have : loc' = l := Option.some.inj (hloc'.symm.trans hl)
            subst this
            rw [hr2] at hr'
            simpa [-getElem?_pos] using hr'.symm
  subst hr
  rw [e4] at hmap
  injection hmap with hmap
  injection hmap with h3 h4
  subst h3
  exact hrel
theorem values_seq (m : List (Nat × Str)) (hnd : (m.map (·.1)).Nodup) (hk : ∀ p ∈ m, p.1 ≤ 1000000000) (hv : ∀ p ∈ m, p.2.length ≤ 9223372036854775807) (hl : m.length ≤ 1000000000) {st : List SO} {bid id : Nat}
    (hb : st[bid]? = some (.box [.mref id])) (hm : st[id]? = some (.map false false (givC m))) :
    ∀ γ w x, RelW γ st w → GW γ.base → RelV γ w (.clo 106 [.ptr bid 0]) x → ∃ lb N, x = .func (.func 106) #[] lb ∧ N ≤ 1000000000 ∧ SeqGives Fence.wide 2 Tryz.prog 106 lb encStr (fun ss => ss.Perm (m.map (·.2))) N w := by
  intro γ w x h1 h2 hx
  obtain ⟨b, r, ents, clock, rfl, hblt, hcell, hmap, hes, hrel, hborn, hinj⟩ := clo_map2 h1 hx hb hm
  have hlen : ents.size = m.length := by rw [hes]; simp [-getElem?_pos, givC]
  have hent : ∀ (i : Nat) y, ents[i]? = some y → ∃ p, m[i]? = some p ∧ y.key = .int .i64 p.1 ∧ y.val = encStr p.2 := by
    intro i y hy
    have hi : i < m.length := by rw [← hlen]; exact (Array.getElem?_eq_some_iff.1 hy).1
    have hp : m[i]? = some m[i] := List.getElem?_eq_getElem hi
    have he : (givC m)[i]? = some ([I (m[i].1 : Int)], [C.str m[i].2]) := by simp [-getElem?_pos, givC, hp]
    obtain ⟨q1, q2⟩ := hrel i _ y he hy
    simp only [RelCells, Bool.false_eq_true, if_false] at q1 q2
    obtain ⟨c1, hc1, r1⟩ := q1
    obtain ⟨c2, hc2, r2⟩ := q2
    simp [-getElem?_pos] at hc1 hc2
    subst hc1 hc2
    refine ⟨m[i], hp, ?_, relC_str r2⟩
    generalize y.key = q at r1
    cases r1
    rfl
  have hwf : ∀ p ∈ m, (Lit.int .i64 (p.1 : Int)).wf = true := fun p hp => by
    have := hk p hp
    simp [-getElem?_pos, Lit.wf, IntKind.min, IntKind.max, IntKind.bits, IntKind.signed]; omega
  have hko : ∀ (i : Nat) y, ents[i]? = some y → ∃ p, m[i]? = some p ∧ WideElems.rd Tryz.prog 3 (plainElem (H := Unit) Tryz.prog 9) y = some (.int .i64 p.1, .lit (.string p.2)) := by
    intro i y hy
    obtain ⟨p, hp, e1, e2⟩ := hent i y hy
    have hpm := List.mem_of_getElem? hp
    refine ⟨p, hp, ?_⟩
    have k1 : keyOf Tryz.prog 3 y.key = some (.int .i64 p.1) := by rw [e1]; simp [-getElem?_pos, keyOf, mapKey, Tryz.underlying3, hwf p hpm]
    have k2 : plainElem (H := Unit) Tryz.prog 9 y.val = some (.lit (.string p.2), []) := by
      rw [e2]
      have := plainElem_string (H := Unit) (P := Tryz.prog) Tryz.underlying9 (s := ⟨p.2.toArray⟩) (by simpa [-getElem?_pos, ByteArray.size, maxLen] using hv p hpm)
      simpa [-getElem?_pos, encStr] using this
    simp [-getElem?_pos, WideElems.rd, k1, k2]
  let E : List (Lit × DataW Unit) := ents.toList.map (WideElems.rg Tryz.prog 3 (plainElem Tryz.prog 9))
  have hE : E = m.map fun p => (Lit.int .i64 (p.1 : Int), DataW.lit (.string p.2)) := by
    apply List.ext_getElem?
    intro i
    simp only [E, List.getElem?_map, Array.getElem?_toList]
    cases hy : ents[i]? with
    | none =>
      have : ents.size ≤ i := by simpa [-getElem?_pos] using hy
      rw [List.getElem?_eq_none (by omega)]; rfl
    | some y =>
      obtain ⟨p, hp, hr⟩ := hko i y hy
      rw [hp]
      simp [-getElem?_pos, WideElems.rg, hr]
  have hsort := WideShapes.sorted_perm E
  have hown : w.ownsMap Tryz.prog 3 (plainElem Tryz.prog 9) r ents.size (.map (E.foldr DataW.insert [])) := by
    refine ⟨ents, clock, hmap, ⟨?_, ⟨?_, nodup_idx _ hinj, nodup_idx _ ?_⟩, ?_⟩, Nat.le_refl _, rfl⟩
    · unfold maxLen; omega
    · intro y hy
      obtain ⟨i, hi⟩ := List.mem_iff_getElem?.1 hy
      exact hborn i y (by simpa [-getElem?_pos] using hi)
    · intro i j y z hy hz he
      obtain ⟨p, hp, e1, _⟩ := hent i y hy
      obtain ⟨q, hq, e2, _⟩ := hent j z hz
      rw [e1, e2] at he
      simp [-getElem?_pos] at he
      have := nodup_at hnd (i := i) (j := j) (a := p.1) (by rw [List.getElem?_map, hp]; rfl) (by rw [List.getElem?_map, hq]; simp [-getElem?_pos]; omega)
      exact this
    · intro y hy
      obtain ⟨i, hi⟩ := List.mem_iff_getElem?.1 hy
      obtain ⟨p, _, hr⟩ := hko i y (by simpa [-getElem?_pos] using hi)
      exact ⟨_, hr⟩
  have hsize : Maps.size (DataW.map (E.foldr DataW.insert [])) = m.length := by
    show (E.foldr DataW.insert []).length = _
    rw [hsort.length_eq, hE]; simp [-getElem?_pos]
  have hkeys : (intKeys (DataW.map (E.foldr DataW.insert []))).Perm (m.map fun p => (p.1 : Int)) := by
    show ((E.foldr DataW.insert []).map fun p => _root_.Go.intOf p.1).Perm _
    refine (hsort.map _).trans ?_
    rw [hE, List.map_map]
    exact .refl _
  have hne : (E.foldr DataW.insert []).Pairwise (fun p q => p.1 ≠ q.1) := by
    have h3 : (E.map (·.1)).Nodup := by
      rw [hE, List.map_map]
      have : (m.map (·.1)).Pairwise (· ≠ ·) := hnd
      rw [List.pairwise_map] at this
      show List.Pairwise _ _
      rw [List.pairwise_map]
      refine List.Pairwise.imp ?_ this
      intro a b hab he
      simp [-getElem?_pos] at he
      omega
    have h4 := (hsort.map (·.1)).nodup_iff.2 h3
    have h5 : ((E.foldr DataW.insert []).map (·.1)).Pairwise (· ≠ ·) := h4
    rwa [List.pairwise_map] at h5
  refine ⟨_, m.length, rfl, hl, fun l J W hW hJ hY h0 => ?_⟩
  have hown' : W.ownsMap Tryz.prog 3 (plainElem Tryz.prog 9) r ents.size (.map (E.foldr DataW.insert [])) := by
    have hbl := hown.lt
    obtain ⟨es, clock, hb, Ft, hs, hD⟩ := hown
    exact ⟨es, clock, (hW.block r hbl).trans hb, Ft, hs, hD⟩
  refine (Tryz.values1_in l b r ents.size _ J (fun pre x W1 h3 h4 => hY pre x W1 h3 (by rw [hsize] at h4; exact h4)) W hJ ((hW.cell (p := ⟨b, 0, none⟩) hblt).trans hcell) hown' h0).mono ?_
  rintro e W' ⟨hv', ps, hp1, hp2, hp3⟩
  refine ⟨hv', _, ?_, hp3⟩
  have hM : ps.Perm (m.map fun p => ((p.1 : Int), p.2)) := by
    have n1 : ps.Nodup := by
      have := (hp1.trans hkeys).nodup_iff.2 (by
        have h6 : (m.map (·.1)).Pairwise (· ≠ ·) := hnd
        rw [List.pairwise_map] at h6
        show List.Pairwise _ _
        rw [List.pairwise_map]
        exact List.Pairwise.imp (fun {a b} hab he => by omega) h6)
      have h7 : (ps.map (·.1)).Pairwise (· ≠ ·) := this
      rw [List.pairwise_map] at h7
      exact List.Pairwise.imp (fun {a b} hab he => hab (by rw [he])) h7
    have n2 : (m.map fun p => ((p.1 : Int), p.2)).Nodup := by
      have h6 : (m.map (·.1)).Pairwise (· ≠ ·) := hnd
      rw [List.pairwise_map] at h6
      show List.Pairwise _ _
      rw [List.pairwise_map]
      refine List.Pairwise.imp ?_ h6
      intro a b hab he
      simp [-getElem?_pos] at he
      omega
    have at_mem : ∀ q ∈ m, ∀ zd, (DataW.map (E.foldr DataW.insert [])).atKey (.int .i64 (q.1 : Int)) zd = .lit (.string q.2) := fun q hq zd =>
      WideAt.atKey_mem zd trivial hne (hsort.mem_iff.2 (by rw [hE]; exact List.mem_map.2 ⟨q, hq, rfl⟩))
    refine (List.perm_ext_iff_of_nodup n1 n2).2 fun p => ⟨fun hp => ?_, fun hp => ?_⟩
    · have hk1 : p.1 ∈ m.map fun p => (p.1 : Int) := (hp1.trans hkeys).mem_iff.1 (List.mem_map.2 ⟨p, hp, rfl⟩)
      obtain ⟨q, hq, he⟩ := List.mem_map.1 hk1
      have h8 := hp2 p hp .nil
      rw [← he, at_mem q hq .nil] at h8
      injection h8 with h8
      injection h8 with h8
      exact List.mem_map.2 ⟨q, hq, Prod.ext he h8⟩
    · obtain ⟨q, hq, rfl⟩ := List.mem_map.1 hp
      have hk1 : (q.1 : Int) ∈ ps.map (·.1) := (hp1.trans hkeys).mem_iff.2 (List.mem_map.2 ⟨q, hq, rfl⟩)
      obtain ⟨p, hpp, he⟩ := List.mem_map.1 hk1
      have h8 := hp2 p hpp .nil
      rw [he, at_mem q hq .nil] at h8
      injection h8 with h8
      injection h8 with h8
      have : p = ((q.1 : Int), q.2) := Prod.ext he h8.symm
      rw [← this]; exact hpp
  have := hM.map (·.2)
  rw [List.map_map] at this
  exact this
end Go.Proofs.YthkmfboffnhkaaaGreatDoor
