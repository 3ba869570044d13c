/-
  A map's keys, sorted: contracts on abstract states.
-/
import Derived.Test.YthkmfboffnhkaaaGreatDoorW19
set_option linter.all false
namespace Go.Proofs.YthkmfboffnhkaaaGreatDoor
open Go Go.L1 Go.RowKit Go.Maps
set_option maxRecDepth 100000
set_option maxHeartbeats 4000000

/-- A slice in new memory, from now on for all to read. -/
theorem new_sl {γ : Gh} {st : List SO} {w w' : World} {e : TypeId} {esz : Nat} {v : Value} {xs : List (List C)} {vs : List Value} (hr : RelW γ st w) (hB : Below w.heap.size w w')
    (hown : w'.ownsRow w.heap.size e esz v xs.length vs) (hz : ∀ x ∈ xs, x.length = esz) (hrel : ∀ (i : Nat) c u, xs.flatten[i]? = some c → vs[i]? = some u → RelC γ.pers w c u) :
    ∃ γ' : Gh, RelW γ' st w' ∧ RelV γ' w' (.c (.sl xs)) v ∧ Evo γ.locs.length γ w γ' w' := by
  have hf := hr.frame hB.size hB.block
  have hpk : ∀ b, γ.pers b → w'.heap[b]? = w.heap[b]? := fun b hb => hB.block b (hr.plt b hb)
  obtain ⟨hvl, hc⟩ := hown
  rcases hc with ⟨rfl, h0⟩ | ⟨g, cap, cur, rfl, hbase, hg, hcap, hm, hcs, htake⟩
  · have hx : xs = [] := List.eq_nil_of_length_eq_zero h0
    subst hx
    exact ⟨γ, hf, .c _ _ .nilsl, ⟨rfl, hB.os, hB.tape, hB.output, hB.size, fun b hb _ => hB.block b hb, fun _ h => h, fun _ h _ => .inl h, fun _ h _ => h, .refl _ _⟩⟩
  let γ' : Gh := { γ with pers := fun b => γ.pers b ∨ b = g }
  have hpp : ∀ b, γ.pers b → γ'.pers b := fun b h => .inl h
  have hglt : g < w'.heap.size := (Array.getElem?_eq_some_iff.1 hg).1
  refine ⟨γ', ⟨hf.len, hf.basesz, fun b hb => ⟨.inl (hf.base b hb).1, (hf.base b hb).2⟩, fun b hb => ?_, hf.olt, fun b hb ho' => ?_, hf.inj, hf.two, fun i l o hl ho' => ?_⟩, ?_,
    ⟨rfl, hB.os, hB.tape, hB.output, hB.size, fun b hb _ => hB.block b hb, hpp, fun b hb hlt => ?_, fun b hb _ => hb, .refl _ _⟩⟩
  · rcases hb with h | h
    · exact hf.plt b h
    · rw [h]; exact hglt
  · rcases hb with h | h
    · exact hf.apart b h ho'
    · have := hr.olt b ho'; omega
  · exact RelO.mono (γ := γ) (γ' := γ') hpp (fun _ _ => rfl) (.refl _ _) (fun _ _ => rfl) (hf.objs i l o hl ho')
  · have hcell : ∀ (i : Nat) x (j : Nat) c, xs[i]? = some x → x[j]? = some c → ∃ u, cur[i * esz + j]? = some u ∧ RelC γ.pers w c u := by
      intro i x j c hi hj
      have h1 := rowIdx hz i x j c hi hj
      have hj' := lt_of_some hj
      rw [hz x (List.mem_of_getElem? hi)] at hj'
      have hi' := lt_of_some hi
      have hlt : i * esz + j < xs.length * esz := by
        calc i * esz + j < i * esz + esz := by omega
          _ = (i + 1) * esz := by rw [Nat.add_mul]; omega
          _ ≤ xs.length * esz := Nat.mul_le_mul_right _ (by omega)
      have hlt2 : i * esz + j < vs.length := by omega
      obtain ⟨u, hu⟩ : ∃ u, vs[i * esz + j]? = some u := ⟨_, List.getElem?_eq_getElem hlt2⟩
      refine ⟨u, ?_, hrel _ _ _ h1 hu⟩
      rw [← htake, List.getElem?_take_of_lt hlt] at hu
      simpa [-getElem?_pos] using hu
    refine RelV.c _ _ (.sl xs esz ⟨g, 0, none⟩ xs.length cap (fun i j => cur.getD (i * esz + j) undef) (fun _ => .inr rfl) (fun _ => rfl) rfl hcap hm
      (fun i x hi => hz x (List.mem_of_getElem? hi)) (fun i x j c hi hj => ?_) (fun i x j c hi hj => ?_))
    · obtain ⟨u, hv1, _⟩ := hcell i x j c hi hj
      rw [add_mk]
      simp only [Nat.zero_add]
      unfold World.cell?
      simp only [hg]
      simp [-getElem?_pos, hv1]
    · obtain ⟨u, hv1, hv2⟩ := hcell i x j c hi hj
      have : cur.getD (i * esz + j) undef = u := by simp [-getElem?_pos, hv1]
      rw [this]
      exact hv2.mono hpp hpk
  · rcases hb with h | h
    · exact .inl h
    · omega

theorem one_arg {P : Program} {γ : Gh} {w : World} {v : V} {vals : Array Value} (h3 : vals.size = [v].length) (h4 : ∀ (i : Nat) u x, [v][i]? = some u → vals[i]? = some x → RelV γ w u x) :
    ∃ x, vals = #[x] ∧ RelV γ w v x := by
  obtain ⟨l⟩ := vals
  match l, h3 with
  | [x], _ => exact ⟨x, rfl, h4 0 v x rfl rfl⟩

/-- 'maps.Keys(m)': a function over a box that holds m. -/
theorem keys_of {g F : FuncId} {id : Nat} {st : List SO} (hn : fnB Tryz.prog g = true)
    (h : ∀ mb (w : World), Calls Tryz.prog g #[.map mb] w fun e w' => e = .returned (.func (.func F) #[] #[.pointer (some ⟨w.heap.size, 0, none⟩)]) ∧ ∃ T, w' = w.alloc (.cells #[.map mb] T)) :
    FnOK Tryz.prog GW g [.mref id] st (.clo F [.ptr st.length 0]) (st ++ [.box [.mref id]]) := by
  refine ⟨hn, fun γ w vals h1 h2 h3 h4 => ?_⟩
  obtain ⟨x, rfl, hx⟩ := one_arg (P := Tryz.prog) h3 h4
  cases hx with
  | mref _ r l hl hb =>
    refine (h (some r) w).mono ?_
    rintro e w' ⟨rfl, T, rfl⟩
    have hk : LocsKept γ.locs.length γ (γ.push ⟨.pointer (some ⟨w.heap.size, 0, none⟩), none, 0⟩) := locsKept_push _ _ _
    have hpk : ∀ b, γ.pers b → (w.alloc (.cells #[.map (some r)] T)).heap[b]? = w.heap[b]? := fun b hb => Go.L1.heap_alloc_old w _ b (h1.plt b hb)
    have hrv : RelV (γ.push ⟨.pointer (some ⟨w.heap.size, 0, none⟩), none, 0⟩) (w.alloc (.cells #[.map (some r)] T)) (.mref id) (.map (some r)) :=
      RelV.mono (γ := γ) (γ' := γ.push _) (fun _ h => h) hpk hk (.mref id r l hl hb)
    obtain ⟨k1, k2⟩ := push_obj (l := ⟨.pointer (some ⟨w.heap.size, 0, none⟩), none, 0⟩) (o := .cells #[.map (some r)] T) (so := .box [.mref id]) h1 rfl
      ⟨rfl, w.heap.size, #[.map (some r)], T, rfl, Go.L1.heap_alloc_at w _, rfl, fun i v x hi hx => by
        match i with
        | 0 => simp [-getElem?_pos] at hi hx; subst hi hx; exact ⟨hrv, rfl⟩
        | k + 1 => simp [-getElem?_pos] at hi⟩
    refine ⟨_, _, rfl, k1, .clo _ _ _ rfl (fun i v x hi hx => ?_), evoX_none k2⟩
    match i with
    | 0 =>
      simp [-getElem?_pos] at hi hx
      subst hi hx
      exact RelV.ptr st.length 0 w.heap.size _ (push_get.2 (.inr ⟨h1.len.symm, rfl⟩)) rfl
    | k + 1 => simp [-getElem?_pos] at hi

/-- How a map's elements are read: not at all. -/
def noR : Value → Option (DataW Unit × List MemPlace) := fun _ => some (.nil, [])
theorem rg_noR {P : Program} {k : TypeId} {x : MapEntry} {kl : Lit} (h : keyOf P k x.key = some kl) : WideElems.rg P k noR x = (kl, .nil) := by
  simp [-getElem?_pos, WideElems.rg, WideElems.rd, h, noR]

/-- The function over a box with a map, and the map. -/
theorem clo_map {γ : Gh} {w : World} {st : List SO} {F : FuncId} {bid id : Nat} {ag : Bool} {es : List (List C × List C)} {x : Value} (h1 : RelW γ st w) (hx : RelV γ w (.clo F [.ptr bid 0]) x)
    (hb : st[bid]? = some (.box [.mref id])) (hm : st[id]? = some (.map false ag es)) :
    ∃ b r ents clock, x = .func (.func F) #[] #[.pointer (some ⟨b, 0, none⟩)] ∧ b < w.heap.size ∧ w.cell? ⟨b, 0, none⟩ = some (.map (some r)) ∧ w.heap[r]? = some (.map ents clock) ∧ ents.size = es.length ∧
      (∀ (i : Nat) e y, es[i]? = some e → ents[i]? = some y → RelCells γ.pers w false e.1 y.key) ∧ (∀ (i : Nat) y, ents[i]? = some y → y.born < clock) ∧
      (∀ (i j : Nat) y z, ents[i]? = some y → ents[j]? = some z → y.born = z.born → i = j) := by
  cases hx with
  | clo _ _ vs hl hh =>
    obtain ⟨l⟩ := vs
    match l, hl with
    | [p], _ =>
      have hp := hh 0 _ p rfl rfl
      cases hp with
      | ptr _ _ b loc hloc hbb =>
        obtain ⟨_, b', vs', T, hb', hheap, hrow⟩ := h1.objs bid loc _ hloc hb
        rw [hbb] at hb'
        simp [-getElem?_pos] at hb'
        subst hb'
        obtain ⟨l'⟩ := vs'
        match l', hrow.1 with
        | [q], _ =>
          have hq := (hrow.2 0 _ q rfl rfl).1
          cases hq with
          | mref _ r loc' hloc' hr =>
            obtain ⟨_, r', ents, clock, hr', hmap, hsz, hrel, hborn, hinj⟩ := h1.objs id loc' _ hloc' hm
            rw [hr] at hr'
            simp [-getElem?_pos] at hr'
            subst hr'
            refine ⟨b, r, ents, clock, rfl, h1.olt b ⟨bid, loc, hloc, by unfold Loc.blks; rw [hbb]; simp [-getElem?_pos, blkOf]⟩, ?_, hmap, hsz, fun i e y he hy => (hrel i e y he hy).1, hborn, hinj⟩
            simp [-getElem?_pos, World.cell?, hheap]

theorem nodup_idx {α β : Type} (f : α → β) {l : Array α} (h : ∀ (i j : Nat) y z, l[i]? = some y → l[j]? = some z → f y = f z → i = j) : (l.toList.map f).Nodup := by
  rw [List.nodup_iff_pairwise_ne, List.pairwise_map, List.pairwise_iff_getElem]
  intro i j hi hj hij he
  have := h i j l.toList[i] l.toList[j] (by simp [-getElem?_pos]) (by simp [-getElem?_pos]) he
  omega

theorem nodup_at {α : Type} {l : List α} (h : l.Nodup) {i j : Nat} {a : α} (hi : l[i]? = some a) (hj : l[j]? = some a) : i = j := by
  rw [List.nodup_iff_pairwise_ne, List.pairwise_iff_getElem] at h
  have li := lt_of_some hi
  have lj := lt_of_some hj
  rw [List.getElem?_eq_getElem li] at hi
  rw [List.getElem?_eq_getElem lj] at hj
  injection hi with hi
  injection hj with hj
  rcases Nat.lt_trichotomy i j with q | q | q
  · exact absurd (hi.trans hj.symm) (h i j li lj q)
  · exact q
  · exact absurd (hj.trans hi.symm) (h j i lj li q)
theorem sortedInts_ok (ks : List Int) (es : List (List C × List C)) (hk : es.map (·.1) = ks.map fun k => [I k]) (hnd : ks.Nodup) (hwf : ∀ k ∈ ks, (Lit.int .i64 k).wf = true) (hsz : ks.length ≤ 1000000000) {st : List SO} {bid id : Nat} {ag : Bool}
    (hb : st[bid]? = some (.box [.mref id])) (hm : st[id]? = some (.map false ag es)) :
    FnOK Tryz.prog GW 55 [.clo 98 [.ptr bid 0]] st (.c (.sl ((ks.mergeSort fun x y => decide (x ≤ y)).map fun k => [I k]))) st := by
  refine ⟨by kernel_rfl, fun γ w vals h1 h2 h3 h4 => ?_⟩
  obtain ⟨x, rfl, hx⟩ := one_arg (P := Tryz.prog) h3 h4
  obtain ⟨b, r, ents, clock, rfl, hblt, hcell, hmap, hes, hkey, hborn, hinj⟩ := clo_map h1 hx hb hm
  have hlen : es.length = ks.length := by simpa [-getElem?_pos] using congrArg List.length hk
  have hkeyv : ∀ (i : Nat) y, ents[i]? = some y → ∃ k, ks[i]? = some k ∧ y.key = .int .i64 k := by
    intro i y hy
    have hi : i < es.length := by rw [← hes]; exact (Array.getElem?_eq_some_iff.1 hy).1
    have he : es[i]? = some es[i] := List.getElem?_eq_getElem hi
    have hki : ks[i]? = some (ks[i]'(by omega)) := List.getElem?_eq_getElem _
    have h5 := hkey i _ y he hy
    have h6 : (es.map (·.1))[i]? = some es[i].1 := by rw [List.getElem?_map, he]; rfl
    rw [hk, List.getElem?_map, hki] at h6
    simp only [Option.map_some, Option.some.injEq] at h6
    rw [← h6] at h5
    simp only [RelCells, Bool.false_eq_true, if_false] at h5
    obtain ⟨c, hc, hr⟩ := h5
    simp [-getElem?_pos] at hc
    subst hc
    generalize y.key = q at hr
    cases hr
    exact ⟨_, hki, rfl⟩
  have hko : ∀ y ∈ ents.toList, ∃ k, k ∈ ks ∧ y.key = .int .i64 k ∧ keyOf Tryz.prog 3 y.key = some (.int .i64 k) := by
    intro y hy
    obtain ⟨i, hi⟩ := List.mem_iff_getElem?.1 hy
    obtain ⟨k, hk1, hk2⟩ := hkeyv i y (by simpa [-getElem?_pos] using hi)
    have hkm := List.mem_of_getElem? hk1
    exact ⟨k, hkm, hk2, by rw [hk2]; simp [-getElem?_pos, keyOf, mapKey, Tryz.underlying3, hwf k hkm]⟩
  let E : List (Lit × DataW Unit) := ents.toList.map (WideElems.rg Tryz.prog 3 noR)
  have hEk : E.map (fun p => _root_.Go.intOf p.1) = ks := by
    apply List.ext_getElem?
    intro i
    simp only [E, List.getElem?_map, Array.getElem?_toList]
    cases hy : ents[i]? with
    | none =>
      have : ents.size ≤ i := by simpa [-getElem?_pos] using hy
      rw [List.getElem?_eq_none (by omega)]; rfl
    | some y =>
      obtain ⟨k, hk1, hk2⟩ := hkeyv i y hy
      obtain ⟨k', _, hk3, hk4⟩ := hko y (by rw [← Array.getElem?_toList] at hy; exact List.mem_of_getElem? hy)
      simp only [Option.map_some]
      rw [rg_noR hk4, hk1]
      rw [hk2] at hk3
      simp [-getElem?_pos] at hk3
      simp [-getElem?_pos, _root_.Go.intOf, hk3]
  have hsort := WideShapes.sorted_perm E
  have hown : w.ownsMap Tryz.prog 3 noR r ents.size (.map (E.foldr DataW.insert [])) := by
    refine ⟨ents, clock, hmap, ⟨?_, ⟨?_, nodup_idx _ hinj, nodup_idx _ ?_⟩, ?_⟩, Nat.le_refl _, rfl⟩
    · unfold maxLen; omega
    · intro y hy
      obtain ⟨i, hi⟩ := List.mem_iff_getElem?.1 hy
      exact hborn i y (by simpa [-getElem?_pos] using hi)
    · intro i j y z hy hz he
      obtain ⟨k, hk1, hk2⟩ := hkeyv i y hy
      obtain ⟨k', hk3, hk4⟩ := hkeyv j z hz
      rw [hk2, hk4] at he
      simp [-getElem?_pos] at he
      subst he
      exact nodup_at hnd hk1 hk3
    · intro y hy
      obtain ⟨k, _, _, hk4⟩ := hko y hy
      exact ⟨(.int .i64 k, .nil), by simp [-getElem?_pos, WideElems.rd, hk4, noR]⟩
  have hsize : Maps.size (DataW.map (E.foldr DataW.insert [])) = ks.length := by
    show (E.foldr DataW.insert []).length = _
    rw [hsort.length_eq]
    have := congrArg List.length hEk
    simpa [-getElem?_pos] using this
  refine (Tryz.sortedI_in b r ents.size _ noR w hblt hcell hown (by rw [hsize]; unfold maxLen; omega) (by rw [hsize]; omega)).mono ?_
  rintro e w' ⟨v, ss, rfl, hperm, hrow, _, hB⟩
  have hp2 : ss.Perm ks := by
    refine hperm.trans ?_
    show ((E.foldr DataW.insert []).map fun p => _root_.Go.intOf p.1).Perm ks
    rw [← hEk]
    exact hsort.map _
  have hms : ss.mergeSort (fun x y => decide (x ≤ y)) = ks.mergeSort (fun x y => decide (x ≤ y)) := mergeSort_of_perm_i hp2
  rw [hms] at hrow
  have hl : ss.length = ((ks.mergeSort fun x y => decide (x ≤ y)).map fun k => [I k]).length := by
    rw [List.length_map, (List.mergeSort_perm _ _).length_eq, hp2.length_eq]
  rw [hl] at hrow
  obtain ⟨γ', q1, q2, q3⟩ := new_sl (xs := (ks.mergeSort fun x y => decide (x ≤ y)).map fun k => [I k]) h1 hB hrow (by simp [-getElem?_pos]) (fun i c u hi hu => by
    have hfl : ∀ l : List Int, (l.map fun k => [I k]).flatten = l.map I := by intro l; induction l <;> simp_all
    rw [hfl, List.getElem?_map] at hi
    rw [List.getElem?_map] at hu
    cases hq : (ks.mergeSort fun x y => decide (x ≤ y))[i]? with
    | none => rw [hq] at hi; cases hi
    | some k =>
      rw [hq] at hi hu
      simp only [Option.map_some, Option.some.injEq] at hi hu
      subst hi hu
      exact .int _ _)
  exact ⟨γ', v, rfl, q1, q2, q3⟩
theorem relC_str {pers : Nat → Prop} {w : World} {l : List UInt8} {v : Value} (h : RelC pers w (.str l) v) : v = encStr l := by
  cases h with | str s hs => simp [-getElem?_pos, encStr]
theorem rel_encStr {pers : Nat → Prop} {w : World} (k : List UInt8) (h : k.length ≤ 9223372036854775807) : RelC pers w (.str k) (encStr k) := by
  have := RelC.str (pers := pers) (w := w) ⟨k.toArray⟩ (by simpa [-getElem?_pos, ByteArray.size, maxLen] using h)
  simpa [-getElem?_pos, encStr] using this
theorem sortedStrs_ok (ks : List (List UInt8)) (es : List (List C × List C)) (hk : es.map (·.1) = ks.map fun k => [C.str k]) (hnd : ks.Nodup) (hwf : ∀ k ∈ ks, k.length ≤ 9223372036854775807) (hsz : ks.length ≤ 1000000000) {st : List SO} {bid id : Nat} {ag : Bool}
    (hb : st[bid]? = some (.box [.mref id])) (hm : st[id]? = some (.map false ag es)) :
    FnOK Tryz.prog GW 58 [.clo 102 [.ptr bid 0]] st (.c (.sl ((ks.mergeSort fun x y => decide (x ≤ y)).map fun k => [C.str k]))) st := by
  refine ⟨by kernel_rfl, fun γ w vals h1 h2 h3 h4 => ?_⟩
  obtain ⟨x, rfl, hx⟩ := one_arg (P := Tryz.prog) h3 h4
  obtain ⟨b, r, ents, clock, rfl, hblt, hcell, hmap, hes, hkey, hborn, hinj⟩ := clo_map h1 hx hb hm
  have hlen : es.length = ks.length := by simpa [-getElem?_pos] using congrArg List.length hk
  have hkeyv : ∀ (i : Nat) y, ents[i]? = some y → ∃ k, ks[i]? = some k ∧ y.key = encStr k := by
    intro i y hy
    have hi : i < es.length := by rw [← hes]; exact (Array.getElem?_eq_some_iff.1 hy).1
    have he : es[i]? = some es[i] := List.getElem?_eq_getElem hi
    have hki : ks[i]? = some (ks[i]'(by omega)) := List.getElem?_eq_getElem _
    have h5 := hkey i _ y he hy
    have h6 : (es.map (·.1))[i]? = some es[i].1 := by rw [List.getElem?_map, he]; rfl
    rw [hk, List.getElem?_map, hki] at h6
    simp only [Option.map_some, Option.some.injEq] at h6
    rw [← h6] at h5
    simp only [RelCells, Bool.false_eq_true, if_false] at h5
    obtain ⟨c, hc, hr⟩ := h5
    simp [-getElem?_pos] at hc
    subst hc
    generalize y.key = q at hr
    exact ⟨_, hki, relC_str hr⟩
  have hko : ∀ y ∈ ents.toList, ∃ k, k ∈ ks ∧ y.key = encStr k ∧ keyOf Tryz.prog 9 y.key = some (.string k) := by
    intro y hy
    obtain ⟨i, hi⟩ := List.mem_iff_getElem?.1 hy
    obtain ⟨k, hk1, hk2⟩ := hkeyv i y (by simpa [-getElem?_pos] using hi)
    have hkm := List.mem_of_getElem? hk1
    exact ⟨k, hkm, hk2, by rw [hk2]; simp [-getElem?_pos, encStr, keyOf, mapKey, Tryz.underlying9, maxLen, ByteArray.size]; exact hwf k hkm⟩
  let E : List (Lit × DataW Unit) := ents.toList.map (WideElems.rg Tryz.prog 9 noR)
  have hEk : E.map (fun p => _root_.Go.strOf p.1) = ks := by
    apply List.ext_getElem?
    intro i
    simp only [E, List.getElem?_map, Array.getElem?_toList]
    cases hy : ents[i]? with
    | none =>
      have : ents.size ≤ i := by simpa [-getElem?_pos] using hy
      rw [List.getElem?_eq_none (by omega)]; rfl
    | some y =>
      obtain ⟨k, hk1, hk2⟩ := hkeyv i y hy
      obtain ⟨k', _, hk3, hk4⟩ := hko y (by rw [← Array.getElem?_toList] at hy; exact List.mem_of_getElem? hy)
      simp only [Option.map_some]
      rw [rg_noR hk4, hk1]
      rw [hk2] at hk3
      have hk3 := encStr_inj hk3
      simp [-getElem?_pos, _root_.Go.strOf, hk3]
  have hsort := WideShapes.sorted_perm E
  have hown : w.ownsMap Tryz.prog 9 noR r ents.size (.map (E.foldr DataW.insert [])) := by
    refine ⟨ents, clock, hmap, ⟨?_, ⟨?_, nodup_idx _ hinj, nodup_idx _ ?_⟩, ?_⟩, Nat.le_refl _, rfl⟩
    · unfold maxLen; omega
    · intro y hy
      obtain ⟨i, hi⟩ := List.mem_iff_getElem?.1 hy
      exact hborn i y (by simpa [-getElem?_pos] using hi)
    · intro i j y z hy hz he
      obtain ⟨k, hk1, hk2⟩ := hkeyv i y hy
      obtain ⟨k', hk3, hk4⟩ := hkeyv j z hz
      rw [hk2, hk4] at he
      have he := encStr_inj he
      subst he
      exact nodup_at hnd hk1 hk3
    · intro y hy
      obtain ⟨k, _, _, hk4⟩ := hko y hy
      exact ⟨(.string k, .nil), by simp [-getElem?_pos, WideElems.rd, hk4, noR]⟩
  have hsize : Maps.size (DataW.map (E.foldr DataW.insert [])) = ks.length := by
    show (E.foldr DataW.insert []).length = _
    rw [hsort.length_eq]
    have := congrArg List.length hEk
    simpa [-getElem?_pos] using this
  refine (Tryz.sortedS_in b r ents.size _ noR w hblt hcell hown (by rw [hsize]; unfold maxLen; omega) (by rw [hsize]; omega)).mono ?_
  rintro e w' ⟨v, ss, rfl, hperm, hrow, _, hB⟩
  have hp2 : ss.Perm ks := by
    refine hperm.trans ?_
    show ((E.foldr DataW.insert []).map fun p => _root_.Go.strOf p.1).Perm ks
    rw [← hEk]
    exact hsort.map _
  have hms : ss.mergeSort (fun x y => decide (x ≤ y)) = ks.mergeSort (fun x y => decide (x ≤ y)) := mergeSort_of_perm hp2
  rw [hms] at hrow
  have hl : ss.length = ((ks.mergeSort fun x y => decide (x ≤ y)).map fun k => [C.str k]).length := by
    rw [List.length_map, (List.mergeSort_perm _ _).length_eq, hp2.length_eq]
  rw [hl] at hrow
  obtain ⟨γ', q1, q2, q3⟩ := new_sl (xs := (ks.mergeSort fun x y => decide (x ≤ y)).map fun k => [C.str k]) h1 hB hrow (by simp [-getElem?_pos]) (fun i c u hi hu => by
    have hfl : ∀ l : List (List UInt8), (l.map fun k => [C.str k]).flatten = l.map C.str := by intro l; induction l <;> simp_all
    rw [hfl, List.getElem?_map] at hi
    rw [List.getElem?_map] at hu
    cases hq : (ks.mergeSort fun x y => decide (x ≤ y))[i]? with
    | none => rw [hq] at hi; cases hi
    | some k =>
      rw [hq] at hi hu
      simp only [Option.map_some, Option.some.injEq] at hi hu
      subst hi hu
      exact rel_encStr _ (hwf k ((List.mergeSort_perm _ _).mem_iff.1 (List.mem_of_getElem? hq))))
  exact ⟨γ', v, rfl, q1, q2, q3⟩
end Go.Proofs.YthkmfboffnhkaaaGreatDoor
