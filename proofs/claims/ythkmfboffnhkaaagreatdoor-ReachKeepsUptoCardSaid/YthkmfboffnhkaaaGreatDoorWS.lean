/-
  Own rows of strings: sorted, compacted; what an iterator gives, sorted into a row of one's own.
-/
import Derived.Test.YthkmfboffnhkaaaGreatDoorWI
import Derived.Test.YthkmfboffnhkaaaGreatDoorPL
import Derived.Shelf.SlicesG.CompactS
import Derived.Ground.SlgnProg
set_option linter.all false
namespace Go.Proofs
open Go.RowKit Go.Maps Go.Sort Go.Shelf
def Tryz.compactS_ren : Go.Shelf.Ren := ⟨fun | 44 => 66 | n => n, fun | 25 => 23 | 26 => 9 | 3 => 3 | 4 => 4 | 0 => 0 | n => n, fun | n => n⟩
theorem Tryz.compactS : Go.Proofs.SlLaysN.n44 Tryz.prog Tryz.compactS_ren := {
  mixed := by kernel_rfl,
  f44 := ⟨Tryz.f66.name, by decide, Tryz.func66.trans (congrArg some (by kernel_rfl))⟩,
  t0 := Tryz.underlying0,
  a0 := Tryz.isAgg0,
  z0 := Tryz.sizeOf0,
  v0 := Tryz.zeroValue0,
  t3 := Tryz.underlying3,
  a3 := Tryz.isAgg3,
  z3 := Tryz.sizeOf3,
  v3 := Tryz.zeroValue3,
  t4 := Tryz.underlying4,
  a4 := Tryz.isAgg4,
  z4 := Tryz.sizeOf4,
  v4 := Tryz.zeroValue4,
  t25 := Tryz.underlying23,
  a25 := Tryz.isAgg23,
  z25 := Tryz.sizeOf23,
  v25 := Tryz.zeroValue23,
  t26 := Tryz.underlying9,
  a26 := Tryz.isAgg9,
  z26 := Tryz.sizeOf9,
  v26 := Tryz.zeroValue9,
  i26 := by kernel_rfl }
theorem Tryz.sortedS_gen (g : Nat) (lb : Array Value) (eg : ∀ args w, (callFunc g args).run Tryz.prog w = .ok (.enter g args) w) (S : List (List UInt8) → Prop) (N : Nat) (hN : N ≤ maxLen) (hNb : N * 16 ≤ 140737488355328) (w : World)
    (hseq : SeqGives Fence.wide 2 Tryz.prog g lb encStr S N w) : Calls Tryz.prog 58 #[.func (.func g) #[] lb] w fun e w' => ∃ (v : Value) (ss : List (List UInt8)), e = .returned v ∧ S ss ∧
      w'.ownsRow w.heap.size 9 1 v ss.length ((ss.mergeSort (fun x y => decide (x ≤ y))).map encStr) ∧ (v = .slice none 0 0 ↔ ss = []) ∧ Below w.heap.size w w' := by
  have cS := AnyZ.sorted_in Tryz.sortedS Fence.wide 5 trivial trivial trivial trivial rfl (by omega) (Tryz.sortsS _) (enters_of Tryz.func71 (by kernel_rfl) rfl) g lb trivial eg S N hN hNb w hseq
  exact callsIn_wide.1 cS
end Go.Proofs
namespace Go.Proofs.YthkmfboffnhkaaaGreatDoor
open Go Go.L1 Go.RowKit Go.Maps Go.Sort Go.Shelf
set_option maxRecDepth 100000
set_option maxHeartbeats 4000000

theorem dedupA_snoc (x : Str) : ∀ l : List Str, dedupA (l ++ [x]) = if l.getLast? = some x then dedupA l else dedupA l ++ [x]
  | [] => by simp [-getElem?_pos, dedupA]
  | [y] => by
    by_cases h : y = x
    · simp [-getElem?_pos, dedupA, h]
    · simp [-getElem?_pos, dedupA, h]
  | y :: z :: r => by
    have ih := dedupA_snoc x (z :: r)
    simp only [List.cons_append] at ih ⊢
    have hl : (y :: z :: r).getLast? = (z :: r).getLast? := by simp [-getElem?_pos, List.getLast?_cons_cons]
    rw [hl]
    by_cases h : y = z
    · rw [dedupA, if_pos h, ih]
      rw [show dedupA (y :: z :: r) = dedupA (z :: r) by rw [dedupA, if_pos h]]
    · rw [dedupA, if_neg h, ih]
      rw [show dedupA (y :: z :: r) = y :: dedupA (z :: r) by rw [dedupA, if_neg h]]
      split <;> simp [-getElem?_pos]
theorem compact_dedup (zs : List Str) : Lib.compact zs = dedupA zs := by
  have key : ∀ m, m ≤ zs.length → Lib.compactUpTo zs.toArray m = dedupA (zs.take m) := by
    intro m
    induction m with
    | zero => intro _; simp [-getElem?_pos, Lib.compactUpTo, dedupA]
    | succ m ih =>
      intro hm
      have hlt : m < zs.length := by omega
      have hz : zs.toArray[m]! = zs[m] := by simp [-getElem?_pos, hlt]
      rw [Lib.compactUpTo_succ, ih (by omega), List.take_add_one, List.getElem?_eq_getElem hlt, Option.toList_some, dedupA_snoc, hz]
      cases m with
      | zero => simp [-getElem?_pos, Lib.keeps]
      | succ k =>
        have hk : k < zs.length := by omega
        have hl : (zs.take (k + 1)).getLast? = some zs[k] := by
          rw [List.take_add_one, List.getElem?_eq_getElem hk]; exact List.getLast?_concat
        have hz1 : zs.toArray[k]! = zs[k] := by simp [-getElem?_pos, hk]
        rw [hl]
        by_cases h : zs[k] = zs[k + 1]
        · have : Lib.keeps zs.toArray (k + 1) = false := Lib.keeps_neg (by omega) (by rw [hz, show k + 1 - 1 = k by omega, hz1, h])
          rw [this]; simp [-getElem?_pos, h]
        · have : Lib.keeps zs.toArray (k + 1) = true := Lib.keeps_pos (by rw [hz, show k + 1 - 1 = k by omega, hz1]; exact fun he => h he.symm)
          rw [this]; simp [-getElem?_pos, h]
  have := key zs.length (Nat.le_refl _)
  rw [List.take_length] at this
  exact this

/-- A new row, of one's own. -/
theorem new_own {γ : Gh} {st : List SO} {w w' : World} {e : TypeId} {esz : Nat} {v : Value} {xs : List (List C)} {vs : List Value} (hr : RelW γ st w) (hB : Below w.heap.size w w')
    (hown : w'.ownsRow w.heap.size e esz v xs.length vs) (hz : ∀ x ∈ xs, x.length = esz) (hrel : ∀ (i : Nat) c u, xs.flatten[i]? = some c → vs[i]? = some u → RelC γ.pers w c u) :
    ∃ γ' : Gh, RelW γ' (st ++ [.arr e esz 0 xs]) w' ∧ RelV γ' w' (.own st.length 0) v ∧ Evo γ.locs.length γ w γ' w' := by
  have hpk : ∀ b, γ.pers b → w'.heap[b]? = w.heap[b]? := fun b hb => hB.block b (hr.plt b hb)
  let l : L1.Loc := ⟨v, none, 0⟩
  obtain ⟨a, n, c, hv⟩ := ownsRow_slice hown
  have hfix : l.fix = false := by show L1.Loc.fix ⟨v, none, 0⟩ = false; rw [hv]; rfl
  have hblk : ∀ b ∈ l.blks, w.heap.size ≤ b ∧ b < w'.heap.size := by
    intro b hb
    have hb' : blkOf v = some b := by
      simpa [-getElem?_pos, l, L1.Loc.blks] using hb
    rcases hown.2 with ⟨h1, _⟩ | ⟨g, cap, cur, h1, h2, h3, _⟩
    · rw [h1] at hb'; cases hb'
    · rw [h1] at hb'
      simp [-getElem?_pos, blkOf] at hb'
      subst hb'
      exact ⟨h2, (Array.getElem?_eq_some_iff.1 h3).1⟩
  have hnd : l.blks.Nodup := by
    simp only [l, L1.Loc.blks]
    cases blkOf v <;> simp [-getElem?_pos]
  have hrow : w'.ownsRow 0 e esz v xs.length vs := by
    refine ⟨hown.1, ?_⟩
    rcases hown.2 with h1 | ⟨g, cap, cur, h1, h2, h3⟩
    · exact .inl h1
    · exact .inr ⟨g, cap, cur, h1, Nat.zero_le _, h3⟩
  refine ⟨γ.push l, hr.push hB.size hB.block hblk hnd ⟨rfl, rfl, hfix, vs, hrow, hz, fun i c u hc hu => (hrel i c u hc hu).mono (fun _ h => h) hpk⟩, ?_, evoX_none (evoX_push hB.os hB.tape hB.output hB.size hB.block fun b hb => (hblk b hb).1)⟩
  exact RelV.own st.length 0 l v (push_get.2 (.inr ⟨hr.len.symm, rfl⟩)) hfix (Nat.le_refl _) (by rw [hv]; rfl) fun _ => rfl

/-- A row of one's own is turned where it lies; new blocks. -/
theorem reobjG {γ : Gh} {st : List SO} {w w' : World} {id : Nat} {l : L1.Loc} {o' : SO} (h : RelW γ st w) (hl : γ.locs[id]? = some l) (hb2 : l.blk2 = none)
    (hg : w.grownBy w' (blkOf l.hdr)) (ho : RelO γ w' l o') : RelW γ (st.set id o') w' ∧ EvoX none γ w γ w' := by
  have hnb : ∀ b, γ.pers b → some b ≠ blkOf l.hdr := fun b hb he => h.apart b hb ⟨id, l, hl, by unfold L1.Loc.blks; rw [← he]; simp [-getElem?_pos]⟩
  have hpk : ∀ b, γ.pers b → w'.heap[b]? = w.heap[b]? := fun b hb => hg.block b (h.plt b hb) (hnb b hb)
  refine ⟨⟨by simp [-getElem?_pos, h.len], Nat.le_trans h.basesz hg.size, fun b hb => ⟨(h.base b hb).1, (hpk b (h.base b hb).1).trans (h.base b hb).2⟩, fun b hb => Nat.lt_of_lt_of_le (h.plt b hb) hg.size,
      fun b hb => Nat.lt_of_lt_of_le (h.olt b hb) hg.size, h.apart, h.inj, h.two, fun i l' o1 hl' ho' => ?_⟩,
    ⟨rfl, hg.os, hg.tape, hg.output, hg.size, fun b' hb' hno _ => hg.block b' hb' (fun he => hno ⟨id, l, hl, by unfold L1.Loc.blks; rw [← he]; simp [-getElem?_pos]⟩), fun _ h => h, fun _ h _ => .inl h, fun _ h _ => h, .refl _ _⟩⟩
  by_cases hi : i = id
  · subst hi
    have hll : l' = l := Option.some.inj (hl'.symm.trans hl)
    subst hll
    rw [List.getElem?_set_self (by rw [← h.len]; exact lt_of_some hl)] at ho'
    injection ho' with ho'
    subst ho'
    exact ho
  · rw [List.getElem?_set_ne (Ne.symm hi)] at ho'
    refine (h.objs i l' o1 hl' ho').mono (fun _ h => h) hpk (.refl _ _) fun b hb => ?_
    have hbo : γ.owns b := ⟨i, l', hl', hb⟩
    refine hg.block b (h.olt b hbo) fun he => hi ?_
    exact h.inj i id l' l b hl' hl hb (by unfold L1.Loc.blks; rw [← he]; simp [-getElem?_pos])

/-- Strings as a row's cells. -/
def strs (l : List Str) : List (List C) := l.map fun s => [C.str s]
theorem strs_len (l : List Str) : (strs l).length = l.length := by simp [-getElem?_pos, strs]
theorem strs_flat (l : List Str) : (strs l).flatten = l.map C.str := by
  unfold strs
  induction l <;> simp_all
theorem strs_one (l : List Str) : ∀ x ∈ strs l, x.length = 1 := by simp [-getElem?_pos, strs]
theorem strs_rel {p : Nat → Prop} {w : World} {l : List Str} (hwf : ∀ k ∈ l, k.length ≤ 9223372036854775807) : ∀ (i : Nat) c u, (strs l).flatten[i]? = some c → (l.map encStr)[i]? = some u → RelC p w c u := by
  intro i c u hi hu
  rw [strs_flat, List.getElem?_map] at hi
  rw [List.getElem?_map] at hu
  cases hq : l[i]? with
  | none => rw [hq] at hi; cases hi
  | some k =>
    rw [hq] at hi hu
    simp only [Option.map_some, Option.some.injEq] at hi hu
    subst hi hu
    exact rel_encStr _ (hwf k (List.mem_of_getElem? hq))
theorem strs_vals {p : Nat → Prop} {w : World} {l : List Str} {vs : List Value} (hl : vs.length = l.length) (h : ∀ (i : Nat) c u, (strs l).flatten[i]? = some c → vs[i]? = some u → RelC p w c u) : vs = l.map encStr := by
  apply List.ext_getElem?
  intro i
  rw [List.getElem?_map]
  cases hq : l[i]? with
  | none =>
    have : vs[i]? = none := by rw [List.getElem?_eq_none_iff] at hq ⊢; omega
    rw [this]; rfl
  | some k =>
    have hlt := lt_of_some hq
    have hu : vs[i]? = some (vs[i]'(by omega)) := List.getElem?_eq_getElem _
    have := h i (.str k) _ (by rw [strs_flat, List.getElem?_map, hq]; rfl) hu
    rw [hu, relC_str this]; rfl
/-- Where an own row of strings lies. -/
theorem own_strs {γ : Gh} {st : List SO} {w : World} {id ep : Nat} {xs : List Str} {x : Value} (h1 : RelW γ st w) (ho : st[id]? = some (.arr 9 1 ep (strs xs))) (hx : RelV γ w (.own id ep) x) :
    ∃ l, γ.locs[id]? = some l ∧ l.blk2 = none ∧ l.fix = false ∧ l.epoch = ep ∧ x = l.hdr ∧ w.ownsRow 0 9 1 l.hdr xs.length (xs.map encStr) ∧ (∀ k ∈ xs, k.length ≤ 9223372036854775807) := by
  cases hx with
  | own _ _ l _ hloc hfix hle hone hhdr =>
    obtain ⟨hb2, hep, hfix2, vs, hown, hlen, hrel⟩ := h1.objs id l _ hloc ho
    rw [strs_len] at hown
    have hvs : vs = xs.map encStr := strs_vals (by rw [hown.1]; simp [-getElem?_pos]) hrel
    rw [hvs] at hown hrel
    refine ⟨l, hloc, hb2, hfix, hep, hhdr hep, hown, fun k hk => ?_⟩
    obtain ⟨i, hi⟩ := List.mem_iff_getElem?.1 hk
    have := hrel i (.str k) (encStr k) (by rw [strs_flat, List.getElem?_map, hi]; rfl) (by rw [List.getElem?_map, hi]; rfl)
    generalize hv : encStr k = u at this
    generalize hc : C.str k = cc at this
    cases this with
    | str s hs =>
      injection hc with hc
      rw [hc]
      have e : s.data.toList.length = s.size := by rw [Array.length_toList]; rfl
      rw [e]; exact hs
    | _ => cases hc
theorem sortOwn_ok (xs : List Str) (hl : xs.length ≤ 1000000000) {st : List SO} {id ep : Nat} (ho : st[id]? = some (.arr 9 1 ep (strs xs))) :
    FnOK Tryz.prog GW 71 [.own id ep] st (.tup []) (st.set id (.arr 9 1 ep (strs (sorted xs)))) := by
  refine ⟨by kernel_rfl, fun γ w vals h1 h2 h3 h4 => ?_⟩
  obtain ⟨x, rfl, hx⟩ := one_arg (P := Tryz.prog) h3 h4
  obtain ⟨l, hloc, hb2, hfix, hep, rfl, hown, hwf⟩ := own_strs h1 ho hx
  have hsl : (sorted xs).length = xs.length := (sorted_perm xs).length_eq
  have hswf : ∀ k ∈ sorted xs, k.length ≤ 9223372036854775807 := fun k hk => hwf k ((sorted_perm xs).mem_iff.1 hk)
  rcases hown.2 with ⟨hv, hn⟩ | ⟨g, cap, cur, hv, hb, hg, hnc, hcm, hcs, htk⟩
  · have hnil : xs = [] := List.eq_nil_of_length_eq_zero hn
    subst hnil
    rw [hv]
    refine (AnyM.slices_Sort_string_none Tryz.sortS none 0 w).mono ?_
    rintro e w' ⟨rfl, rfl⟩
    have : sorted [] = [] := by simp [-getElem?_pos, sorted]
    rw [this]
    have hset : st.set id (.arr 9 1 ep (strs [])) = st := by
      apply List.ext_getElem?
      intro i
      by_cases hi : i = id
      · subst hi; rw [List.getElem?_set_self (lt_of_some ho), ho]
      · rw [List.getElem?_set_ne (Ne.symm hi)]
    rw [hset]
    exact ⟨γ, _, rfl, h1, .tup [] #[] rfl (by simp [-getElem?_pos]), .refl _ _ _⟩
  · rw [hv]
    simp only [Nat.mul_one] at htk hcs
    have hH := holds_of_block (ss := xs) hg htk
    refine (AnyM.slices_Sort_string Tryz.sortS g 0 cap xs w hH (Array.getElem?_eq_some_iff.1 hg).1 (by omega)).mono ?_
    rintro e w' ⟨rfl, k, os, rfl⟩
    have hrow := ownsRow_sorted (w := w) (n := k) (os := os) (base := 0) (cap := cap) (ss := xs) (ts := sorted xs) hsl (Nat.zero_le _) hg hnc hcm (by simpa [-getElem?_pos] using hcs)
    obtain ⟨q1, q2⟩ := reobjG (w' := grow (putRow encStr (Sort.ahead w k) g 0 (sorted xs).toArray) os) (o' := .arr 9 1 ep (strs (sorted xs))) h1 hloc hb2 (by rw [hv]; exact grownBy_sorted _)
      ⟨hb2, hep, hfix, (sorted xs).map encStr, by rw [hv, strs_len, hsl]; exact hrow, strs_one _, strs_rel hswf⟩
    exact ⟨γ, _, rfl, q1, .tup [] #[] rfl (by simp [-getElem?_pos]), evoX_none q2⟩
theorem compactOwn_ok (xs : List Str) (hl : xs.length ≤ 1000000000) {st : List SO} {id ep : Nat} (ho : st[id]? = some (.arr 9 1 ep (strs xs))) :
    FnOK Tryz.prog GW 66 [.own id ep] st (.own id (ep + 1)) (st.set id (.arr 9 1 (ep + 1) (strs (dedupA xs)))) := by
  refine ⟨by kernel_rfl, fun γ w vals h1 h2 h3 h4 => ?_⟩
  obtain ⟨x, rfl, hx⟩ := one_arg (P := Tryz.prog) h3 h4
  obtain ⟨l, hloc, hb2, hfix, hep, rfl, hown, hwf⟩ := own_strs h1 ho hx
  have hdl := dedupA_len xs
  have hdwf : ∀ k ∈ dedupA xs, k.length ≤ 9223372036854775807 := fun k hk => hwf k ((dedupA_mem xs k).1 hk)
  have fin : ∀ v' w', w.grownBy w' (blkOf l.hdr) → w'.ownsRow 0 9 1 v' (dedupA xs).length ((dedupA xs).map encStr) → (blkOf v' = none ∨ blkOf v' = blkOf l.hdr) →
      ∃ γ', RelW γ' (st.set id (.arr 9 1 (ep + 1) (strs (dedupA xs)))) w' ∧ RelV γ' w' (.own id (ep + 1)) v' ∧ Evo γ.locs.length γ w γ' w' := by
    intro v' w' hgr hown' hat
    obtain ⟨a, n, c, hvs⟩ := ownsRow_slice hown'
    have hf' : (⟨v', none, l.epoch + 1⟩ : L1.Loc).fix = false := by rw [hvs]; rfl
    obtain ⟨hw', hev'⟩ := regrow (o' := .arr 9 1 (ep + 1) (strs (dedupA xs))) h1 hloc hb2 hfix hf' hgr (ownsRow_lt hown') (hat.elim .inl fun h => .inr (.inl h))
      ⟨rfl, by simp [-getElem?_pos, hep], hf', (dedupA xs).map encStr, by rw [strs_len]; exact hown', strs_one _, strs_rel hdwf⟩
    exact ⟨_, hw', RelV.own id (ep + 1) ⟨v', none, l.epoch + 1⟩ v' (List.getElem?_set_self (lt_of_some hloc)) hf' (by simp [-getElem?_pos, hep]) (by rw [hvs]; rfl) (fun _ => rfl), evoX_none hev'⟩
  rcases hown.2 with ⟨hv, hn⟩ | ⟨g, cap, cur, hv, hb, hg, hnc, hcm, hcs, htk⟩
  · have hnil : xs = [] := List.eq_nil_of_length_eq_zero hn
    rw [hv]
    refine (AnyG.slices_Compact_string_empty Tryz.compactS none 0 w).mono ?_
    rintro e w' ⟨rfl, rfl⟩
    obtain ⟨γ', k1, k2, k3⟩ := fin (.slice none 0 0) w' (World.grownBy.refl _ _) (by rw [hnil]; exact ⟨rfl, .inl ⟨rfl, rfl⟩⟩) (.inl rfl)
    exact ⟨γ', _, rfl, k1, k2, k3⟩
  · rw [hv]
    simp only [Nat.mul_one] at htk hcs
    have hH := holds_of_block (ss := xs) hg htk
    refine (AnyG.slices_Compact_string Tryz.compactS g 0 cap xs w hH (by omega) hnc).mono ?_
    rintro e w' ⟨rfl, q, rfl⟩
    rw [compact_dedup]
    generalize hts : dedupA xs ++ List.replicate (xs.length - (dedupA xs).length) [] = ts
    have htl : ts.length = xs.length := by rw [← hts]; simp [-getElem?_pos]; omega
    rw [← grow_empty (putRow encStr (Sort.ahead w q) g 0 ts.toArray)]
    have hheap := heap_sorted (n := q) (os := #[]) ts.toArray hg
    have hsz : (putCells encStr 0 ts.toArray cur).size = cur.size := by simp [-getElem?_pos, putCells]
    have htake := take_putCells cur ts (by omega)
    have htk2 : (putCells encStr 0 ts.toArray cur).toList.take ((dedupA xs).length * 1) = (dedupA xs).map encStr := by
      have := congrArg (List.take (dedupA xs).length) htake
      rw [List.take_take, Nat.min_eq_left (by omega), ← List.map_take] at this
      rw [Nat.mul_one, this, ← hts, List.take_left]
    obtain ⟨γ', k1, k2, k3⟩ := fin (.slice (some ⟨g, 0, none⟩) (dedupA xs).length cap) _ (by rw [hv]; exact grownBy_sorted (n := q) (os := #[]) ts.toArray)
      ⟨by simp [-getElem?_pos], .inr ⟨g, cap, _, rfl, Nat.zero_le _, hheap, by omega, hcm, by rw [hsz]; simpa [-getElem?_pos] using hcs, htk2⟩⟩ (.inr (by rw [hv]; rfl))
    exact ⟨γ', _, rfl, k1, k2, k3⟩
/-- What an iterator gives, sorted into a row of one's own. -/
theorem sortedSeq_ok {F : FuncId} {caps : List V} (ks : List Str) (hwf : ∀ k ∈ ks, k.length ≤ 9223372036854775807) (hF : ∀ args w, (callFunc F args).run Tryz.prog w = .ok (.enter F args) w) {st : List SO}
    (hseq : ∀ γ w x, RelW γ st w → GW γ.base → RelV γ w (.clo F caps) x → ∃ lb N, x = .func (.func F) #[] lb ∧ N ≤ 1000000000 ∧ SeqGives Fence.wide 2 Tryz.prog F lb encStr (fun ss => ss.Perm ks) N w) :
    FnOK Tryz.prog GW 58 [.clo F caps] st (.own st.length 0) (st ++ [.arr 9 1 0 (strs (sorted ks))]) := by
  refine ⟨by kernel_rfl, fun γ w vals h1 h2 h3 h4 => ?_⟩
  obtain ⟨x, rfl, hx⟩ := one_arg (P := Tryz.prog) h3 h4
  obtain ⟨lb, N, rfl, hN, hs⟩ := hseq γ w x h1 h2 hx
  refine (Tryz.sortedS_gen F lb hF _ N (by unfold maxLen; omega) (by omega) w hs).mono ?_
  rintro e w' ⟨v, ss, rfl, hperm, hrow, _, hB⟩
  have hms : ss.mergeSort (fun x y => decide (x ≤ y)) = sorted ks := mergeSort_of_perm hperm
  rw [hms] at hrow
  have hl : ss.length = (strs (sorted ks)).length := by
    rw [strs_len, (sorted_perm ks).length_eq, hperm.length_eq]
  rw [hl] at hrow
  obtain ⟨γ', q1, q2, q3⟩ := new_own (xs := strs (sorted ks)) h1 hB hrow (strs_one _) (strs_rel fun k hk => hwf k ((sorted_perm ks).mem_iff.1 hk))
  exact ⟨γ', v, rfl, q1, q2, q3⟩
/-- What an iterator gives, sorted: data. -/
theorem sortedSeqD_ok {F : FuncId} {caps : List V} (ks : List Str) (hwf : ∀ k ∈ ks, k.length ≤ 9223372036854775807) (hF : ∀ args w, (callFunc F args).run Tryz.prog w = .ok (.enter F args) w) {st : List SO}
    (hseq : ∀ γ w x, RelW γ st w → GW γ.base → RelV γ w (.clo F caps) x → ∃ lb N, x = .func (.func F) #[] lb ∧ N ≤ 1000000000 ∧ SeqGives Fence.wide 2 Tryz.prog F lb encStr (fun ss => ss.Perm ks) N w) :
    FnOK Tryz.prog GW 58 [.clo F caps] st (.c (.sl (strs (sorted ks)))) st := by
  refine ⟨by kernel_rfl, fun γ w vals h1 h2 h3 h4 => ?_⟩
  obtain ⟨x, rfl, hx⟩ := one_arg (P := Tryz.prog) h3 h4
  obtain ⟨lb, N, rfl, hN, hs⟩ := hseq γ w x h1 h2 hx
  refine (Tryz.sortedS_gen F lb hF _ N (by unfold maxLen; omega) (by omega) w hs).mono ?_
  rintro e w' ⟨v, ss, rfl, hperm, hrow, _, hB⟩
  have hms : ss.mergeSort (fun x y => decide (x ≤ y)) = sorted ks := mergeSort_of_perm hperm
  rw [hms] at hrow
  have hl : ss.length = (strs (sorted ks)).length := by
    rw [strs_len, (sorted_perm ks).length_eq, hperm.length_eq]
  rw [hl] at hrow
  obtain ⟨γ', q1, q2, q3⟩ := new_sl (xs := strs (sorted ks)) h1 hB hrow (strs_one _) (strs_rel fun k hk => hwf k ((sorted_perm ks).mem_iff.1 hk))
  exact ⟨γ', v, rfl, q1, q2, q3⟩
/-- The keys of a map by strings, by whichever of maps.Keys' closures. -/
def KeysGive (F : FuncId) : Prop := ∀ (b r nn : Nat) (D0 : DataW Unit) (R : Value → Option (DataW Unit × List MemPlace)) (w : World), b < w.heap.size → w.cell? ⟨b, 0, none⟩ = some (.map (some r)) → w.ownsMap Tryz.prog 9 R r nn D0 →
    SeqGives Fence.wide 2 Tryz.prog F #[.pointer (some ⟨b, 0, none⟩)] encStr (fun ss => ss.Perm (strKeys D0)) (Maps.size D0) w
theorem keysStr_seq {F : FuncId} (hg : KeysGive F) (ks : List Str) (es : List (List C × List C)) (hk : es.map (·.1) = ks.map fun k => [C.str k]) (hnd : ks.Nodup) (hwf : ∀ k ∈ ks, k.length ≤ 9223372036854775807) (hsz : ks.length ≤ 1000000000) {st : List SO} {bid id : Nat} {ag : Bool}
    (hb : st[bid]? = some (.box [.mref id])) (hm : st[id]? = some (.map false ag es)) :
    ∀ γ w x, RelW γ st w → GW γ.base → RelV γ w (.clo F [.ptr bid 0]) x → ∃ lb N, x = .func (.func F) #[] lb ∧ N ≤ 1000000000 ∧ SeqGives Fence.wide 2 Tryz.prog F lb encStr (fun ss => ss.Perm ks) N w := by
  intro γ w x h1 h2 hx
  obtain ⟨b, r, ents, clock, rfl, hblt, hcell, hmap, hes, hkey, hborn, hinj⟩ := clo_map h1 hx hb hm
  have hlen : es.length = ks.length := by simpa [-getElem?_pos] using congrArg List.length hk
  have hkeyv : ∀ (i : Nat) y, ents[i]? = some y → ∃ k, ks[i]? = some k ∧ y.key = encStr k := by
    intro i y hy
    have hi : i < es.length := by rw [← hes]; exact (Array.getElem?_eq_some_iff.1 hy).1
    have he : es[i]? = some es[i] := List.getElem?_eq_getElem hi
    have hki : ks[i]? = some (ks[i]'(by omega)) := List.getElem?_eq_getElem _
    have h5 := hkey i _ y he hy
    have h6 : (es.map (·.1))[i]? = some es[i].1 := by rw [List.getElem?_map, he]; rfl
    rw [hk, List.getElem?_map, hki] at h6
    simp only [Option.map_some, Option.some.injEq] at h6
    rw [← h6] at h5
    simp only [RelCells, Bool.false_eq_true, if_false] at h5
    obtain ⟨c, hc, hr⟩ := h5
    simp [-getElem?_pos] at hc
    subst hc
    generalize y.key = q at hr
    exact ⟨_, hki, relC_str hr⟩
  have hko : ∀ y ∈ ents.toList, ∃ k, k ∈ ks ∧ y.key = encStr k ∧ keyOf Tryz.prog 9 y.key = some (.string k) := by
    intro y hy
    obtain ⟨i, hi⟩ := List.mem_iff_getElem?.1 hy
    obtain ⟨k, hk1, hk2⟩ := hkeyv i y (by simpa [-getElem?_pos] using hi)
    have hkm := List.mem_of_getElem? hk1
    exact ⟨k, hkm, hk2, by rw [hk2]; simp [-getElem?_pos, encStr, keyOf, mapKey, Tryz.underlying9, maxLen, ByteArray.size]; exact hwf k hkm⟩
  let E : List (Lit × DataW Unit) := ents.toList.map (WideElems.rg Tryz.prog 9 noR)
  have hEk : E.map (fun p => _root_.Go.strOf p.1) = ks := by
    apply List.ext_getElem?
    intro i
    simp only [E, List.getElem?_map, Array.getElem?_toList]
    cases hy : ents[i]? with
    | none =>
      have : ents.size ≤ i := by simpa [-getElem?_pos] using hy
      rw [List.getElem?_eq_none (by omega)]; rfl
    | some y =>
      obtain ⟨k, hk1, hk2⟩ := hkeyv i y hy
      obtain ⟨k', _, hk3, hk4⟩ := hko y (by rw [← Array.getElem?_toList] at hy; exact List.mem_of_getElem? hy)
      simp only [Option.map_some]
      rw [rg_noR hk4, hk1]
      rw [hk2] at hk3
      have hk3 := encStr_inj hk3
      simp [-getElem?_pos, _root_.Go.strOf, hk3]
  have hsort := WideShapes.sorted_perm E
  have hown : w.ownsMap Tryz.prog 9 noR r ents.size (.map (E.foldr DataW.insert [])) := by
    refine ⟨ents, clock, hmap, ⟨?_, ⟨?_, nodup_idx _ hinj, nodup_idx _ ?_⟩, ?_⟩, Nat.le_refl _, rfl⟩
    · unfold maxLen; omega
    · intro y hy
      obtain ⟨i, hi⟩ := List.mem_iff_getElem?.1 hy
      exact hborn i y (by simpa [-getElem?_pos] using hi)
    · intro i j y z hy hz he
      obtain ⟨k, hk1, hk2⟩ := hkeyv i y hy
      obtain ⟨k', hk3, hk4⟩ := hkeyv j z hz
      rw [hk2, hk4] at he
      have he := encStr_inj he
      subst he
      exact nodup_at hnd hk1 hk3
    · intro y hy
      obtain ⟨k, _, _, hk4⟩ := hko y hy
      exact ⟨(.string k, .nil), by simp [-getElem?_pos, WideElems.rd, hk4, noR]⟩
  have hsize : Maps.size (DataW.map (E.foldr DataW.insert [])) = ks.length := by
    show (E.foldr DataW.insert []).length = _
    rw [hsort.length_eq]
    have := congrArg List.length hEk
    simpa [-getElem?_pos] using this
  have hp : (strKeys (DataW.map (E.foldr DataW.insert []))).Perm ks := by
    show ((E.foldr DataW.insert []).map fun p => _root_.Go.strOf p.1).Perm ks
    have := hsort.map (fun p => _root_.Go.strOf p.1)
    rwa [hEk] at this
  refine ⟨_, Maps.size (DataW.map (E.foldr DataW.insert [])), rfl, by rw [hsize]; exact hsz, fun l J W a b' c d => ?_⟩
  refine (hg b r ents.size _ noR w hblt hcell hown l J W a b' c d).mono ?_
  rintro e W' ⟨h5, xs, h6, h7⟩
  exact ⟨h5, xs, h6.trans hp, h7⟩
end Go.Proofs.YthkmfboffnhkaaaGreatDoor
