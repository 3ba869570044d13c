/-
  Rows of strings: cloned, members asked for, members struck; the keys of a set.
-/
import Derived.Test.YthkmfboffnhkaaaGreatDoorWS
import Derived.Shelf.SlicesG.Clone
import Derived.Shelf.SlicesG.Turned
import Derived.Shelf.SlicesE.DeleteFunc
import Derived.Ground.SlgnProg
import Derived.Ground.SlgfProg
import Derived.WalkKit
set_option linter.all false
namespace Go.Proofs
open Go.RowKit Go.Maps Go.Sort Go.Shelf Go.Lib
def Tryz.cloneS_ren : Go.Shelf.Ren := ⟨fun | 42 => 68 | n => n, fun | 25 => 23 | 26 => 9 | 4 => 4 | n => n, fun | n => n⟩
theorem Tryz.cloneS : Go.Proofs.SlLaysN.n42 Tryz.prog Tryz.cloneS_ren := {
  mixed := by kernel_rfl,
  f42 := ⟨Tryz.f68.name, by decide, Tryz.func68.trans (congrArg some (by kernel_rfl))⟩,
  t4 := Tryz.underlying4,
  a4 := Tryz.isAgg4,
  z4 := Tryz.sizeOf4,
  v4 := Tryz.zeroValue4,
  t25 := Tryz.underlying23,
  a25 := Tryz.isAgg23,
  z25 := Tryz.sizeOf23,
  v25 := Tryz.zeroValue23,
  t26 := Tryz.underlying9,
  a26 := Tryz.isAgg9,
  z26 := Tryz.sizeOf9,
  v26 := Tryz.zeroValue9,
  i26 := by kernel_rfl }
def Tryz.containsS_ren : Go.Shelf.Ren := ⟨fun | 32 => 72 | 30 => 110 | n => n, fun | 25 => 23 | 26 => 9 | 4 => 4 | 3 => 3 | 0 => 0 | n => n, fun | n => n⟩
theorem Tryz.containsS : Go.Proofs.SlLaysN.n32 Tryz.prog Tryz.containsS_ren := {
  mixed := by kernel_rfl,
  f30 := ⟨Tryz.f110.name, by decide, Tryz.func110.trans (congrArg some (by kernel_rfl))⟩,
  f32 := ⟨Tryz.f72.name, by decide, Tryz.func72.trans (congrArg some (by kernel_rfl))⟩,
  t0 := Tryz.underlying0,
  a0 := Tryz.isAgg0,
  z0 := Tryz.sizeOf0,
  v0 := Tryz.zeroValue0,
  t3 := Tryz.underlying3,
  a3 := Tryz.isAgg3,
  z3 := Tryz.sizeOf3,
  v3 := Tryz.zeroValue3,
  t4 := Tryz.underlying4,
  a4 := Tryz.isAgg4,
  z4 := Tryz.sizeOf4,
  v4 := Tryz.zeroValue4,
  t25 := Tryz.underlying23,
  a25 := Tryz.isAgg23,
  z25 := Tryz.sizeOf23,
  v25 := Tryz.zeroValue23,
  t26 := Tryz.underlying9,
  a26 := Tryz.isAgg9,
  z26 := Tryz.sizeOf9,
  v26 := Tryz.zeroValue9 }
def Tryz.delS_ren : Go.Shelf.Ren := ⟨fun | 10 => 75 | 6 => 115 | n => n, fun | 22 => 23 | 23 => 9 | 25 => 131 | 3 => 3 | 4 => 4 | 0 => 0 | n => n, fun | n => n⟩
theorem Tryz.delS : Go.Proofs.SlLaysH.n10 Tryz.prog Tryz.delS_ren := {
  mixed := by kernel_rfl,
  f6 := ⟨Tryz.f115.name, by decide, Tryz.func115.trans (congrArg some (by kernel_rfl))⟩,
  f10 := ⟨Tryz.f75.name, by decide, Tryz.func75.trans (congrArg some (by kernel_rfl))⟩,
  t0 := Tryz.underlying0,
  a0 := Tryz.isAgg0,
  z0 := Tryz.sizeOf0,
  v0 := Tryz.zeroValue0,
  t3 := Tryz.underlying3,
  a3 := Tryz.isAgg3,
  z3 := Tryz.sizeOf3,
  v3 := Tryz.zeroValue3,
  t4 := Tryz.underlying4,
  a4 := Tryz.isAgg4,
  z4 := Tryz.sizeOf4,
  v4 := Tryz.zeroValue4,
  t22 := Tryz.underlying23,
  a22 := Tryz.isAgg23,
  z22 := Tryz.sizeOf23,
  v22 := Tryz.zeroValue23,
  a23 := Tryz.isAgg9,
  z23 := Tryz.sizeOf9,
  t25 := Tryz.underlying131,
  a25 := Tryz.isAgg131,
  z25 := Tryz.sizeOf131,
  v25 := Tryz.zeroValue131 }
def Tryz.keysT_ren : Go.Shelf.Ren := ⟨fun | 7 => 114 | 10 => 149 | n => n, fun | 23 => 125 | 26 => 9 | 3 => 4 | 28 => 109 | 0 => 0 | 27 => 108 | 33 => 131 | 4 => 4 | n => n, fun | n => n⟩
theorem Tryz.keysT : Go.Proofs.SlLaysZ.n7 Tryz.prog Tryz.keysT_ren := {
  mixed := by kernel_rfl,
  f7 := ⟨Tryz.f114.name, by decide, Tryz.func114.trans (congrArg some (by kernel_rfl))⟩,
  f10 := ⟨Tryz.f149.name, by decide, Tryz.func149.trans (congrArg some (by kernel_rfl))⟩,
  t0 := Tryz.underlying0,
  a0 := Tryz.isAgg0,
  z0 := Tryz.sizeOf0,
  v0 := Tryz.zeroValue0,
  t4 := Tryz.underlying4,
  a4 := Tryz.isAgg4,
  z4 := Tryz.sizeOf4,
  v4 := Tryz.zeroValue4,
  t23 := Tryz.underlying125,
  a23 := Tryz.isAgg125,
  z23 := Tryz.sizeOf125,
  v23 := Tryz.zeroValue125,
  t26 := Tryz.underlying9,
  a26 := Tryz.isAgg9,
  z26 := Tryz.sizeOf9,
  v26 := Tryz.zeroValue9,
  t27 := Tryz.underlying108,
  a27 := Tryz.isAgg108,
  z27 := Tryz.sizeOf108,
  v27 := Tryz.zeroValue108,
  t28 := Tryz.underlying109,
  a28 := Tryz.isAgg109,
  z28 := Tryz.sizeOf109,
  v28 := Tryz.zeroValue109,
  t33 := Tryz.underlying131,
  a33 := Tryz.isAgg131,
  z33 := Tryz.sizeOf131,
  v33 := Tryz.zeroValue131 }
theorem Tryz.keysT_in (mb : Option Nat) (w : World) : Calls Tryz.prog 114 #[.map mb] w fun e w' => e = .returned (.func (.func 149) #[] #[.pointer (some ⟨w.heap.size, 0, none⟩)]) ∧ ∃ T, w' = w.alloc (.cells #[.map mb] T) := by
  refine ((callsIn_wide (n := 5)).1 (AnyZ.keys_in Tryz.keysT Fence.wide 5 trivial rfl mb w)).mono ?_
  rintro e w' ⟨rfl, rfl⟩
  exact ⟨rfl, _, rfl⟩
theorem Tryz.mem1 (W : World) (b1 b2 : Nat) (x cid : ByteArray) (v : Value) (r : Bool) (h1 : W.cell? ⟨b1, 0, none⟩ = some (.string cid)) (h2 : W.cell? ⟨b2, 2, none⟩ = some v) (ho : v.oneCell' = true)
    (hC : Calls Tryz.prog 72 #[v, .string x] W fun e w' => e = .returned (.bool r) ∧ w' = W) :
    FnGives Tryz.prog 76 #[.pointer (some ⟨b1, 0, none⟩), .pointer (some ⟨b2, 0, none⟩)] #[.string x] (.bool (x.toList == cid.toList || r)) W := by
  show Calls Tryz.prog 76 #[.string x, .pointer (some ⟨b1, 0, none⟩), .pointer (some ⟨b2, 0, none⟩)] W _
  go_enter Tryz.func76, Tryz.ntmps76
  go_wp2_with (go_at_call 72; refine hC.mono ?_; rintro e w' ⟨rfl, rfl⟩)
  · next h => go_ret; exact ⟨by simp [-getElem?_pos, h], 0, rfl⟩
  · next h => go_ret; exact ⟨by simp [-getElem?_pos, h], 0, rfl⟩
theorem Tryz.delS_none (fv : Value) (hf : fv.oneCell' = true) (w : World) : Calls Tryz.prog 75 #[.slice none 0 0, fv] w fun e w' => e = .returned (.slice none 0 0) ∧ w' = w := by
  have hIF := AnyE.slices_IndexFunc_empty (P := Tryz.prog) { Tryz.delS with } none 0 fv w
  go_enter Tryz.func75, Tryz.ntmps75
  go_wp2_with (go_at_call 115; refine hIF.mono ?_; rintro e w' ⟨rfl, rfl⟩)
  go_ret
  exact ⟨rfl, rfl⟩
end Go.Proofs
namespace Go.Proofs.YthkmfboffnhkaaaGreatDoor
open Go Go.L1 Go.RowKit Go.Maps Go.Sort Go.Shelf
set_option maxRecDepth 100000
set_option maxHeartbeats 4000000

def ba (s : Str) : ByteArray := ⟨s.toArray⟩
theorem ba_list (s : Str) : (ba s).toList = s := by rw [ByteArray.toList_eq]; simp [-getElem?_pos, ba]
theorem ba_enc (s : Str) : Value.string (ba s) = encStr s := rfl
theorem ba_inj {s t : Str} (h : ba s = ba t) : s = t := by have := congrArg ByteArray.toList h; rwa [ba_list, ba_list] at this
/-- What a slice of strings reads as. -/
theorem texts_at {γ : Gh} {w : World} {l : List Str} {x : Value} (h : RelV γ w (.c (texts l)) x) :
    (l = [] ∧ x = .slice none 0 0) ∨ (l = [] ∧ ∃ a cap, x = .slice (some a) 0 cap) ∨
    ∃ b off cap, x = .slice (some ⟨b, off, none⟩) l.length cap ∧ γ.pers b ∧ ∀ j, j < l.length → w.cell? ⟨b, off + j, none⟩ = some (.string ((l.map ba).getD j ByteArray.empty)) := by
  rcases rel_sl h with ⟨h1, rfl⟩ | ⟨esz, a, len, cap, fn, rfl, hp, hs, hl, hc, hm, hz, hcell, hr⟩
  · exact .inl ⟨by simpa [-getElem?_pos] using h1, rfl⟩
  · simp [-getElem?_pos] at hl
    cases l with
    | nil => simp [-getElem?_pos] at hl; subst hl; exact .inr (.inl ⟨rfl, a, cap, rfl⟩)
    | cons s r =>
      right; right
      have he : esz = 1 := by
        have := hz 0 [.str s] rfl
        simpa [-getElem?_pos] using this.symm
      subst he
      obtain ⟨b, off, spot⟩ := a
      have hsp : spot = none := hs (by simp [-getElem?_pos])
      subst hsp
      refine ⟨b, off, cap, by rw [hl], hp (by simp [-getElem?_pos]), fun j hj => ?_⟩
      have hx : ((s :: r).map fun s => [C.str s])[j]? = some [C.str (s :: r)[j]] := by rw [List.getElem?_map, List.getElem?_eq_getElem hj]; rfl
      have h1 := hcell j _ 0 (.str (s :: r)[j]) hx rfl
      have h2 := relC_str (hr j _ 0 (.str (s :: r)[j]) hx rfl)
      rw [add_mk] at h1
      simp only [Nat.mul_one, Nat.add_zero] at h1
      rw [h1, h2]
      have h3 : ((s :: r).map ba).getD j ByteArray.empty = ba (s :: r)[j] := by rw [List.getD, List.getElem?_map, List.getElem?_eq_getElem hj]; rfl
      rw [h3]; rfl
theorem map_ba (l : List Str) : (l.map ba).map Value.string = l.map encStr := by rw [List.map_map]; rfl
theorem cloneOwn_ok (l : List Str) (hl : l.length ≤ 1000000000) (hwf : ∀ k ∈ l, k.length ≤ 9223372036854775807) (st : List SO) :
    FnOK Tryz.prog GW 68 [.c (texts l)] st (.own st.length 0) (st ++ [.arr 9 1 0 (strs l)]) := by
  refine ⟨by kernel_rfl, fun γ w vals h1 h2 h3 h4 => ?_⟩
  obtain ⟨x, rfl, hx⟩ := one_arg (P := Tryz.prog) h3 h4
  rcases texts_at hx with ⟨rfl, rfl⟩ | ⟨rfl, a, cap, rfl⟩ | ⟨b, off, cap, rfl, _, hc⟩
  · refine (AnyG.slices_Clone_string_nil Tryz.cloneS 0 0 w).mono ?_
    rintro e w' ⟨rfl, rfl⟩
    obtain ⟨γ', q1, q2, q3⟩ := new_own (xs := strs []) (e := 9) (esz := 1) (v := .slice none 0 0) (vs := []) h1 (Below.refl _ _) ⟨rfl, .inl ⟨rfl, rfl⟩⟩ (strs_one _) (strs_rel (l := []) (by simp [-getElem?_pos]))
    exact ⟨γ', _, rfl, q1, q2, q3⟩
  · refine (AnyG.slices_Clone_string_zero Tryz.cloneS a cap w).mono ?_
    rintro e w' ⟨v, rfl, hrow, _, hB⟩
    obtain ⟨γ', q1, q2, q3⟩ := new_own (xs := strs []) h1 hB hrow (strs_one _) (strs_rel (l := []) (by simp [-getElem?_pos]))
    exact ⟨γ', _, rfl, q1, q2, q3⟩
  · refine (AnyG.slices_Clone_string Tryz.cloneS b off l.length cap (l.map ba) w (by simp [-getElem?_pos]) (by omega) (by simpa [-getElem?_pos] using hc)).mono ?_
    rintro e w' ⟨v, rfl, hrow, _, hB⟩
    rw [List.take_of_length_le (by simp [-getElem?_pos]), map_ba] at hrow
    obtain ⟨γ', q1, q2, q3⟩ := new_own (xs := strs l) h1 hB (by rw [strs_len]; exact hrow) (strs_one _) (strs_rel hwf)
    exact ⟨γ', _, rfl, q1, q2, q3⟩
theorem holds_ba {w : World} {g : Nat} {xs : List Str} (h : Holds encStr w g 0 xs.toArray) : Holds Value.string w g 0 (xs.map ba).toArray := by
  intro j hj
  have hj' : j < xs.length := by simpa [-getElem?_pos] using hj
  obtain ⟨h1, h2⟩ := h j (by simpa [-getElem?_pos] using hj')
  refine ⟨?_, h2⟩
  rw [h1]
  simp [-getElem?_pos, hj', ← ba_enc]
theorem putRow_ba (w : World) (g : Nat) (ts : List Str) : putRow Value.string w g 0 (ts.map ba).toArray = putRow encStr w g 0 ts.toArray := by
  unfold putRow
  congr 1
  funext c
  unfold putCells
  congr 1
  funext k x
  simp only [List.size_toArray, List.length_map]
  by_cases hk : 0 ≤ k ∧ k < 0 + ts.length
  · have hk' : k < ts.length := by omega
    rw [if_pos hk, if_pos hk]
    simp [-getElem?_pos, hk', ← ba_enc]
  · rw [if_neg hk, if_neg hk]
theorem delOwn_ok (xs bs : List Str) (cid : Str) (hl : xs.length ≤ 1000000000) (hbl : bs.length ≤ 1000000000) (r1 r2 r3 r4 r5 t1 t2 t4 : C) {st : List SO} {id ep k j : Nat} (ho : st[id]? = some (.arr 9 1 ep (strs xs)))
    (hk : st[k]? = some (.box [.c (.str cid), .c r1, .c r2, .c r3, .c r4, .c r5])) (hj : st[j]? = some (.box [.c t1, .c t2, .c (texts bs), .c t4])) :
    FnOK Tryz.prog GW 75 [.own id ep, .clo 76 [.ptr k 0, .ptr j 0]] st (.own id (ep + 1)) (st.set id (.arr 9 1 (ep + 1) (strs (xs.filter fun x => !(x == cid || bs.contains x))))) := by
  refine ⟨by kernel_rfl, fun γ w vals h1 h2 h3 h4 => ?_⟩
  obtain ⟨vl⟩ := vals
  match vl, h3 with
  | [x, y], _ =>
  have hx := h4 0 _ x rfl rfl
  have hy := h4 1 _ y rfl rfl
  obtain ⟨l, hloc, hb2, hfix, hep, rfl, hown, hwf⟩ := own_strs h1 ho hx
  -- the closure, and what it holds
  obtain ⟨b1, b2, l1, l2, rfl, hl1, hl2, hb1, hb2', hc1, hc2, hn1, hn2⟩ : ∃ b1 b2 l1 l2, y = .func (.func 76) #[] #[.pointer (some ⟨b1, 0, none⟩), .pointer (some ⟨b2, 0, none⟩)] ∧ γ.locs[k]? = some l1 ∧ γ.locs[j]? = some l2 ∧
      b1 ∈ l1.blks ∧ b2 ∈ l2.blks ∧ w.cell? ⟨b1, 0, none⟩ = some (encStr cid) ∧ (∃ v, w.cell? ⟨b2, 2, none⟩ = some v ∧ RelV γ w (.c (texts bs)) v ∧ v.oneCell' = true) ∧ b1 < w.heap.size ∧ b2 < w.heap.size := by
    cases hy with
    | clo _ _ vs hlen hh =>
      obtain ⟨vs⟩ := vs
      match vs, hlen with
      | [p, q], _ =>
        have hp := hh 0 _ p rfl rfl
        have hq := hh 1 _ q rfl rfl
        cases hp with
        | ptr _ _ b1 l1 hl1 hb1 =>
          cases hq with
          | ptr _ _ b2 l2 hl2 hb2' =>
            obtain ⟨_, b1', vs1, T1, hb1', hheap1, hrow1⟩ := h1.objs k l1 _ hl1 hk
            obtain ⟨_, b2'', vs2, T2, hb2'', hheap2, hrow2⟩ := h1.objs j l2 _ hl2 hj
            rw [hb1] at hb1'
            simp [-getElem?_pos] at hb1'
            subst hb1'
            rw [hb2'] at hb2''
            simp [-getElem?_pos] at hb2''
            subst hb2''
            have m1 : b1 ∈ l1.blks := by unfold L1.Loc.blks; rw [hb1]; simp [-getElem?_pos, blkOf]
            have m2 : b2 ∈ l2.blks := by unfold L1.Loc.blks; rw [hb2']; simp [-getElem?_pos, blkOf]
            refine ⟨b1, b2, l1, l2, rfl, hl1, hl2, m1, m2, ?_, ?_, h1.olt _ ⟨k, l1, hl1, m1⟩, h1.olt _ ⟨j, l2, hl2, m2⟩⟩
            · have hsz := hrow1.1
              obtain ⟨u, hu⟩ : ∃ u, vs1[0]? = some u := ⟨vs1[0]'(by rw [hsz]; simp [-getElem?_pos]), Array.getElem?_eq_getElem _⟩
              have hr := (hrow1.2 0 _ u rfl hu).1
              cases hr with
              | c _ _ hr =>
                have := relC_str hr
                subst this
                simp [-getElem?_pos, World.cell?, hheap1, hu]
            · have hsz := hrow2.1
              obtain ⟨u, hu⟩ : ∃ u, vs2[2]? = some u := ⟨vs2[2]'(by rw [hsz]; simp [-getElem?_pos]), Array.getElem?_eq_getElem _⟩
              have hr := hrow2.2 2 _ u rfl hu
              exact ⟨u, by simp [-getElem?_pos, World.cell?, hheap2, hu], hr.1, hr.2⟩
  obtain ⟨v, hv, hrv, hvo⟩ := hc2
  let p : ByteArray → Bool := fun x => x.toList == cid || bs.contains x.toList
  -- what it answers, in whatever world in which those blocks stand
  have gives : ∀ (W : World) (x : ByteArray), W.cell? ⟨b1, 0, none⟩ = some (encStr cid) → W.cell? ⟨b2, 2, none⟩ = some v → (∀ b, γ.pers b → W.heap[b]? = w.heap[b]?) →
      FnGives Tryz.prog 76 #[.pointer (some ⟨b1, 0, none⟩), .pointer (some ⟨b2, 0, none⟩)] #[.string x] (.bool (p x)) W := by
    intro W x q1 q2 q3
    have hC : Calls Tryz.prog 72 #[v, .string x] W fun e w' => e = .returned (.bool (bs.contains x.toList)) ∧ w' = W := by
      rcases texts_at hrv with ⟨rfl, rfl⟩ | ⟨rfl, a, cap, rfl⟩ | ⟨b, off, cap, rfl, hpb, hcc⟩
      · exact (AnyG.slices_Contains_string_empty Tryz.containsS none 0 x W)
      · exact (AnyG.slices_Contains_string_empty Tryz.containsS (some a) cap x W)
      · have h5 := AnyG.slices_Contains_string Tryz.containsS b off bs.length cap (bs.map ba) x W (by simp [-getElem?_pos]) (by omega) (fun i hi => by
          rw [cell_of_heap (a := ⟨b, off + i, none⟩) (q3 b hpb)]; exact hcc i (by simpa [-getElem?_pos] using hi))
        rw [List.take_of_length_le (by simp [-getElem?_pos])] at h5
        have e : Lib.containsS (bs.map ba) x = bs.contains x.toList := by
          rw [Bool.eq_iff_iff, Lib.containsS_iff, List.contains_iff_mem, List.mem_map]
          constructor
          · rintro ⟨s, hs, rfl⟩; rw [ba_list]; exact hs
          · intro hs
            refine ⟨_, hs, ?_⟩
            rw [ByteArray.toList_eq]
            rfl
        rw [e] at h5
        exact h5
    have h6 := Tryz.mem1 W b1 b2 x (ba cid) v _ q1 q2 hvo hC
    rw [ba_list] at h6
    exact h6
  have hdl : (xs.filter fun x => !(x == cid || bs.contains x)).length ≤ xs.length := List.length_filter_le _ _
  have hdwf : ∀ s ∈ xs.filter (fun x => !(x == cid || bs.contains x)), s.length ≤ 9223372036854775807 := fun s hs => hwf s (List.mem_filter.1 hs).1
  generalize hys : (xs.filter fun x => !(x == cid || bs.contains x)) = ys at hdl hdwf ⊢
  have fin : ∀ v' w', w.grownBy w' (blkOf l.hdr) → w'.ownsRow 0 9 1 v' ys.length (ys.map encStr) → (blkOf v' = none ∨ blkOf v' = blkOf l.hdr) →
      ∃ γ', RelW γ' (st.set id (.arr 9 1 (ep + 1) (strs ys))) w' ∧ RelV γ' w' (.own id (ep + 1)) v' ∧ Evo γ.locs.length γ w γ' w' := by
    intro v' w' hgr hown' hat
    obtain ⟨a, n, c, hvs⟩ := ownsRow_slice hown'
    have hf' : (⟨v', none, l.epoch + 1⟩ : L1.Loc).fix = false := by rw [hvs]; rfl
    obtain ⟨hw', hev'⟩ := regrow (o' := .arr 9 1 (ep + 1) (strs ys)) h1 hloc hb2 hfix hf' hgr (ownsRow_lt hown') (hat.elim .inl fun h => .inr (.inl h))
      ⟨rfl, by simp [-getElem?_pos, hep], hf', ys.map encStr, by rw [strs_len]; exact hown', strs_one _, strs_rel hdwf⟩
    exact ⟨_, hw', RelV.own id (ep + 1) ⟨v', none, l.epoch + 1⟩ v' (List.getElem?_set_self (lt_of_some hloc)) hf' (by simp [-getElem?_pos, hep]) (by rw [hvs]; rfl) (fun _ => rfl), evoX_none hev'⟩
  have hpers : ∀ g, (∃ l : L1.Loc, γ.locs[id]? = some l ∧ g ∈ l.blks) → ∀ b, γ.pers b → b ≠ g := by
    rintro g ⟨l', hl', hg⟩ b hb rfl
    exact h1.apart b hb ⟨id, l', hl', hg⟩
  rcases hown.2 with ⟨hv', hn⟩ | ⟨g, cap, cur, hv', hb, hg, hnc, hcm, hcs, htk⟩
  · have hnil : xs = [] := List.eq_nil_of_length_eq_zero hn
    have hyn : ys = [] := by rw [← hys, hnil]; rfl
    rw [hv']
    refine (Tryz.delS_none _ rfl w).mono ?_
    rintro e w' ⟨rfl, rfl⟩
    obtain ⟨γ', k1, k2, k3⟩ := fin (.slice none 0 0) w' (World.grownBy.refl _ _) (by rw [hyn]; exact ⟨rfl, .inl ⟨rfl, rfl⟩⟩) (.inl rfl)
    exact ⟨γ', _, rfl, k1, k2, k3⟩
  · rw [hv']
    simp only [Nat.mul_one] at htk hcs
    have hH := holds_of_block (ss := xs) hg htk
    have hgs : g ∈ l.blks := by unfold L1.Loc.blks; rw [hv']; simp [-getElem?_pos, blkOf]
    have ne1 : b1 ≠ g := by
      rintro rfl
      have := h1.inj k id l1 l _ hl1 hloc hb1 hgs
      subst this
      rw [hk] at ho; cases ho
    have ne2 : b2 ≠ g := by
      rintro rfl
      have := h1.inj j id l2 l _ hl2 hloc hb2' hgs
      subst this
      rw [hj] at ho; cases ho
    have hpn := hpers g ⟨l, hloc, hgs⟩
    have hglt : g < w.heap.size := (Array.getElem?_eq_some_iff.1 hg).1
    have P1 : PredAt Tryz.prog 76 #[.pointer (some ⟨b1, 0, none⟩), .pointer (some ⟨b2, 0, none⟩)] Value.string p w := fun W x hB => gives W x
      (by rw [cell_of_heap (a := ⟨b1, 0, none⟩) (hB.block b1 hn1)]; exact hc1) (by rw [cell_of_heap (a := ⟨b2, 2, none⟩) (hB.block b2 hn2)]; exact hv) fun b hb => hB.block b (h1.plt b hb)
    have P2 : PredOver Tryz.prog 76 #[.pointer (some ⟨b1, 0, none⟩), .pointer (some ⟨b2, 0, none⟩)] Value.string p g 0 xs.length w := by
      intro n os dk x _
      have hh : ∀ b, b < w.heap.size → b ≠ g → (sortWorld Value.string w g 0 n dk os).heap[b]? = w.heap[b]? := by
        intro b hb hne
        unfold sortWorld
        rw [heap_grow_old _ _ (by simpa [-getElem?_pos] using hb)]
        simp only [putRow, mapBlock, Array.getElem?_modify]
        rw [if_neg (Ne.symm hne)]
        rfl
      exact gives _ x (by rw [cell_of_heap (a := ⟨b1, 0, none⟩) (hh b1 hn1 ne1)]; exact hc1) (by rw [cell_of_heap (a := ⟨b2, 2, none⟩) (hh b2 hn2 ne2)]; exact hv) fun b hb' => hh b (h1.plt b hb') (hpn b hb')
    have eg : ∀ args w, (callFunc 76 args).run Tryz.prog w = .ok (.enter 76 args) w := enters_of Tryz.func76 (by kernel_rfl) rfl
    have hC := AnyE.slices_DeleteFunc Tryz.delS Value.string (fun _ => rfl) p 76 #[.pointer (some ⟨b1, 0, none⟩), .pointer (some ⟨b2, 0, none⟩)] eg ByteArray.empty Tryz.zeroValue9 g 0 cap (xs.map ba).toArray w P1 (by simpa [-getElem?_pos] using P2) (holds_ba hH) (by simp [-getElem?_pos]; omega) (by simp [-getElem?_pos]; omega)
    have hfl : ((xs.map ba).toArray.toList.filter fun x => !p x) = ys.map ba := by
      rw [← hys]
      simp only []
      rw [List.filter_map]
      congr 1
      apply List.filter_congr
      intro s _
      simp only [p, Function.comp, ba_list]
    rw [hfl] at hC
    simp only [List.size_toArray, List.length_map] at hC
    refine hC.mono ?_
    rintro e w' ⟨rfl, q, rfl⟩
    have hpad : ys.map ba ++ List.replicate (xs.length - ys.length) ByteArray.empty = (ys ++ List.replicate (xs.length - ys.length) []).map ba := by
      rw [List.map_append, List.map_replicate]; rfl
    rw [hpad, putRow_ba]
    generalize hts : ys ++ List.replicate (xs.length - ys.length) [] = ts
    have htl : ts.length = xs.length := by rw [← hts]; simp [-getElem?_pos]; omega
    rw [← grow_empty (putRow encStr (Sort.ahead w q) g 0 ts.toArray)]
    have hheap := heap_sorted (n := q) (os := #[]) ts.toArray hg
    have hsz : (putCells encStr 0 ts.toArray cur).size = cur.size := by simp [-getElem?_pos, putCells]
    have htake := take_putCells cur ts (by omega)
    have htk2 : (putCells encStr 0 ts.toArray cur).toList.take (ys.length * 1) = ys.map encStr := by
      have := congrArg (List.take ys.length) htake
      rw [List.take_take, Nat.min_eq_left (by omega), ← List.map_take] at this
      rw [Nat.mul_one, this, ← hts, List.take_left]
    obtain ⟨γ', k1, k2, k3⟩ := fin (.slice (some ⟨g, 0, none⟩) ys.length cap) _ (by rw [hv']; exact grownBy_sorted (n := q) (os := #[]) ts.toArray)
      ⟨by simp [-getElem?_pos], .inr ⟨g, cap, _, rfl, Nat.zero_le _, hheap, by omega, hcm, by rw [hsz]; simpa [-getElem?_pos] using hcs, htk2⟩⟩ (.inr (by rw [hv']; rfl))
    exact ⟨γ', _, rfl, k1, k2, k3⟩
end Go.Proofs.YthkmfboffnhkaaaGreatDoor
