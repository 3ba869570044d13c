/-
  reach.texts, as the triples ask it of an iterator.
-/
import Derived.Test.YthkmfboffnhkaaaGreatDoorRA
import Derived.Test.YthkmfboffnhkaaaGreatDoorM7
import Derived.Test.YthkmfboffnhkaaaGreatDoorTQ
import Derived.Test.YthkmfboffnhkaaaGreatDoorSP
import Derived.Test.YthkmfboffnhkaaaGreatDoorW18
set_option linter.all false
namespace Go.Proofs.YthkmfboffnhkaaaGreatDoor
attribute [local simp] reach_texts_R0 reach_texts_R1 reach_texts_L reach_texts_ks
open Go Go.L1 Go.RowKit
set_option maxRecDepth 100000
set_option maxHeartbeats 4000000

def wantT (c : Chain) (k : Nat) : Bool := match c.acts[k]? with
  | some a => isText a.kind
  | none => false
def elsT (c : Chain) (k : Nat) : List V := match c.acts[k]? with
  | some a => [.c (I k), agg a.cells]
  | none => [.undef, .undef]
theorem elsT_len (c : Chain) (k : Nat) : (elsT c k).length = 2 := by unfold elsT; split <;> rfl
theorem texts_iter (c : Chain) (hl : c.acts.length ≤ 1000000000) {st : List SO} {id N n0 : Nat} (ho : st[id]? = some (.box (c.cells.map .c))) :
    IterL ⟨Tryz.prog, GW, N, n0⟩ 107 [.ptr id 0] st c.acts.length (wantT c) (elsT c) := by
  refine ⟨by kernel_rfl, fun γ w cv hW hG hcs hcr => ?_⟩
  obtain ⟨cl⟩ := cv
  match cl, hcs with
  | [x], _ =>
  have hx := hcr 0 (.ptr id 0) x rfl rfl
  cases hx with
  | ptr _ _ b l hloc hb =>
  obtain ⟨_, b', vs, T, h1, h2, h3⟩ := hW.objs id l _ hloc ho
  rw [hb] at h1
  cases h1
  obtain ⟨hvs, hvr⟩ := h3
  have hsz : vs.size = 6 := by simpa [-getElem?_pos, Chain.cells] using hvs
  obtain ⟨y, hy⟩ : ∃ y, vs[1]? = some y := ⟨_, Array.getElem?_eq_getElem (by omega)⟩
  obtain ⟨hr1, -⟩ := hvr 1 (.c (.sl (c.acts.map Act.cells))) y rfl hy
  have hbW : b < w.heap.size := (Array.getElem?_eq_some_iff.1 h2).1
  have key : ∃ (p : Option Addr) (ab off cap : Nat) (f : Nat → Nat → Value), y = .slice p c.acts.length cap ∧ (0 < c.acts.length → p = some ⟨ab, off, none⟩ ∧ γ.pers ab) ∧
      ∀ (k : Nat) a (j : Nat) cc, c.acts[k]? = some a → a.cells[j]? = some cc → w.cell? ⟨ab, off + k * 20 + j, none⟩ = some (f k j) ∧ RelC γ.pers w cc (f k j) := by
    cases hr1 with
    | c _ _ hrc =>
      generalize hxs : c.acts.map Act.cells = xs at hrc
      have hlen : c.acts.length = xs.length := by rw [← hxs]; simp [-getElem?_pos]
      cases hrc with
      | nilsl =>
        have h0 : c.acts.length = 0 := hlen
        exact ⟨none, 0, 0, 0, fun _ _ => undef, by rw [h0], fun h => by omega, fun k a j cc ha => by have := lt_of_some ha; omega⟩
      | sl _ esz a len cap f hp hs hl' hc hm hz hcell hr =>
        by_cases hne : xs = []
        · have h0 : c.acts.length = 0 := by rw [hlen, hne]; rfl
          exact ⟨some a, 0, 0, cap, fun _ _ => undef, by rw [hlen, hl'], fun h => by omega, fun k a j cc ha => by have := lt_of_some ha; omega⟩
        · obtain ⟨ab, off, sp⟩ := a
          have hsp : sp = none := hs hne
          subst hsp
          have hget : ∀ (k : Nat) a, c.acts[k]? = some a → xs[k]? = some a.cells := fun k a ha => by rw [← hxs, List.getElem?_map, ha]; rfl
          refine ⟨some ⟨ab, off, none⟩, ab, off, cap, f, by rw [hlen, hl'], fun _ => ⟨rfl, hp hne⟩, fun k a j cc ha hj => ?_⟩
          have he : esz = 20 := by have := hz k _ (hget k a ha); exact this.symm
          subst he
          have := hcell k _ j cc (hget k a ha) hj
          rw [add_mk, ← Nat.add_assoc] at this
          exact ⟨this, hr k _ j cc (hget k a ha) hj⟩
  obtain ⟨p, ab, off, cap, f, rfl, hp, hf⟩ := key
  have hcl : ∀ a : Act, a.cells.length = 20 := fun _ => rfl
  have hone : ∀ (k : Nat) a, c.acts[k]? = some a → ∀ (j : Nat), j < 20 → ∃ cc, a.cells[j]? = some cc ∧ w.cell? ⟨ab, off + k * 20 + j, none⟩ = some (f k j) ∧ RelC γ.pers w cc (f k j) := fun k a ha j hj =>
    ⟨_, List.getElem?_eq_getElem (by rw [hcl]; exact hj), hf k a j _ ha (List.getElem?_eq_getElem _)⟩
  have hvg : ∀ (k j : Nat) v, (((List.range 20).map (f k)).toArray)[j]? = some v → j < 20 ∧ v = f k j := fun k j v hv => by
    simp only [List.getElem?_toArray, List.getElem?_map] at hv
    by_cases hj : j < 20
    · rw [List.getElem?_range hj] at hv; simp [-getElem?_pos] at hv; exact ⟨hj, hv.symm⟩
    · rw [List.getElem?_eq_none (by simp [-getElem?_pos]; omega)] at hv; cases hv
  refine ⟨fun k => #[.int .i64 k, .agg ((List.range 20).map (f k)).toArray], fun k hk => ?_, fun l' W J Jx hle hold hJp hgrow hskip hY h0 => ?_⟩
  · obtain ⟨a, ha⟩ := get_of_lt hk
    simp only [elsT, ha]
    refine ⟨rfl, fun i v x hi hx => ?_⟩
    match i, hi, hx with
    | 0, hi, hx => cases hi; cases hx; exact .c _ _ (.int _ _)
    | 1, hi, hx =>
      cases hi; cases hx
      refine .agg _ _ (by simp [-getElem?_pos, hcl]) fun j v x hj hx => ?_
      obtain ⟨hj20, rfl⟩ := hvg k j x hx
      obtain ⟨cc, h4, _, h6⟩ := hone k a ha j hj20
      rw [List.getElem?_map, h4] at hj
      cases hj
      exact .c _ _ h6
    | i + 2, hi, _ => simp [-getElem?_pos] at hi
  · have hK : ∀ k, k < c.acts.length → ∃ a, c.acts[k]? = some a ∧ f k 3 = .int .i64 a.kind := fun k hk => by
      obtain ⟨a, ha⟩ := get_of_lt hk
      obtain ⟨cc, h4, _, h6⟩ := hone k a ha 3 (by omega)
      have : cc = I a.kind := by have h5 : a.cells[3]? = some (I a.kind) := rfl; rw [h5] at h4; exact (Option.some.inj h4).symm
      subst this
      refine ⟨a, ha, ?_⟩
      generalize f k 3 = z at h6
      cases h6
      rfl
    have := Tryz.texts1_in l' b ab off c.acts.length cap 0 p (fun h => (hp h).1) (fun k => match c.acts[k]? with | some a => a.kind | none => 0) (fun k => ((List.range 20).map (f k)).toArray) J Jx W
      (fun k _ => by simp [-getElem?_pos]) (fun k v hk hv => by
        obtain ⟨a, ha⟩ := get_of_lt hk
        obtain ⟨j, hj⟩ := List.mem_iff_getElem?.1 hv
        obtain ⟨hj20, rfl⟩ := hvg k j v (by simpa [-getElem?_pos] using hj)
        obtain ⟨cc, _, _, h6⟩ := hone k a ha j hj20
        exact h6.one)
      (fun k hk => by
        obtain ⟨a, ha, h3⟩ := hK k hk
        simp only [ha, ← h3]
        rfl)
      (fun k j v W' hk hv hJ => by
        obtain ⟨a, ha⟩ := get_of_lt hk
        obtain ⟨hj20, rfl⟩ := hvg k j v hv
        obtain ⟨cc, _, h5, _⟩ := hone k a ha j hj20
        rw [cell_of_heap (w := w) (w' := W') (hJp k W' hJ ab (hp (by omega)).2)]
        exact h5)
      (fun k W' W2 hJ hg => hgrow k W' W2 hJ hg.1 hg.2.1 hg.2.2.1 hg.2.2.2.1 hg.2.2.2.2)
      (fun k W' hk ht hJ => hskip k W' hk (by
        obtain ⟨a, ha⟩ := get_of_lt hk
        simp only [ha] at ht
        simp only [wantT, ha, ht]) hJ)
      (fun k W' n hk ht hJ => hY k W' n hk (by
        obtain ⟨a, ha⟩ := get_of_lt hk
        simp only [ha] at ht
        simp only [wantT, ha, ht]) hJ)
      (by
        unfold World.cell?
        rw [hold b hbW, h2]
        simpa [-getElem?_pos] using hy)
      hl h0
    exact callsIn_wide.1 this
theorem texts_ok (c : Chain) (st : List SO) : FnOK Tryz.prog GW 70 [agg c.cells] st (.clo 107 [.ptr st.length 0]) (st ++ [.box (c.cells.map .c)]) := by
  refine reach_texts_F.full { esc := [1] } (by simp [-getElem?_pos]) fun hst => ?_
  simp [-getElem?_pos, mixed, agg, Chain.cells]
  refine endsX_i (by simp [-getElem?_pos]) (stOk_snoc hst fun v hv => ?_) ?_ (by simp [-getElem?_pos])
  · simp [-getElem?_pos] at hv
    rcases hv with rfl | rfl | rfl | rfl | rfl | rfl <;> exact .c _
  · exact .clo _ _ fun v hv => by simp [-getElem?_pos] at hv; subst hv; exact .ptr _ _ (by simp [-getElem?_pos])
end Go.Proofs.YthkmfboffnhkaaaGreatDoor
