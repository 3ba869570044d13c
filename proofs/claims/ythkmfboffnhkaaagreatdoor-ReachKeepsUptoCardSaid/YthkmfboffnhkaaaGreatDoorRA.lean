/-
  reach.texts, an iterator over the texts of a chain: its contract.
-/
import Derived.RangeFuncNested
import Derived.RangeFuncBound
import Derived.RangeFuncCalls
import Derived.RangeFuncLeaves
import Derived.Shelf.Abstract
import Derived.Shelf.RegionOpen
import Derived.WalkKit
import Derived.OwnWalkIn
import Derived.TacticsInMore
import Derived.LoopNIn
import Derived.LoopIn
import Derived.Deep.WholeRow
import Derived.Test.YthkmfboffnhkaaaGreatDoorChecked
import Derived.Test.YthkmfboffnhkaaaGreatDoorM1
import Derived.Test.YthkmfboffnhkaaaGreatDoorPL
set_option linter.all false
namespace Go.Proofs
open Go.RowKit Go.Shelf
attribute [local go_sem] Oper.semAt_some
set_option maxRecDepth 100000
set_option maxHeartbeats 4000000
theorem Tryz.posting_k (k : Int) (w : World) : Calls Tryz.prog 32 #[.int .i64 k] w fun e w' => e = .returned (.bool (YthkmfboffnhkaaaGreatDoor.isPosting k)) ∧ w' = w := by
  go_enter Tryz.func32, Tryz.ntmps32
  go_wp2
  all_goals go_ret
  all_goals simp_all [YthkmfboffnhkaaaGreatDoor.isPosting]
/-- Later worlds in which all that was lies as it lay. -/
def Tryz.Grown (w w' : World) : Prop := w.heap.size ≤ w'.heap.size ∧ (∀ b, b < w.heap.size → w'.heap[b]? = w.heap[b]?) ∧ w'.os = w.os ∧ w'.tape = w.tape ∧ w'.output = w.output
section
variable {n : Nat} {P : Program} {ops : Array Oper} {rest : List Oper} {o : Oper} {a : Act} {Q : Exit → Act → World → Prop}
theorem Tryz.ld_in {w : World} {x : Operand} {p : Addr} {v : Value} {t : TypeId} (hw : Region.wanted o (yielded ops a.tmps) = true) (hop : o.op = .load t x) (he : a.eval x = .pointer (some p))
    (hld : (loadVar t p).run P w = .ok v w) (h : wpListIn Fence.wide n P ops Q rest (a.put o.dst v) w) : wpListIn Fence.wide n P ops Q (o :: rest) a w := by
  refine wpListIn_step fun K hK => ?_
  rw [if_pos hw]
  refine ⟨fun _ _ => trivial, ?_⟩
  rw [Oper.semAt_plain Fence.wide _ _ (by rw [hop]; intro c hc; cases hc)]
  have : (execOp a.eval o).run P w = .ok (.value v) w := by simp [execOp, hop, he, Instr.loadAt, Instr.sureAddr, hld]
  rw [this]
  exact hK _ _ h
theorem Tryz.fill_in {wr : World} {zs vs : Array Value} {x y : Operand} {t : TypeId} (hg : o.guard = none) (hop : o.op = .store t x y) (hx : a.eval x = .pointer (some ⟨wr.heap.size, 0, none⟩)) (hy : a.eval y = .agg vs)
    (hs : (P.info? t).map (·.size) = some vs.size) (hz : zs.size = vs.size) (h1 : ∀ v ∈ vs.toList, v.oneCell' = true)
    (h : wpListIn Fence.wide n P ops Q rest (a.put o.dst undef) (wr.alloc (.cells vs t))) : wpListIn Fence.wide n P ops Q (o :: rest) a (wr.alloc (.cells zs t)) := by
  refine wpListIn_plain hg fun K hK => ?_
  refine ⟨fun _ _ => trivial, ?_⟩
  rw [Oper.semAt_plain Fence.wide _ _ (by rw [hop]; intro c hc; cases hc)]
  have hst := run_storeCells_at (P := P) wr.heap.size 0 t vs.toList 0 zs (wr.alloc (.cells zs t)) (Go.L1.heap_alloc_at _ _) (by simp [hz]) h1
  have he : (zs.toList.take (0 + 0) ++ vs.toList ++ zs.toList.drop (0 + 0 + vs.toList.length)).toArray = vs := by
    have : zs.toList.drop (0 + 0 + vs.toList.length) = [] := List.drop_eq_nil_of_le (by simp [hz])
    rw [this]; simp
  rw [he, World.setRow_alloc_new] at hst
  have hsv : (storeVar t ⟨wr.heap.size, 0, none⟩ (.agg vs)).run P (wr.alloc (.cells zs t)) = .ok () (wr.alloc (.cells vs t)) := by
    unfold storeVar
    simp only [Sem.run_bind, Go.L1.run_sizeOf' (show Go.L1.szOf P t = some vs.size from hs), Result.andThen_ok, Value.cells, ne_eq, not_true_eq_false, ite_false, not_false_eq_true, ite_true]
    simpa using hst
  have : (execOp a.eval o).run P (wr.alloc (.cells zs t)) = .ok .skip (wr.alloc (.cells vs t)) := by simp [execOp, hop, hx, hy, Instr.storeAt, Instr.sureAddr, hsv]
  rw [this]
  exact hK _ _ h
end
theorem Tryz.texts1_in (l Bs ab off len cap n : Nat) (p : Option Addr) (hpt : 0 < len → p = some ⟨ab, off, none⟩) (K : Nat → Int) (vals : Nat → Array Value) (J : Nat → World → Prop) (Jx : World → Prop) (W : World)
    (hsz : ∀ k, k < len → (vals k).size = 20) (hone : ∀ k v, k < len → v ∈ (vals k).toList → v.oneCell' = true) (hkind : ∀ k, k < len → (vals k)[3]? = some (.int .i64 (K k)))
    (hcell : ∀ k j v W', k < len → (vals k)[j]? = some v → J k W' → W'.cell? ⟨ab, off + k * 20 + j, none⟩ = some v)
    (hgrow : ∀ k W' W2, J k W' → Tryz.Grown W' W2 → J k W2)
    (hskip : ∀ k W', k < len → YthkmfboffnhkaaaGreatDoor.isText (K k) = false → J k W' → J (k + 1) W')
    (hY : ∀ k W' n, k < len → YthkmfboffnhkaaaGreatDoor.isText (K k) = true → J k W' → YieldAt Fence.wide n Tryz.prog l #[.int .i64 k, .agg (vals k)] W' fun e W2 =>
      (e = .returned (.bool true) ∧ J (k + 1) W2) ∨ (e = .returned (.bool false) ∧ Jx W2))
    (hBs : W.cell? ⟨Bs, 1, none⟩ = some (.slice p len cap)) (hlen : len ≤ 1000000000) (h0 : J 0 W) :
    CallsIn Fence.wide n Tryz.prog 107 #[.func (.yield l) #[] #[], .pointer (some ⟨Bs, 0, none⟩)] W fun e W' => (∃ v, e = .returned v) ∧ (J len W' ∨ Jx W') := by
  refine callsIn_of_wp Tryz.func107 rfl trivial ?_ rfl
  simp only [Tryz.ntmps107, List.size_toArray, List.length_cons, List.length_nil, Nat.reduceAdd, Nat.reduceSub, Array.replicate_succ, Array.replicate_zero, List.push_toArray, List.append_toArray, List.nil_append, List.cons_append]
  gi_wp2
  gi_loopw [8] (fun i wr => ∃ k : Nat, k ≤ len ∧ i = .int .i64 k ∧ J k wr)
    (fun i _ => len - (intOf i).toNat)
  case atStart => exact ⟨0, Nat.zero_le _, rfl, h0⟩
  case round =>
    obtain ⟨k, hk, rfl, hJs⟩ := hrel
    by_cases hlt : k < len
    · obtain rfl := hpt (by omega)
      obtain ⟨vs, hvs⟩ : ∃ vs, vals k = vs := ⟨_, rfl⟩
      obtain ⟨kk, hkk⟩ : ∃ kk, K k = kk := ⟨_, rfl⟩
      have hs20 := hsz k hlt
      have h1c := hone k
      have hk3 := hkind k hlt
      have hcl := hcell k
      have hyk := hY k
      rw [hvs] at hs20 hk3 hyk
      rw [hkk] at hk3 hyk
      have hld : Sem.run Tryz.prog (loadVar 49 ⟨ab, off + k * 20, none⟩) wr = .ok (.agg vs) wr := by
        have := Go.L1.run_loadVar_agg (P := Tryz.prog) (w := wr) (t := 49) (a := ⟨ab, off + k * 20, none⟩) (cs := vs.toList) (by kernel_rfl) (by rw [Array.length_toList, hs20]; kernel_rfl)
          (fun j v hj => by rw [Go.L1.add_mk]; exact hcl j v wr hlt (by rw [hvs]; simpa using hj) hJs)
        simpa using this
      have h1v : ∀ v ∈ vs.toList, v.oneCell' = true := fun v hv => h1c v hlt (by rw [hvs]; exact hv)
      have hgr : Tryz.Grown wr (wr.alloc (.cells vs 49)) := ⟨by simp, fun b hb => Go.L1.heap_alloc_old _ _ _ hb, rfl, rfl, rfl⟩
      have hJ2 := hgrow k wr _ hJs hgr
      have hc3 : (wr.alloc (.cells vs 49)).cell? ⟨wr.heap.size, 3, none⟩ = some (.int .i64 kk) := by
        unfold World.cell?
        rw [Go.L1.heap_alloc_at]
        simpa using hk3
      have hld2 : Sem.run Tryz.prog (loadVar 49 ⟨wr.heap.size, 0, none⟩) (wr.alloc (.cells vs 49)) = .ok (.agg vs) (wr.alloc (.cells vs 49)) := by
        have := Go.L1.run_loadVar_agg (P := Tryz.prog) (w := wr.alloc (.cells vs 49)) (t := 49) (a := ⟨wr.heap.size, 0, none⟩) (cs := vs.toList) (by kernel_rfl) (by rw [Array.length_toList, hs20]; kernel_rfl)
          (fun j v hj => by
            rw [Go.L1.add_mk]
            unfold World.cell?
            rw [Go.L1.heap_alloc_at]
            simpa using hj)
        simpa using this
      gi_wp2_with (first
        | (refine Tryz.ld_in rfl rfl rfl hld ?_)
        | (refine Tryz.ld_in rfl rfl rfl hld2 ?_)
        | (refine Tryz.fill_in (vs := vs) rfl rfl rfl rfl (by rw [hs20]; kernel_rfl) (by rw [hs20]; rfl) h1v ?_))
      refine ⟨trivial, fun h => (by cases h), ?_⟩
      refine (callsIn_wide.2 (Tryz.posting_k kk _)).mono ?_
      rintro e w' ⟨rfl, rfl⟩
      cases hp : YthkmfboffnhkaaaGreatDoor.isPosting kk with
      | true =>
        have ht : YthkmfboffnhkaaaGreatDoor.isText kk = true := by unfold YthkmfboffnhkaaaGreatDoor.isText; rw [hp]; rfl
        obtain ⟨fn, tmps, assign, body, hy, hR⟩ := hyk _ (n - 1) hlt ht hJ2
        gi_wp2_with (first
        | (refine Tryz.ld_in rfl rfl rfl hld ?_)
        | (refine Tryz.ld_in rfl rfl rfl hld2 ?_)
        | (refine Tryz.fill_in (vs := vs) rfl rfl rfl rfl (by rw [hs20]; kernel_rfl) (by rw [hs20]; rfl) h1v ?_))
        refine ⟨fun h => (by cases h), ?_⟩
        refine hR.mono ?_
        rintro e W3 (⟨rfl, hJ3⟩ | ⟨rfl, hJx3⟩)
        · gi_wp2
          go_roundw
          case rel => exact ⟨k + 1, by omega, by simp, hJ3⟩
          case measure => simp [intOf]; omega
        · gi_wp2
          refine bodyPost_ret (results_none rfl _ _ _) rfl ?_
          exact ⟨⟨_, rfl⟩, .inr hJx3⟩
      | false =>
        by_cases h14 : kk = 14
        · subst h14
          have ht : YthkmfboffnhkaaaGreatDoor.isText 14 = true := rfl
          obtain ⟨fn, tmps, assign, body, hy, hR⟩ := hyk _ (n - 1) hlt ht hJ2
          gi_wp2_with (first
        | (refine Tryz.ld_in rfl rfl rfl hld ?_)
        | (refine Tryz.ld_in rfl rfl rfl hld2 ?_)
        | (refine Tryz.fill_in (vs := vs) rfl rfl rfl rfl (by rw [hs20]; kernel_rfl) (by rw [hs20]; rfl) h1v ?_))
          refine ⟨fun h => (by cases h), ?_⟩
          refine hR.mono ?_
          rintro e W3 (⟨rfl, hJ3⟩ | ⟨rfl, hJx3⟩)
          · gi_wp2
            go_roundw
            case rel => exact ⟨k + 1, by omega, by simp, hJ3⟩
            case measure => simp [intOf]; omega
          · gi_wp2
            refine bodyPost_ret (results_none rfl _ _ _) rfl ?_
            exact ⟨⟨_, rfl⟩, .inr hJx3⟩
        · have hne : (kk == 14) = false := by simpa using h14
          have hJ3 := hskip k _ hlt (by rw [hkk]; unfold YthkmfboffnhkaaaGreatDoor.isText; rw [hp, hne]; rfl) hJ2
          gi_wp2
          refine ⟨fun _ h => (by cases h), ?_⟩
          gi_wp2
          go_roundw
          case rel => exact ⟨k + 1, by omega, by simp, hJ3⟩
          case measure => simp [intOf]; omega
    · obtain rfl : k = len := by omega
      gi_wp2
      go_end0
      exact ⟨⟨_, rfl⟩, .inl hJs⟩
end Go.Proofs
