/-
  The frame: ReachReaders, for every reading within the bulk.
-/
import Derived.Test.YthkmfboffnhkaaaGreatDoorFA
import Derived.Test.YthkmfboffnhkaaaGreatDoorRF
set_option linter.all false
namespace Go.Proofs.YthkmfboffnhkaaaGreatDoor
open Go Go.L1 Go.ChangeShapes Go.WideShapes Go.ChangeAt Go.RowKit
set_option maxRecDepth 100000
set_option maxHeartbeats 4000000
theorem rreads_contract (H : Type) (enc : TypeId × Value → H) (W : World) (base : Nat) (args : Array Value) (ds gs : List (DataW H)) (before : List MemPlace)
    (hval : ∀ (j : Nat) t v, Tryz.f10.params[j]? = some t → args[j]? = some v → Value.okWide Tryz.prog W .any base t v)
    (hW : DataW.Whole enc Tryz.prog Tryz.f10.params.toList Rows.reachReadersSpec.vars false W args.toList ds gs before) (hc : Rows.uptoSmall H (ds ++ gs) = true) (hL : laidMetH Tryz.prog Rows.reachReadersUptoRow.laid W) :
    Calls Tryz.prog 10 args W fun e W' => ∃ v, e = .returned v ∧ Rows.reachReadersSpec.post enc Tryz.prog Tryz.f10 false true false false W args v W' := by
  have hW' := hW
  obtain ⟨p, q, hA, hV, rfl, hfz, hnd⟩ := hW
  have hs := small_le hc
  rw [Tryz.params10] at hA hval
  obtain ⟨v0, vs0, d0, ds0, p0, q0, hargs, rfl, rfl, h0, r0⟩ := trodAll_cons hA
  obtain ⟨v1, vs1, d1, ds1, p1, q1, rfl, rfl, rfl, h1, r1⟩ := trodAll_cons r0
  obtain ⟨v2, vs2, d2, ds2, p2, q2, rfl, rfl, rfl, h2, r2⟩ := trodAll_cons r1
  obtain ⟨rfl, rfl, rfl⟩ := trodAll_nil r2
  obtain rfl : args = #[v0, v1, v2] := by cases args; simp_all
  obtain ⟨c0, g0, l0, f0⟩ := read_chain (hval 0 40 v0 rfl rfl) h0 (hs _ (by simp))
  obtain ⟨c1, rfl, rfl, rfl, w1⟩ := open_int Tryz.underlying3 (hval 1 3 v1 rfl rfl) h1
  obtain ⟨c2, g2, l2⟩ := read_str (hval 2 9 v2 rfl rfl) h2 (hs _ (by simp))
  have big : tooBig = 1048576 := rfl
  refine (fn_true (reads25_ok c0 c1 c2 f0 (by omega) []) hL (by simp) (fun i v x hv hx => ?_)).mono fun e W' ⟨he, hk⟩ => ?_
  · match i with
    | 0 => simp at hv hx; subst hv hx; exact g0
    | 1 => simp at hv hx; subst hv hx; exact .c _ _ (.int .i64 c1)
    | 2 => simp at hv hx; subst hv hx; exact g2
    | k + 3 => simp at hv
  · subst he
    exact ⟨_, rfl, post_true rfl hW' (fun ds hd => by
      rw [Tryz.params10] at hd
      match ds, hd with
      | [_, _, _], _ => rfl) rfl Tryz.underlying4 (by rw [Tryz.params10]; decide) hk⟩
end Go.Proofs.YthkmfboffnhkaaaGreatDoor
