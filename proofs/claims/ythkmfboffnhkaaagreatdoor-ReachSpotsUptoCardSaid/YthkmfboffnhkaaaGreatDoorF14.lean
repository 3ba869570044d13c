/-
  The frame: ReachSpots, for every reading within the bulk.
-/
import Derived.Test.YthkmfboffnhkaaaGreatDoorFA
import Derived.Test.YthkmfboffnhkaaaGreatDoorRH
set_option linter.all false
namespace Go.Proofs.YthkmfboffnhkaaaGreatDoor
open Go Go.L1 Go.ChangeShapes Go.WideShapes Go.ChangeAt Go.RowKit
set_option maxRecDepth 100000
set_option maxHeartbeats 4000000
theorem rspots_contract (H : Type) (enc : TypeId × Value → H) (W : World) (base : Nat) (args : Array Value) (ds gs : List (DataW H)) (before : List MemPlace)
    (hval : ∀ (j : Nat) t v, Tryz.f11.params[j]? = some t → args[j]? = some v → Value.okWide Tryz.prog W .any base t v)
    (hW : DataW.Whole enc Tryz.prog Tryz.f11.params.toList Rows.reachSpotsSpec.vars false W args.toList ds gs before) (hc : Rows.uptoSmall H (ds ++ gs) = true) (hL : laidMetH Tryz.prog Rows.reachSpotsUptoRow.laid W) :
    Calls Tryz.prog 11 args W fun e W' => ∃ v, e = .returned v ∧ Rows.reachSpotsSpec.post enc Tryz.prog Tryz.f11 false true false false W args v W' := by
  have hW' := hW
  obtain ⟨p, q, hA, hV, rfl, hfz, hnd⟩ := hW
  have hs := small_le hc
  rw [Tryz.params11] at hA hval
  obtain ⟨v0, vs0, d0, ds0, p0, q0, hargs, rfl, rfl, h0, r0⟩ := trodAll_cons hA
  obtain ⟨v1, vs1, d1, ds1, p1, q1, rfl, rfl, rfl, h1, r1⟩ := trodAll_cons r0
  obtain ⟨rfl, rfl, rfl⟩ := trodAll_nil r1
  obtain rfl : args = #[v0, v1] := by cases args; simp_all
  obtain ⟨c0, g0, l0, f0⟩ := read_chains (hval 0 22 v0 rfl rfl) h0 (hs _ (by simp))
  obtain ⟨c1, g1, l1⟩ := read_str (hval 1 9 v1 rfl rfl) h1 (hs _ (by simp))
  have big : tooBig = 1048576 := rfl
  refine (fn_true (spots25_ok c0 c1 f0 l0 []) hL (by simp) (fun i v x hv hx => ?_)).mono fun e W' ⟨he, hk⟩ => ?_
  · match i with
    | 0 => simp at hv hx; subst hv hx; exact g0
    | 1 => simp at hv hx; subst hv hx; exact g1
    | k + 2 => simp at hv
  · subst he
    exact ⟨_, rfl, post_true rfl hW' (fun ds hd => by
      rw [Tryz.params11] at hd
      match ds, hd with
      | [_, _], _ => rfl) rfl Tryz.underlying4 (by rw [Tryz.params11]; decide) hk⟩
end Go.Proofs.YthkmfboffnhkaaaGreatDoor
