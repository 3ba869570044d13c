/-
  The frame: ReachKeeps, for every reading within the bulk.
-/
import Derived.Test.YthkmfboffnhkaaaGreatDoorFK
import Derived.Test.YthkmfboffnhkaaaGreatDoorRK
set_option linter.all false
namespace Go.Proofs.YthkmfboffnhkaaaGreatDoor
open Go Go.L1 Go.ChangeShapes Go.WideShapes Go.ChangeAt Go.RowKit
set_option maxRecDepth 100000
set_option maxHeartbeats 4000000
theorem rkeeps_contract (H : Type) (enc : TypeId × Value → H) (W : World) (base : Nat) (args : Array Value) (ds gs : List (DataW H)) (before : List MemPlace)
    (hval : ∀ (j : Nat) t v, Tryz.f12.params[j]? = some t → args[j]? = some v → Value.okWide Tryz.prog W .any base t v)
    (hW : DataW.Whole enc Tryz.prog Tryz.f12.params.toList Rows.reachKeepsSpec.vars false W args.toList ds gs before) (hc : Rows.uptoSmall H (ds ++ gs) = true) (hL : laidMetH Tryz.prog Rows.reachKeepsUptoRow.laid W) :
    Calls Tryz.prog 12 args W fun e W' => ∃ v, e = .returned v ∧ Rows.reachKeepsSpec.post enc Tryz.prog Tryz.f12 false true false false W args v W' := by
  have hW' := hW
  obtain ⟨p, q, hA, hV, rfl, hfz, hnd⟩ := hW
  have hs := small_le hc
  rw [Tryz.params12] at hA hval
  obtain ⟨v0, vs0, d0, ds0, p0, q0, hargs, rfl, rfl, h0, r0⟩ := trodAll_cons hA
  obtain ⟨v1, vs1, d1, ds1, p1, q1, rfl, rfl, rfl, h1, r1⟩ := trodAll_cons r0
  obtain ⟨v2, vs2, d2, ds2, p2, q2, rfl, rfl, rfl, h2, r2⟩ := trodAll_cons r1
  obtain ⟨v3, vs3, d3, ds3, p3, q3, rfl, rfl, rfl, h3, r3⟩ := trodAll_cons r2
  obtain ⟨v4, vs4, d4, ds4, p4, q4, rfl, rfl, rfl, h4, r4⟩ := trodAll_cons r3
  obtain ⟨rfl, rfl, rfl⟩ := trodAll_nil r4
  obtain rfl : args = #[v0, v1, v2, v3, v4] := by cases args; simp_all
  obtain ⟨c0, g0, l0, f0⟩ := read_chaink (hval 0 40 v0 rfl rfl) h0 (hs _ (by simp))
  obtain ⟨c1, rfl, rfl, rfl, w1⟩ := open_int Tryz.underlying3 (hval 1 3 v1 rfl rfl) h1
  obtain ⟨c2, rfl, rfl, rfl, w2⟩ := open_int Tryz.underlying3 (hval 2 3 v2 rfl rfl) h2
  obtain ⟨c3, g3, l3⟩ := read_str (hval 3 9 v3 rfl rfl) h3 (hs _ (by simp))
  obtain ⟨c4, g4, l4, f4⟩ := read_acts (hval 4 37 v4 rfl rfl) h4 (hs _ (by simp))
  have big : tooBig = 1048576 := rfl
  refine (fn_true (keeps25_ok c0 c1 c2 c3 c4 f0 (by omega) (by omega) l4 f4 []) hL (by simp) (fun i v x hv hx => ?_)).mono fun e W' ⟨he, hk⟩ => ?_
  · match i with
    | 0 => simp at hv hx; subst hv hx; exact g0
    | 1 => simp at hv hx; subst hv hx; exact .c _ _ (.int .i64 c1)
    | 2 => simp at hv hx; subst hv hx; exact .c _ _ (.int .i64 c2)
    | 3 => simp at hv hx; subst hv hx; exact g3
    | 4 => simp at hv hx; subst hv hx; exact g4
    | k + 5 => simp at hv
  · subst he
    exact ⟨_, rfl, post_true rfl hW' (fun ds hd => by
      rw [Tryz.params12] at hd
      match ds, hd with
      | [_, _, _, _, _], _ => rfl) rfl Tryz.underlying4 (by rw [Tryz.params12]; decide) hk⟩
end Go.Proofs.YthkmfboffnhkaaaGreatDoor
