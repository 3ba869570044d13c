/-
  The frame: CircleFresh, for every reading within the bulk.
-/
import Derived.Test.YthkmfboffnhkaaaGreatDoorFC
import Derived.Test.YthkmfboffnhkaaaGreatDoorWN
set_option linter.all false
namespace Go.Proofs.YthkmfboffnhkaaaGreatDoor
open Go Go.L1 Go.ChangeShapes Go.WideShapes Go.ChangeAt Go.RowKit
set_option maxRecDepth 100000
set_option maxHeartbeats 4000000
theorem newAct_fits {c : Chain} {n scope epoch kind : Int} {group : Str} {to : List Str} (hid : c.id.length ≤ tooBig) (hg : group.length ≤ tooBig) (ht : to.length ≤ tooBig) (hts : ∀ s ∈ to, s.length ≤ tooBig)
    (w1 : (Lit.int .i64 n).wf = true) (w2 : (Lit.int .i64 scope).wf = true) (w5 : (Lit.int .i64 epoch).wf = true) (w6 : (Lit.int .i64 kind).wf = true) (h8 : to.length ≤ 8) : (newAct c n scope group to epoch kind).Fits := by
  have big : tooBig = 1048576 := rfl
  have z : ([] : Str).length ≤ tooBig := Nat.zero_le _
  refine ⟨hid, z, z, z, hg, z, ⟨z, z, z⟩, ht, ?_, Nat.zero_le _, (fun w hw => absurd hw (by simp [newAct])), w6, ?_⟩
  · have h1 := sumL_le to hts
    have h3 := Nat.mul_le_mul_left tooBig h8
    have h4 : tooBig * 8 = 8388608 := by decide
    show sumL to ≤ 8388608
    omega
  · have e1 := wf64 w1; have e2 := wf64 w2; have e5 := wf64 w5; have e6 := wf64 w6
    intro x hx
    simp [newAct] at hx
    rcases hx with rfl | rfl | rfl | rfl | rfl | rfl <;> omega
theorem cfresh_contract (H : Type) (enc : TypeId × Value → H) (W : World) (base : Nat) (args : Array Value) (ds gs : List (DataW H)) (before : List MemPlace)
    (hval : ∀ (j : Nat) t v, Tryz.f8.params[j]? = some t → args[j]? = some v → Value.okWide Tryz.prog W .any base t v)
    (hW : DataW.Whole enc Tryz.prog Tryz.f8.params.toList Rows.circleFreshSpec.vars false W args.toList ds gs before) (hc : Rows.uptoSmall H (ds ++ gs) = true) (hL : laidMetH Tryz.prog Rows.circleFreshUptoRow.laid W) :
    Calls Tryz.prog 8 args W fun e W' => ∃ v, e = .returned v ∧ Rows.circleFreshSpec.post enc Tryz.prog Tryz.f8 false true false false W args v W' := by
  have hW' := hW
  obtain ⟨p, q, hA, hV, rfl, hfz, hnd⟩ := hW
  have hs := small_le hc
  rw [Tryz.params8] at hA hval
  obtain ⟨v0, vs0, d0, ds0, p0, q0, hargs, rfl, rfl, h0, r0⟩ := trodAll_cons hA
  obtain ⟨v1, vs1, d1, ds1, p1, q1, rfl, rfl, rfl, h1, r1⟩ := trodAll_cons r0
  obtain ⟨v2, vs2, d2, ds2, p2, q2, rfl, rfl, rfl, h2, r2⟩ := trodAll_cons r1
  obtain ⟨v3, vs3, d3, ds3, p3, q3, rfl, rfl, rfl, h3, r3⟩ := trodAll_cons r2
  obtain ⟨v4, vs4, d4, ds4, p4, q4, rfl, rfl, rfl, h4, r4⟩ := trodAll_cons r3
  obtain ⟨v5, vs5, d5, ds5, p5, q5, rfl, rfl, rfl, h5, r5⟩ := trodAll_cons r4
  obtain ⟨v6, vs6, d6, ds6, p6, q6, rfl, rfl, rfl, h6, r6⟩ := trodAll_cons r5
  obtain ⟨rfl, rfl, rfl⟩ := trodAll_nil r6
  obtain rfl : args = #[v0, v1, v2, v3, v4, v5, v6] := by cases args; simp_all
  obtain ⟨c0, g0, l0, f0⟩ := read_chain2 (hval 0 40 v0 rfl rfl) h0 (hs _ (by simp))
  obtain ⟨c1, rfl, rfl, rfl, w1⟩ := open_int Tryz.underlying3 (hval 1 3 v1 rfl rfl) h1
  obtain ⟨c2, rfl, rfl, rfl, w2⟩ := open_int Tryz.underlying3 (hval 2 3 v2 rfl rfl) h2
  obtain ⟨c3, g3, l3⟩ := read_str (hval 3 9 v3 rfl rfl) h3 (hs _ (by simp))
  obtain ⟨c4, g4, l4, f4⟩ := read_texts2 (hval 4 23 v4 rfl rfl) h4 (hs _ (by simp))
  obtain ⟨c5, rfl, rfl, rfl, w5⟩ := open_int Tryz.underlying3 (hval 5 3 v5 rfl rfl) h5
  obtain ⟨c6, rfl, rfl, rfl, w6⟩ := open_int Tryz.underlying3 (hval 6 3 v6 rfl rfl) h6
  have big : tooBig = 1048576 := rfl
  refine (fn_true (fresh22_ok c0 c1 c2 c3 c4 c5 c6 f0.1 (by omega) (by omega) (fun k hk => by have := f4 k hk; omega) (fun _ => newAct_fits f0.2 l3 l4 f4 w1 w2 w5 w6 (by assumption)) []) hL (by simp) (fun i v x hv hx => ?_)).mono fun e W' ⟨he, hk⟩ => ?_
  · match i with
    | 0 => simp at hv hx; subst hv hx; exact g0
    | 1 => simp at hv hx; subst hv hx; exact .c _ _ (.int .i64 c1)
    | 2 => simp at hv hx; subst hv hx; exact .c _ _ (.int .i64 c2)
    | 3 => simp at hv hx; subst hv hx; exact g3
    | 4 => simp at hv hx; subst hv hx; exact g4
    | 5 => simp at hv hx; subst hv hx; exact .c _ _ (.int .i64 c5)
    | 6 => simp at hv hx; subst hv hx; exact .c _ _ (.int .i64 c6)
    | k + 7 => simp at hv
  · subst he
    exact ⟨_, rfl, post_true rfl hW' (fun ds hd => by
      rw [Tryz.params8] at hd
      match ds, hd with
      | [_, _, _, _, _, _, _], _ => rfl) rfl Tryz.underlying4 (by rw [Tryz.params8]; decide) hk⟩
end Go.Proofs.YthkmfboffnhkaaaGreatDoor
