/-
  PROVED: for every chain, number, scope, group, audience, epoch and kind whose reading is of bulk at most 1048576, agoralaw22.CircleFresh returns true and its arguments read as they did (CircleFreshUptoCardSaid). Conditions: the bulk's bound, and the listed package variables (act.kinds, utf8.acceptRanges, utf8.first) as the program's text lays them (tied by the given text Tie).
-/
import Derived.Test.YthkmfboffnhkaaaGreatDoorF12
import Derived.Test.YthkmfboffnhkaaaGreatDoorF5
import Derived.Test.YthkmfboffnhkaaaGreatDoorC7
set_option linter.all false
namespace Go.Proofs.YthkmfboffnhkaaaGreatDoor
open Go Go.ChangeShapes Go.WideShapes Go.ChangeAt Go.RowKit
set_option maxRecDepth 100000
set_option maxHeartbeats 4000000

theorem cfreshOwn : ownKnob Tryz.prog.godebug = none := by kernel_rfl
theorem cfreshReads (os : Os) {H : Type} (enc : TypeId × Value → H) : ∃ places, DataW.whole enc Tryz.prog (memW os #[.agg #[.string ⟨#[]⟩, .slice none 0 0, .slice none 0 0, .string ⟨#[]⟩, .int .i64 0, .bool false], .int .i64 0, .int .i64 0, .string ⟨#[]⟩, .slice none 0 0, .int .i64 0, .int .i64 0]) Tryz.f8.params.toList Rows.circleFreshSpec.vars false
    #[Value.agg #[.string ⟨#[]⟩, .slice none 0 0, .slice none 0 0, .string ⟨#[]⟩, .int .i64 0, .bool false], Value.int .i64 0, Value.int .i64 0, Value.string ⟨#[]⟩, Value.slice none 0 0, Value.int .i64 0, Value.int .i64 0].toList 8 = some ([.agg [.lit (.string []), .nil, .nil, .lit (.string []), .lit (.int .i64 0), .lit (.bool false)], .lit (.int .i64 0), .lit (.int .i64 0), .lit (.string []), .nil, .lit (.int .i64 0), .lit (.int .i64 0)], [], places) := ⟨[], by kernel_rfl⟩
theorem cfreshLifted (os : Os) (started : os.Started) (H : Type) (enc : TypeId × Value → H) (F : Stop.Interp) :
    ReturnsInHanded {} Tryz.checked os 8 .any ((Rows.OpenSpec.upto Rows.circleFreshSpec).preRow enc Tryz.prog Tryz.f8 Rows.circleFreshUptoRow.domain false Rows.circleFreshUptoRow.laid) (((Rows.OpenSpec.upto Rows.circleFreshSpec).at F).post enc Tryz.prog Tryz.f8 false true false false) := by
  obtain ⟨places, hx⟩ := cfreshReads os enc
  refine returnsInHanded_of_row (C := Tryz.checked) (s := Rows.OpenSpec.upto Rows.circleFreshSpec) cfreshOwn started (by kernel_rfl) Tryz.func8
    (witness_row_atRef (enc := enc) (C := Tryz.checked) false (laidW os) #[.agg #[.string ⟨#[]⟩, .slice none 0 0, .slice none 0 0, .string ⟨#[]⟩, .int .i64 0, .bool false], .int .i64 0, .int .i64 0, .string ⟨#[]⟩, .slice none 0 0, .int .i64 0, .int .i64 0] (laidW_os os) (by kernel_rfl) (by kernel_rfl) (by kernel_rfl)
      (OpenSpec.preRow_of_cond 8 hx (by kernel_rfl) (fun k hk => by cases hk; kernel_rfl) (by kernel_rfl) (laidW_met os _))) ?_
  intro W base args ds gs before hval hW _ hcond _ hL _ _
  exact cfresh_contract H enc W base args ds gs before hval hW (hcond _ rfl) hL
theorem cfreshInst : Tryz.f8.isInstance Tryz.pinned.checked.prog Rows.circleFreshUptoRow.origin Rows.circleFreshUptoRow.targs := of_decide_eq_true (by kernel_rfl)
theorem cfreshWrap : Tryz.f8.isWrapper Tryz.pinned.checked.prog Rows.circleFreshUptoRow.wrapper Rows.circleFreshUptoRow.mainSum := by
  unfold Func.isWrapper
  first
    | (rw [if_pos (by decide +kernel)]; kernel_rfl)
    | (rw [if_neg (by decide +kernel)]; exact ⟨rfl, rfl⟩)
theorem cfreshNamed : Tryz.pinned.checked.prog.funcNamed Rows.circleFreshUptoRow.func = some 8 := by kernel_rfl
theorem cfreshSaid : Rows.CircleFreshUptoSaid :=
  OpenClaim.holds_of_cond 8 Tryz.f8 rfl rfl rfl rfl rfl rfl rfl ⟨rfl, rfl, rfl, rfl, rfl⟩ rfl rfl rfl rfl rfl cfreshNamed Tryz.func8 cfreshClosed cfreshInst cfreshWrap
    (fun os started H enc _ F => by rw [OpenClaim.pre_eq_preRow]; exact cfreshLifted os started H enc F)
theorem cfreshPlain (f : FuncId) (fn : Func) (hf : Tryz.pinned.checked.prog.funcNamed Rows.circleFreshUptoRow.func = some f) (hfn : Tryz.pinned.checked.prog.funcs[f]? = some fn) :
    false = Tryz.pinned.checked.prog.looks [] ∧ ∀ (j : Nat) t, fn.params[j]? = some t → Tryz.pinned.checked.prog.wantsStandIn t = false := by
  obtain rfl : f = 8 := Option.some.inj ((show Tryz.prog.funcNamed Rows.circleFreshUptoRow.func = some 8 by kernel_rfl).symm.trans hf) |>.symm
  obtain rfl : fn = Tryz.f8 := (Option.some.inj (Tryz.func8.symm.trans hfn)).symm
  refine ⟨by kernel_rfl, fun j t ht => ?_⟩
  have hall : ∀ t ∈ Tryz.f8.params, Tryz.prog.wantsStandIn t = false := by
    have h : Tryz.f8.params.all (fun t => !Tryz.prog.wantsStandIn t) = true := by kernel_rfl
    intro t ht
    have := Array.all_eq_true_iff_forall_mem.1 h t ht
    simpa using this
  exact hall t (Array.mem_of_getElem? ht)
theorem cfreshCard : Rows.CircleFreshUptoCardSaid :=
  Claim7.holds_tied_plain_at .later [] _ _ _ _ cfreshSaid (fun _ h => by cases h) (by kernel_rfl) (fun _ h => by cases h) circleFreshUpto_row_tie rfl ⟨rfl, rfl⟩ (by kernel_rfl) rfl cfreshPlain (by kernel_rfl)
end Go.Proofs.YthkmfboffnhkaaaGreatDoor
