/-
  PROVED: for every chain, scope and group whose reading is of bulk at most 1048576, agoralaw22.CircleEpochs returns true and its arguments read as they did (CircleEpochsUptoCardSaid). Conditions: the bulk's bound, and the listed package variables (act.kinds, utf8.acceptRanges, utf8.first) as the program's text lays them (tied by the given text Tie).
-/
import Derived.Test.YthkmfboffnhkaaaGreatDoorF11
import Derived.Test.YthkmfboffnhkaaaGreatDoorF5
import Derived.Test.YthkmfboffnhkaaaGreatDoorC6
set_option linter.all false
namespace Go.Proofs.YthkmfboffnhkaaaGreatDoor
open Go Go.ChangeShapes Go.WideShapes Go.ChangeAt Go.RowKit
set_option maxRecDepth 100000
set_option maxHeartbeats 4000000

theorem cepochsOwn : ownKnob Tryz.prog.godebug = none := by kernel_rfl
theorem cepochsReads (os : Os) {H : Type} (enc : TypeId × Value → H) : ∃ places, DataW.whole enc Tryz.prog (memW os #[.agg #[.string ⟨#[]⟩, .slice none 0 0, .slice none 0 0, .string ⟨#[]⟩, .int .i64 0, .bool false], .int .i64 0, .string ⟨#[]⟩]) Tryz.f9.params.toList Rows.circleEpochsSpec.vars false
    #[Value.agg #[.string ⟨#[]⟩, .slice none 0 0, .slice none 0 0, .string ⟨#[]⟩, .int .i64 0, .bool false], Value.int .i64 0, Value.string ⟨#[]⟩].toList 8 = some ([.agg [.lit (.string []), .nil, .nil, .lit (.string []), .lit (.int .i64 0), .lit (.bool false)], .lit (.int .i64 0), .lit (.string [])], [], places) := ⟨[], by kernel_rfl⟩
theorem cepochsLifted (os : Os) (started : os.Started) (H : Type) (enc : TypeId × Value → H) (F : Stop.Interp) :
    ReturnsInHanded {} Tryz.checked os 9 .any ((Rows.OpenSpec.upto Rows.circleEpochsSpec).preRow enc Tryz.prog Tryz.f9 Rows.circleEpochsUptoRow.domain false Rows.circleEpochsUptoRow.laid) (((Rows.OpenSpec.upto Rows.circleEpochsSpec).at F).post enc Tryz.prog Tryz.f9 false true false false) := by
  obtain ⟨places, hx⟩ := cepochsReads os enc
  refine returnsInHanded_of_row (C := Tryz.checked) (s := Rows.OpenSpec.upto Rows.circleEpochsSpec) cepochsOwn started (by kernel_rfl) Tryz.func9
    (witness_row_atRef (enc := enc) (C := Tryz.checked) false (laidW os) #[.agg #[.string ⟨#[]⟩, .slice none 0 0, .slice none 0 0, .string ⟨#[]⟩, .int .i64 0, .bool false], .int .i64 0, .string ⟨#[]⟩] (laidW_os os) (by kernel_rfl) (by kernel_rfl) (by kernel_rfl)
      (OpenSpec.preRow_of_cond 8 hx (by kernel_rfl) (fun k hk => by cases hk; kernel_rfl) (by kernel_rfl) (laidW_met os _))) ?_
  intro W base args ds gs before hval hW _ hcond _ hL _ _
  exact cepochs_contract H enc W base args ds gs before hval hW (hcond _ rfl) hL
theorem cepochsInst : Tryz.f9.isInstance Tryz.pinned.checked.prog Rows.circleEpochsUptoRow.origin Rows.circleEpochsUptoRow.targs := of_decide_eq_true (by kernel_rfl)
theorem cepochsWrap : Tryz.f9.isWrapper Tryz.pinned.checked.prog Rows.circleEpochsUptoRow.wrapper Rows.circleEpochsUptoRow.mainSum := by
  unfold Func.isWrapper
  first
    | (rw [if_pos (by decide +kernel)]; kernel_rfl)
    | (rw [if_neg (by decide +kernel)]; exact ⟨rfl, rfl⟩)
theorem cepochsNamed : Tryz.pinned.checked.prog.funcNamed Rows.circleEpochsUptoRow.func = some 9 := by kernel_rfl
theorem cepochsSaid : Rows.CircleEpochsUptoSaid :=
  OpenClaim.holds_of_cond 9 Tryz.f9 rfl rfl rfl rfl rfl rfl rfl ⟨rfl, rfl, rfl, rfl, rfl⟩ rfl rfl rfl rfl rfl cepochsNamed Tryz.func9 cepochsClosed cepochsInst cepochsWrap
    (fun os started H enc _ F => by rw [OpenClaim.pre_eq_preRow]; exact cepochsLifted os started H enc F)
theorem cepochsPlain (f : FuncId) (fn : Func) (hf : Tryz.pinned.checked.prog.funcNamed Rows.circleEpochsUptoRow.func = some f) (hfn : Tryz.pinned.checked.prog.funcs[f]? = some fn) :
    false = Tryz.pinned.checked.prog.looks [] ∧ ∀ (j : Nat) t, fn.params[j]? = some t → Tryz.pinned.checked.prog.wantsStandIn t = false := by
  obtain rfl : f = 9 := Option.some.inj ((show Tryz.prog.funcNamed Rows.circleEpochsUptoRow.func = some 9 by kernel_rfl).symm.trans hf) |>.symm
  obtain rfl : fn = Tryz.f9 := (Option.some.inj (Tryz.func9.symm.trans hfn)).symm
  refine ⟨by kernel_rfl, fun j t ht => ?_⟩
  have hall : ∀ t ∈ Tryz.f9.params, Tryz.prog.wantsStandIn t = false := by
    have h : Tryz.f9.params.all (fun t => !Tryz.prog.wantsStandIn t) = true := by kernel_rfl
    intro t ht
    have := Array.all_eq_true_iff_forall_mem.1 h t ht
    simpa using this
  exact hall t (Array.mem_of_getElem? ht)
theorem cepochsCard : Rows.CircleEpochsUptoCardSaid :=
  Claim7.holds_tied_plain_at .later [] _ _ _ _ cepochsSaid (fun _ h => by cases h) (by kernel_rfl) (fun _ h => by cases h) circleEpochsUpto_row_tie rfl ⟨rfl, rfl⟩ (by kernel_rfl) rfl cepochsPlain (by kernel_rfl)
end Go.Proofs.YthkmfboffnhkaaaGreatDoor
