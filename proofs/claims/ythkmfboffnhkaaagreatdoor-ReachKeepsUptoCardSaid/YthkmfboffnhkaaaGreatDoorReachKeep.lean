/-
  PROVED: for every chain, index, number, reader and list of further activities whose reading is of bulk at most 1048576, agoralaw25.ReachKeeps returns true and its arguments read as they did (ReachKeepsUptoCardSaid). Conditions: the bulk's bound, and the listed package variables (act.kinds, utf8.acceptRanges, utf8.first) as the program's text lays them (tied by the given text Tie).
-/
import Derived.Test.YthkmfboffnhkaaaGreatDoorF15
import Derived.Test.YthkmfboffnhkaaaGreatDoorFA
import Derived.Test.YthkmfboffnhkaaaGreatDoorC10
set_option linter.all false
namespace Go.Proofs.YthkmfboffnhkaaaGreatDoor
open Go Go.ChangeShapes Go.WideShapes Go.ChangeAt Go.RowKit
set_option maxRecDepth 100000
set_option maxHeartbeats 4000000

theorem rkeepsOwn : ownKnob Tryz.prog.godebug = none := by kernel_rfl
theorem rkeepsReads (os : Os) {H : Type} (enc : TypeId × Value → H) : ∃ places, DataW.whole enc Tryz.prog (memW os #[.agg #[.string ⟨#[]⟩, .slice none 0 0, .slice none 0 0, .string ⟨#[]⟩, .int .i64 0, .bool false], .int .i64 0, .int .i64 0, .string ⟨#[]⟩, .slice none 0 0]) Tryz.f12.params.toList Rows.reachKeepsSpec.vars false
    #[Value.agg #[.string ⟨#[]⟩, .slice none 0 0, .slice none 0 0, .string ⟨#[]⟩, .int .i64 0, .bool false], Value.int .i64 0, Value.int .i64 0, Value.string ⟨#[]⟩, Value.slice none 0 0].toList 8 = some ([.agg [.lit (.string []), .nil, .nil, .lit (.string []), .lit (.int .i64 0), .lit (.bool false)], .lit (.int .i64 0), .lit (.int .i64 0), .lit (.string []), .nil], [], places) := ⟨[], by kernel_rfl⟩
theorem rkeepsLifted (os : Os) (started : os.Started) (H : Type) (enc : TypeId × Value → H) (F : Stop.Interp) :
    ReturnsInHanded {} Tryz.checked os 12 .any ((Rows.OpenSpec.upto Rows.reachKeepsSpec).preRow enc Tryz.prog Tryz.f12 Rows.reachKeepsUptoRow.domain false Rows.reachKeepsUptoRow.laid) (((Rows.OpenSpec.upto Rows.reachKeepsSpec).at F).post enc Tryz.prog Tryz.f12 false true false false) := by
  obtain ⟨places, hx⟩ := rkeepsReads os enc
  refine returnsInHanded_of_row (C := Tryz.checked) (s := Rows.OpenSpec.upto Rows.reachKeepsSpec) rkeepsOwn started (by kernel_rfl) Tryz.func12
    (witness_row_atRef (enc := enc) (C := Tryz.checked) false (laidW os) #[.agg #[.string ⟨#[]⟩, .slice none 0 0, .slice none 0 0, .string ⟨#[]⟩, .int .i64 0, .bool false], .int .i64 0, .int .i64 0, .string ⟨#[]⟩, .slice none 0 0] (laidW_os os) (by kernel_rfl) (by kernel_rfl) (by kernel_rfl)
      (OpenSpec.preRow_of_cond 8 hx (by kernel_rfl) (fun k hk => by cases hk; kernel_rfl) (by kernel_rfl) (laidW_met os _))) ?_
  intro W base args ds gs before hval hW _ hcond _ hL _ _
  exact rkeeps_contract H enc W base args ds gs before hval hW (hcond _ rfl) hL
theorem rkeepsInst : Tryz.f12.isInstance Tryz.pinned.checked.prog Rows.reachKeepsUptoRow.origin Rows.reachKeepsUptoRow.targs := of_decide_eq_true (by kernel_rfl)
theorem rkeepsWrap : Tryz.f12.isWrapper Tryz.pinned.checked.prog Rows.reachKeepsUptoRow.wrapper Rows.reachKeepsUptoRow.mainSum := by
  unfold Func.isWrapper
  first
    | (rw [if_pos (by decide +kernel)]; kernel_rfl)
    | (rw [if_neg (by decide +kernel)]; exact ⟨rfl, rfl⟩)
theorem rkeepsNamed : Tryz.pinned.checked.prog.funcNamed Rows.reachKeepsUptoRow.func = some 12 := by kernel_rfl
theorem rkeepsSaid : Rows.ReachKeepsUptoSaid :=
  OpenClaim.holds_of_cond 12 Tryz.f12 rfl rfl rfl rfl rfl rfl rfl ⟨rfl, rfl, rfl, rfl, rfl⟩ rfl rfl rfl rfl rfl rkeepsNamed Tryz.func12 rkeepsClosed rkeepsInst rkeepsWrap
    (fun os started H enc _ F => by rw [OpenClaim.pre_eq_preRow]; exact rkeepsLifted os started H enc F)
theorem rkeepsPlain (f : FuncId) (fn : Func) (hf : Tryz.pinned.checked.prog.funcNamed Rows.reachKeepsUptoRow.func = some f) (hfn : Tryz.pinned.checked.prog.funcs[f]? = some fn) :
    false = Tryz.pinned.checked.prog.looks [] ∧ ∀ (j : Nat) t, fn.params[j]? = some t → Tryz.pinned.checked.prog.wantsStandIn t = false := by
  obtain rfl : f = 12 := Option.some.inj ((show Tryz.prog.funcNamed Rows.reachKeepsUptoRow.func = some 12 by kernel_rfl).symm.trans hf) |>.symm
  obtain rfl : fn = Tryz.f12 := (Option.some.inj (Tryz.func12.symm.trans hfn)).symm
  refine ⟨by kernel_rfl, fun j t ht => ?_⟩
  have hall : ∀ t ∈ Tryz.f12.params, Tryz.prog.wantsStandIn t = false := by
    have h : Tryz.f12.params.all (fun t => !Tryz.prog.wantsStandIn t) = true := by kernel_rfl
    intro t ht
    have := Array.all_eq_true_iff_forall_mem.1 h t ht
    simpa using this
  exact hall t (Array.mem_of_getElem? ht)
theorem rkeepsCard : Rows.ReachKeepsUptoCardSaid :=
  Claim7.holds_tied_plain_at .later [] _ _ _ _ rkeepsSaid (fun _ h => by cases h) (by kernel_rfl) (fun _ h => by cases h) reachKeepsUpto_row_tie rfl ⟨rfl, rfl⟩ (by kernel_rfl) rfl rkeepsPlain (by kernel_rfl)
end Go.Proofs.YthkmfboffnhkaaaGreatDoor
