/-
  PROVED: for every chain, index and reader whose reading is of bulk at most 1048576, agoralaw25.ReachReaders returns true and its arguments read as they did (ReachReadersUptoCardSaid). Conditions: the bulk's bound, and the listed package variables (act.kinds, utf8.acceptRanges, utf8.first) as the program's text lays them (tied by the given text Tie).
-/
import Derived.Test.YthkmfboffnhkaaaGreatDoorF13
import Derived.Test.YthkmfboffnhkaaaGreatDoorFA
import Derived.Test.YthkmfboffnhkaaaGreatDoorC8
set_option linter.all false
namespace Go.Proofs.YthkmfboffnhkaaaGreatDoor
open Go Go.ChangeShapes Go.WideShapes Go.ChangeAt Go.RowKit
set_option maxRecDepth 100000
set_option maxHeartbeats 4000000

theorem rreadsOwn : ownKnob Tryz.prog.godebug = none := by kernel_rfl
theorem rreadsReads (os : Os) {H : Type} (enc : TypeId × Value → H) : ∃ places, DataW.whole enc Tryz.prog (memW os #[.agg #[.string ⟨#[]⟩, .slice none 0 0, .slice none 0 0, .string ⟨#[]⟩, .int .i64 0, .bool false], .int .i64 0, .string ⟨#[]⟩]) Tryz.f10.params.toList Rows.reachReadersSpec.vars false
    #[Value.agg #[.string ⟨#[]⟩, .slice none 0 0, .slice none 0 0, .string ⟨#[]⟩, .int .i64 0, .bool false], Value.int .i64 0, Value.string ⟨#[]⟩].toList 8 = some ([.agg [.lit (.string []), .nil, .nil, .lit (.string []), .lit (.int .i64 0), .lit (.bool false)], .lit (.int .i64 0), .lit (.string [])], [], places) := ⟨[], by kernel_rfl⟩
theorem rreadsLifted (os : Os) (started : os.Started) (H : Type) (enc : TypeId × Value → H) (F : Stop.Interp) :
    ReturnsInHanded {} Tryz.checked os 10 .any ((Rows.OpenSpec.upto Rows.reachReadersSpec).preRow enc Tryz.prog Tryz.f10 Rows.reachReadersUptoRow.domain false Rows.reachReadersUptoRow.laid) (((Rows.OpenSpec.upto Rows.reachReadersSpec).at F).post enc Tryz.prog Tryz.f10 false true false false) := by
  obtain ⟨places, hx⟩ := rreadsReads os enc
  refine returnsInHanded_of_row (C := Tryz.checked) (s := Rows.OpenSpec.upto Rows.reachReadersSpec) rreadsOwn started (by kernel_rfl) Tryz.func10
    (witness_row_atRef (enc := enc) (C := Tryz.checked) false (laidW os) #[.agg #[.string ⟨#[]⟩, .slice none 0 0, .slice none 0 0, .string ⟨#[]⟩, .int .i64 0, .bool false], .int .i64 0, .string ⟨#[]⟩] (laidW_os os) (by kernel_rfl) (by kernel_rfl) (by kernel_rfl)
      (OpenSpec.preRow_of_cond 8 hx (by kernel_rfl) (fun k hk => by cases hk; kernel_rfl) (by kernel_rfl) (laidW_met os _))) ?_
  intro W base args ds gs before hval hW _ hcond _ hL _ _
  exact rreads_contract H enc W base args ds gs before hval hW (hcond _ rfl) hL
theorem rreadsInst : Tryz.f10.isInstance Tryz.pinned.checked.prog Rows.reachReadersUptoRow.origin Rows.reachReadersUptoRow.targs := of_decide_eq_true (by kernel_rfl)
theorem rreadsWrap : Tryz.f10.isWrapper Tryz.pinned.checked.prog Rows.reachReadersUptoRow.wrapper Rows.reachReadersUptoRow.mainSum := by
  unfold Func.isWrapper
  first
    | (rw [if_pos (by decide +kernel)]; kernel_rfl)
    | (rw [if_neg (by decide +kernel)]; exact ⟨rfl, rfl⟩)
theorem rreadsNamed : Tryz.pinned.checked.prog.funcNamed Rows.reachReadersUptoRow.func = some 10 := by kernel_rfl
theorem rreadsSaid : Rows.ReachReadersUptoSaid :=
  OpenClaim.holds_of_cond 10 Tryz.f10 rfl rfl rfl rfl rfl rfl rfl ⟨rfl, rfl, rfl, rfl, rfl⟩ rfl rfl rfl rfl rfl rreadsNamed Tryz.func10 rreadsClosed rreadsInst rreadsWrap
    (fun os started H enc _ F => by rw [OpenClaim.pre_eq_preRow]; exact rreadsLifted os started H enc F)
theorem rreadsPlain (f : FuncId) (fn : Func) (hf : Tryz.pinned.checked.prog.funcNamed Rows.reachReadersUptoRow.func = some f) (hfn : Tryz.pinned.checked.prog.funcs[f]? = some fn) :
    false = Tryz.pinned.checked.prog.looks [] ∧ ∀ (j : Nat) t, fn.params[j]? = some t → Tryz.pinned.checked.prog.wantsStandIn t = false := by
  obtain rfl : f = 10 := Option.some.inj ((show Tryz.prog.funcNamed Rows.reachReadersUptoRow.func = some 10 by kernel_rfl).symm.trans hf) |>.symm
  obtain rfl : fn = Tryz.f10 := (Option.some.inj (Tryz.func10.symm.trans hfn)).symm
  refine ⟨by kernel_rfl, fun j t ht => ?_⟩
  have hall : ∀ t ∈ Tryz.f10.params, Tryz.prog.wantsStandIn t = false := by
    have h : Tryz.f10.params.all (fun t => !Tryz.prog.wantsStandIn t) = true := by kernel_rfl
    intro t ht
    have := Array.all_eq_true_iff_forall_mem.1 h t ht
    simpa using this
  exact hall t (Array.mem_of_getElem? ht)
theorem rreadsCard : Rows.ReachReadersUptoCardSaid :=
  Claim7.holds_tied_plain_at .later [] _ _ _ _ rreadsSaid (fun _ h => by cases h) (by kernel_rfl) (fun _ h => by cases h) reachReadersUpto_row_tie rfl ⟨rfl, rfl⟩ (by kernel_rfl) rfl rreadsPlain (by kernel_rfl)
end Go.Proofs.YthkmfboffnhkaaaGreatDoor
