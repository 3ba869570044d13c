/-
  PROVED: for every list of chains, keepers and time whose reading is of bulk at most 1048576, agoralaw37.ListsAll returns true and its arguments read as they did (ListsAllUptoCardSaid). Conditions: the bulk's bound, and the listed package variables (act.kinds, utf8.acceptRanges, utf8.first) as the program's text lays them (tied by the given text Tie).
-/
import Derived.Test.YthkmfboffnhkaaaGreatDoorF8
import Derived.Test.YthkmfboffnhkaaaGreatDoorF5
import Derived.Test.YthkmfboffnhkaaaGreatDoorC3
set_option linter.all false
namespace Go.Proofs.YthkmfboffnhkaaaGreatDoor
open Go Go.ChangeShapes Go.WideShapes Go.ChangeAt Go.RowKit
set_option maxRecDepth 100000
set_option maxHeartbeats 4000000

theorem allOwn : ownKnob Tryz.prog.godebug = none := by kernel_rfl
theorem allReads (os : Os) {H : Type} (enc : TypeId × Value → H) : ∃ places, DataW.whole enc Tryz.prog (memW os #[.slice none 0 0, .slice none 0 0, .int .i64 0]) Tryz.f5.params.toList Rows.listsAllSpec.vars false
    #[Value.slice none 0 0, Value.slice none 0 0, Value.int .i64 0].toList 8 = some ([.nil, .nil, .lit (.int .i64 0)], [], places) := ⟨[], by kernel_rfl⟩
theorem allLifted (os : Os) (started : os.Started) (H : Type) (enc : TypeId × Value → H) (F : Stop.Interp) :
    ReturnsInHanded {} Tryz.checked os 5 .any ((Rows.OpenSpec.upto Rows.listsAllSpec).preRow enc Tryz.prog Tryz.f5 Rows.listsAllUptoRow.domain false Rows.listsAllUptoRow.laid) (((Rows.OpenSpec.upto Rows.listsAllSpec).at F).post enc Tryz.prog Tryz.f5 false true false false) := by
  obtain ⟨places, hx⟩ := allReads os enc
  refine returnsInHanded_of_row (C := Tryz.checked) (s := Rows.OpenSpec.upto Rows.listsAllSpec) allOwn started (by kernel_rfl) Tryz.func5
    (witness_row_atRef (enc := enc) (C := Tryz.checked) false (laidW os) #[.slice none 0 0, .slice none 0 0, .int .i64 0] (laidW_os os) (by kernel_rfl) (by kernel_rfl) (by kernel_rfl)
      (OpenSpec.preRow_of_cond 8 hx (by kernel_rfl) (fun k hk => by cases hk; kernel_rfl) (by kernel_rfl) (laidW_met os _))) ?_
  intro W base args ds gs before hval hW _ hcond _ hL _ _
  exact all_contract H enc W base args ds gs before hval hW (hcond _ rfl) hL
theorem allInst : Tryz.f5.isInstance Tryz.pinned.checked.prog Rows.listsAllUptoRow.origin Rows.listsAllUptoRow.targs := of_decide_eq_true (by kernel_rfl)
theorem allWrap : Tryz.f5.isWrapper Tryz.pinned.checked.prog Rows.listsAllUptoRow.wrapper Rows.listsAllUptoRow.mainSum := by
  unfold Func.isWrapper
  first
    | (rw [if_pos (by decide +kernel)]; kernel_rfl)
    | (rw [if_neg (by decide +kernel)]; exact ⟨rfl, rfl⟩)
theorem allNamed : Tryz.pinned.checked.prog.funcNamed Rows.listsAllUptoRow.func = some 5 := by kernel_rfl
theorem allSaid : Rows.ListsAllUptoSaid :=
  OpenClaim.holds_of_cond 5 Tryz.f5 rfl rfl rfl rfl rfl rfl rfl ⟨rfl, rfl, rfl, rfl, rfl⟩ rfl rfl rfl rfl rfl allNamed Tryz.func5 allClosed allInst allWrap
    (fun os started H enc _ F => by rw [OpenClaim.pre_eq_preRow]; exact allLifted os started H enc F)
theorem allPlain (f : FuncId) (fn : Func) (hf : Tryz.pinned.checked.prog.funcNamed Rows.listsAllUptoRow.func = some f) (hfn : Tryz.pinned.checked.prog.funcs[f]? = some fn) :
    false = Tryz.pinned.checked.prog.looks [] ∧ ∀ (j : Nat) t, fn.params[j]? = some t → Tryz.pinned.checked.prog.wantsStandIn t = false := by
  obtain rfl : f = 5 := Option.some.inj ((show Tryz.prog.funcNamed Rows.listsAllUptoRow.func = some 5 by kernel_rfl).symm.trans hf) |>.symm
  obtain rfl : fn = Tryz.f5 := (Option.some.inj (Tryz.func5.symm.trans hfn)).symm
  refine ⟨by kernel_rfl, fun j t ht => ?_⟩
  have hall : ∀ t ∈ Tryz.f5.params, Tryz.prog.wantsStandIn t = false := by
    have h : Tryz.f5.params.all (fun t => !Tryz.prog.wantsStandIn t) = true := by kernel_rfl
    intro t ht
    have := Array.all_eq_true_iff_forall_mem.1 h t ht
    simpa using this
  exact hall t (Array.mem_of_getElem? ht)
theorem allCard : Rows.ListsAllUptoCardSaid :=
  Claim7.holds_tied_plain_at .later [] _ _ _ _ allSaid (fun _ h => by cases h) (by kernel_rfl) (fun _ h => by cases h) listsAllUpto_row_tie rfl ⟨rfl, rfl⟩ (by kernel_rfl) rfl allPlain (by kernel_rfl)
end Go.Proofs.YthkmfboffnhkaaaGreatDoor
