/-
  PROVED: for every list of chains, labeller and target whose reading is of bulk at most 1048576, agoralaw34.LabelLists returns true and its arguments read as they did (LabelListsUptoCardSaid). Conditions: the bulk's bound, and the listed package variables (act.kinds, utf8.acceptRanges, utf8.first) as the program's text lays them (tied by the given text Tie).
-/
import Derived.Test.YthkmfboffnhkaaaGreatDoorF9
import Derived.Test.YthkmfboffnhkaaaGreatDoorF5
import Derived.Test.YthkmfboffnhkaaaGreatDoorC4
set_option linter.all false
namespace Go.Proofs.YthkmfboffnhkaaaGreatDoor
open Go Go.ChangeShapes Go.WideShapes Go.ChangeAt Go.RowKit
set_option maxRecDepth 100000
set_option maxHeartbeats 4000000

theorem llistsOwn : ownKnob Tryz.prog.godebug = none := by kernel_rfl
theorem llistsReads (os : Os) {H : Type} (enc : TypeId × Value → H) : ∃ places, DataW.whole enc Tryz.prog (memW os #[.slice none 0 0, .string ⟨#[]⟩, .string ⟨#[]⟩]) Tryz.f7.params.toList Rows.labelListsSpec.vars false
    #[Value.slice none 0 0, Value.string ⟨#[]⟩, Value.string ⟨#[]⟩].toList 8 = some ([.nil, .lit (.string []), .lit (.string [])], [], places) := ⟨[], by kernel_rfl⟩
theorem llistsLifted (os : Os) (started : os.Started) (H : Type) (enc : TypeId × Value → H) (F : Stop.Interp) :
    ReturnsInHanded {} Tryz.checked os 7 .any ((Rows.OpenSpec.upto Rows.labelListsSpec).preRow enc Tryz.prog Tryz.f7 Rows.labelListsUptoRow.domain false Rows.labelListsUptoRow.laid) (((Rows.OpenSpec.upto Rows.labelListsSpec).at F).post enc Tryz.prog Tryz.f7 false true false false) := by
  obtain ⟨places, hx⟩ := llistsReads os enc
  refine returnsInHanded_of_row (C := Tryz.checked) (s := Rows.OpenSpec.upto Rows.labelListsSpec) llistsOwn started (by kernel_rfl) Tryz.func7
    (witness_row_atRef (enc := enc) (C := Tryz.checked) false (laidW os) #[.slice none 0 0, .string ⟨#[]⟩, .string ⟨#[]⟩] (laidW_os os) (by kernel_rfl) (by kernel_rfl) (by kernel_rfl)
      (OpenSpec.preRow_of_cond 8 hx (by kernel_rfl) (fun k hk => by cases hk; kernel_rfl) (by kernel_rfl) (laidW_met os _))) ?_
  intro W base args ds gs before hval hW _ hcond _ hL _ _
  exact llists_contract H enc W base args ds gs before hval hW (hcond _ rfl) hL
theorem llistsInst : Tryz.f7.isInstance Tryz.pinned.checked.prog Rows.labelListsUptoRow.origin Rows.labelListsUptoRow.targs := of_decide_eq_true (by kernel_rfl)
theorem llistsWrap : Tryz.f7.isWrapper Tryz.pinned.checked.prog Rows.labelListsUptoRow.wrapper Rows.labelListsUptoRow.mainSum := by
  unfold Func.isWrapper
  first
    | (rw [if_pos (by decide +kernel)]; kernel_rfl)
    | (rw [if_neg (by decide +kernel)]; exact ⟨rfl, rfl⟩)
theorem llistsNamed : Tryz.pinned.checked.prog.funcNamed Rows.labelListsUptoRow.func = some 7 := by kernel_rfl
theorem llistsSaid : Rows.LabelListsUptoSaid :=
  OpenClaim.holds_of_cond 7 Tryz.f7 rfl rfl rfl rfl rfl rfl rfl ⟨rfl, rfl, rfl, rfl, rfl⟩ rfl rfl rfl rfl rfl llistsNamed Tryz.func7 llistsClosed llistsInst llistsWrap
    (fun os started H enc _ F => by rw [OpenClaim.pre_eq_preRow]; exact llistsLifted os started H enc F)
theorem llistsPlain (f : FuncId) (fn : Func) (hf : Tryz.pinned.checked.prog.funcNamed Rows.labelListsUptoRow.func = some f) (hfn : Tryz.pinned.checked.prog.funcs[f]? = some fn) :
    false = Tryz.pinned.checked.prog.looks [] ∧ ∀ (j : Nat) t, fn.params[j]? = some t → Tryz.pinned.checked.prog.wantsStandIn t = false := by
  obtain rfl : f = 7 := Option.some.inj ((show Tryz.prog.funcNamed Rows.labelListsUptoRow.func = some 7 by kernel_rfl).symm.trans hf) |>.symm
  obtain rfl : fn = Tryz.f7 := (Option.some.inj (Tryz.func7.symm.trans hfn)).symm
  refine ⟨by kernel_rfl, fun j t ht => ?_⟩
  have hall : ∀ t ∈ Tryz.f7.params, Tryz.prog.wantsStandIn t = false := by
    have h : Tryz.f7.params.all (fun t => !Tryz.prog.wantsStandIn t) = true := by kernel_rfl
    intro t ht
    have := Array.all_eq_true_iff_forall_mem.1 h t ht
    simpa using this
  exact hall t (Array.mem_of_getElem? ht)
theorem llistsCard : Rows.LabelListsUptoCardSaid :=
  Claim7.holds_tied_plain_at .later [] _ _ _ _ llistsSaid (fun _ h => by cases h) (by kernel_rfl) (fun _ h => by cases h) labelListsUpto_row_tie rfl ⟨rfl, rfl⟩ (by kernel_rfl) rfl llistsPlain (by kernel_rfl)
end Go.Proofs.YthkmfboffnhkaaaGreatDoor
