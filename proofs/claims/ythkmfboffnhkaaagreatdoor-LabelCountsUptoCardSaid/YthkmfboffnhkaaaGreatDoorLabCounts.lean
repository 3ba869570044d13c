/-
  PROVED: for every list of chains, trusted labellers, target and further labeller whose reading is of bulk at most 1048576, agoralaw34.LabelCounts returns true and its arguments read as they did (LabelCountsUptoCardSaid). Conditions: the bulk's bound, and the listed package variables (act.kinds, utf8.acceptRanges, utf8.first) as the program's text lays them (tied by the given text Tie).
-/
import Derived.Test.YthkmfboffnhkaaaGreatDoorF10
import Derived.Test.YthkmfboffnhkaaaGreatDoorF5
import Derived.Test.YthkmfboffnhkaaaGreatDoorC5
set_option linter.all false
namespace Go.Proofs.YthkmfboffnhkaaaGreatDoor
open Go Go.ChangeShapes Go.WideShapes Go.ChangeAt Go.RowKit
set_option maxRecDepth 100000
set_option maxHeartbeats 4000000

theorem lcountsOwn : ownKnob Tryz.prog.godebug = none := by kernel_rfl
theorem lcountsReads (os : Os) {H : Type} (enc : TypeId × Value → H) : ∃ places, DataW.whole enc Tryz.prog (memW os #[.slice none 0 0, .slice none 0 0, .string ⟨#[]⟩, .string ⟨#[]⟩]) Tryz.f6.params.toList Rows.labelCountsSpec.vars false
    #[Value.slice none 0 0, Value.slice none 0 0, Value.string ⟨#[]⟩, Value.string ⟨#[]⟩].toList 8 = some ([.nil, .nil, .lit (.string []), .lit (.string [])], [], places) := ⟨[], by kernel_rfl⟩
theorem lcountsLifted (os : Os) (started : os.Started) (H : Type) (enc : TypeId × Value → H) (F : Stop.Interp) :
    ReturnsInHanded {} Tryz.checked os 6 .any ((Rows.OpenSpec.upto Rows.labelCountsSpec).preRow enc Tryz.prog Tryz.f6 Rows.labelCountsUptoRow.domain false Rows.labelCountsUptoRow.laid) (((Rows.OpenSpec.upto Rows.labelCountsSpec).at F).post enc Tryz.prog Tryz.f6 false true false false) := by
  obtain ⟨places, hx⟩ := lcountsReads os enc
  refine returnsInHanded_of_row (C := Tryz.checked) (s := Rows.OpenSpec.upto Rows.labelCountsSpec) lcountsOwn started (by kernel_rfl) Tryz.func6
    (witness_row_atRef (enc := enc) (C := Tryz.checked) false (laidW os) #[.slice none 0 0, .slice none 0 0, .string ⟨#[]⟩, .string ⟨#[]⟩] (laidW_os os) (by kernel_rfl) (by kernel_rfl) (by kernel_rfl)
      (OpenSpec.preRow_of_cond 8 hx (by kernel_rfl) (fun k hk => by cases hk; kernel_rfl) (by kernel_rfl) (laidW_met os _))) ?_
  intro W base args ds gs before hval hW _ hcond _ hL _ _
  exact lcounts_contract H enc W base args ds gs before hval hW (hcond _ rfl) hL
theorem lcountsInst : Tryz.f6.isInstance Tryz.pinned.checked.prog Rows.labelCountsUptoRow.origin Rows.labelCountsUptoRow.targs := of_decide_eq_true (by kernel_rfl)
theorem lcountsWrap : Tryz.f6.isWrapper Tryz.pinned.checked.prog Rows.labelCountsUptoRow.wrapper Rows.labelCountsUptoRow.mainSum := by
  unfold Func.isWrapper
  first
    | (rw [if_pos (by decide +kernel)]; kernel_rfl)
    | (rw [if_neg (by decide +kernel)]; exact ⟨rfl, rfl⟩)
theorem lcountsNamed : Tryz.pinned.checked.prog.funcNamed Rows.labelCountsUptoRow.func = some 6 := by kernel_rfl
theorem lcountsSaid : Rows.LabelCountsUptoSaid :=
  OpenClaim.holds_of_cond 6 Tryz.f6 rfl rfl rfl rfl rfl rfl rfl ⟨rfl, rfl, rfl, rfl, rfl⟩ rfl rfl rfl rfl rfl lcountsNamed Tryz.func6 lcountsClosed lcountsInst lcountsWrap
    (fun os started H enc _ F => by rw [OpenClaim.pre_eq_preRow]; exact lcountsLifted os started H enc F)
theorem lcountsPlain (f : FuncId) (fn : Func) (hf : Tryz.pinned.checked.prog.funcNamed Rows.labelCountsUptoRow.func = some f) (hfn : Tryz.pinned.checked.prog.funcs[f]? = some fn) :
    false = Tryz.pinned.checked.prog.looks [] ∧ ∀ (j : Nat) t, fn.params[j]? = some t → Tryz.pinned.checked.prog.wantsStandIn t = false := by
  obtain rfl : f = 6 := Option.some.inj ((show Tryz.prog.funcNamed Rows.labelCountsUptoRow.func = some 6 by kernel_rfl).symm.trans hf) |>.symm
  obtain rfl : fn = Tryz.f6 := (Option.some.inj (Tryz.func6.symm.trans hfn)).symm
  refine ⟨by kernel_rfl, fun j t ht => ?_⟩
  have hall : ∀ t ∈ Tryz.f6.params, Tryz.prog.wantsStandIn t = false := by
    have h : Tryz.f6.params.all (fun t => !Tryz.prog.wantsStandIn t) = true := by kernel_rfl
    intro t ht
    have := Array.all_eq_true_iff_forall_mem.1 h t ht
    simpa using this
  exact hall t (Array.mem_of_getElem? ht)
theorem lcountsCard : Rows.LabelCountsUptoCardSaid :=
  Claim7.holds_tied_plain_at .later [] _ _ _ _ lcountsSaid (fun _ h => by cases h) (by kernel_rfl) (fun _ h => by cases h) labelCountsUpto_row_tie rfl ⟨rfl, rfl⟩ (by kernel_rfl) rfl lcountsPlain (by kernel_rfl)
end Go.Proofs.YthkmfboffnhkaaaGreatDoor
