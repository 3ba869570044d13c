/-
  PROVED: for every list of chains and every reader whose reading is of bulk at most 1048576, agoralaw25.ReachSpots returns true and its arguments read as they did (ReachSpotsUptoCardSaid). Conditions: the bulk's bound, and the listed package variables (act.kinds, utf8.acceptRanges, utf8.first) as the program's text lays them (tied by the given text Tie).
-/
import Derived.Test.YthkmfboffnhkaaaGreatDoorF14
import Derived.Test.YthkmfboffnhkaaaGreatDoorFA
import Derived.Test.YthkmfboffnhkaaaGreatDoorC9
set_option linter.all false
namespace Go.Proofs.YthkmfboffnhkaaaGreatDoor
open Go Go.ChangeShapes Go.WideShapes Go.ChangeAt Go.RowKit
set_option maxRecDepth 100000
set_option maxHeartbeats 4000000

theorem rspotsOwn : ownKnob Tryz.prog.godebug = none := by kernel_rfl
theorem rspotsReads (os : Os) {H : Type} (enc : TypeId × Value → H) : ∃ places, DataW.whole enc Tryz.prog (memW os #[.slice none 0 0, .string ⟨#[]⟩]) Tryz.f11.params.toList Rows.reachSpotsSpec.vars false
    #[Value.slice none 0 0, Value.string ⟨#[]⟩].toList 8 = some ([.nil, .lit (.string [])], [], places) := ⟨[], by kernel_rfl⟩
theorem rspotsLifted (os : Os) (started : os.Started) (H : Type) (enc : TypeId × Value → H) (F : Stop.Interp) :
    ReturnsInHanded {} Tryz.checked os 11 .any ((Rows.OpenSpec.upto Rows.reachSpotsSpec).preRow enc Tryz.prog Tryz.f11 Rows.reachSpotsUptoRow.domain false Rows.reachSpotsUptoRow.laid) (((Rows.OpenSpec.upto Rows.reachSpotsSpec).at F).post enc Tryz.prog Tryz.f11 false true false false) := by
  obtain ⟨places, hx⟩ := rspotsReads os enc
  refine returnsInHanded_of_row (C := Tryz.checked) (s := Rows.OpenSpec.upto Rows.reachSpotsSpec) rspotsOwn started (by kernel_rfl) Tryz.func11
    (witness_row_atRef (enc := enc) (C := Tryz.checked) false (laidW os) #[.slice none 0 0, .string ⟨#[]⟩] (laidW_os os) (by kernel_rfl) (by kernel_rfl) (by kernel_rfl)
      (OpenSpec.preRow_of_cond 8 hx (by kernel_rfl) (fun k hk => by cases hk; kernel_rfl) (by kernel_rfl) (laidW_met os _))) ?_
  intro W base args ds gs before hval hW _ hcond _ hL _ _
  exact rspots_contract H enc W base args ds gs before hval hW (hcond _ rfl) hL
theorem rspotsInst : Tryz.f11.isInstance Tryz.pinned.checked.prog Rows.reachSpotsUptoRow.origin Rows.reachSpotsUptoRow.targs := of_decide_eq_true (by kernel_rfl)
theorem rspotsWrap : Tryz.f11.isWrapper Tryz.pinned.checked.prog Rows.reachSpotsUptoRow.wrapper Rows.reachSpotsUptoRow.mainSum := by
  unfold Func.isWrapper
  first
    | (rw [if_pos (by decide +kernel)]; kernel_rfl)
    | (rw [if_neg (by decide +kernel)]; exact ⟨rfl, rfl⟩)
theorem rspotsNamed : Tryz.pinned.checked.prog.funcNamed Rows.reachSpotsUptoRow.func = some 11 := by kernel_rfl
theorem rspotsSaid : Rows.ReachSpotsUptoSaid :=
  OpenClaim.holds_of_cond 11 Tryz.f11 rfl rfl rfl rfl rfl rfl rfl ⟨rfl, rfl, rfl, rfl, rfl⟩ rfl rfl rfl rfl rfl rspotsNamed Tryz.func11 rspotsClosed rspotsInst rspotsWrap
    (fun os started H enc _ F => by rw [OpenClaim.pre_eq_preRow]; exact rspotsLifted os started H enc F)
theorem rspotsPlain (f : FuncId) (fn : Func) (hf : Tryz.pinned.checked.prog.funcNamed Rows.reachSpotsUptoRow.func = some f) (hfn : Tryz.pinned.checked.prog.funcs[f]? = some fn) :
    false = Tryz.pinned.checked.prog.looks [] ∧ ∀ (j : Nat) t, fn.params[j]? = some t → Tryz.pinned.checked.prog.wantsStandIn t = false := by
  obtain rfl : f = 11 := Option.some.inj ((show Tryz.prog.funcNamed Rows.reachSpotsUptoRow.func = some 11 by kernel_rfl).symm.trans hf) |>.symm
  obtain rfl : fn = Tryz.f11 := (Option.some.inj (Tryz.func11.symm.trans hfn)).symm
  refine ⟨by kernel_rfl, fun j t ht => ?_⟩
  have hall : ∀ t ∈ Tryz.f11.params, Tryz.prog.wantsStandIn t = false := by
    have h : Tryz.f11.params.all (fun t => !Tryz.prog.wantsStandIn t) = true := by kernel_rfl
    intro t ht
    have := Array.all_eq_true_iff_forall_mem.1 h t ht
    simpa using this
  exact hall t (Array.mem_of_getElem? ht)
theorem rspotsCard : Rows.ReachSpotsUptoCardSaid :=
  Claim7.holds_tied_plain_at .later [] _ _ _ _ rspotsSaid (fun _ h => by cases h) (by kernel_rfl) (fun _ h => by cases h) reachSpotsUpto_row_tie rfl ⟨rfl, rfl⟩ (by kernel_rfl) rfl rspotsPlain (by kernel_rfl)
end Go.Proofs.YthkmfboffnhkaaaGreatDoor
