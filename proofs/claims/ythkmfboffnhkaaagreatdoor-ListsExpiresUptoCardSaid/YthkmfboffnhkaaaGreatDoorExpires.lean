/-
  PROVED: for every list of chains, keepers and two times whose reading is of bulk at most 1048576, agoralaw37.ListsExpires returns true and its arguments read as they did (ListsExpiresUptoCardSaid). Conditions: the bulk's bound, and the listed package variables (act.kinds, utf8.acceptRanges, utf8.first) as the program's text lays them (tied by the given text Tie).
-/
import Derived.Test.YthkmfboffnhkaaaGreatDoorF6
import Derived.Test.YthkmfboffnhkaaaGreatDoorF5
import Derived.Test.YthkmfboffnhkaaaGreatDoorC2
set_option linter.all false
namespace Go.Proofs.YthkmfboffnhkaaaGreatDoor
open Go Go.ChangeShapes Go.WideShapes Go.ChangeAt Go.RowKit
set_option maxRecDepth 100000
set_option maxHeartbeats 4000000

theorem expiresOwn : ownKnob Tryz.prog.godebug = none := by kernel_rfl
theorem expiresReads (os : Os) {H : Type} (enc : TypeId × Value → H) : ∃ places, DataW.whole enc Tryz.prog (memW os #[.slice none 0 0, .slice none 0 0, .int .i64 0, .int .i64 0]) Tryz.f4.params.toList Rows.listsExpiresSpec.vars false
    #[Value.slice none 0 0, Value.slice none 0 0, Value.int .i64 0, Value.int .i64 0].toList 8 = some ([.nil, .nil, .lit (.int .i64 0), .lit (.int .i64 0)], [], places) := ⟨[], by kernel_rfl⟩
theorem expiresLifted (os : Os) (started : os.Started) (H : Type) (enc : TypeId × Value → H) (F : Stop.Interp) :
    ReturnsInHanded {} Tryz.checked os 4 .any ((Rows.OpenSpec.upto Rows.listsExpiresSpec).preRow enc Tryz.prog Tryz.f4 Rows.listsExpiresUptoRow.domain false Rows.listsExpiresUptoRow.laid) (((Rows.OpenSpec.upto Rows.listsExpiresSpec).at F).post enc Tryz.prog Tryz.f4 false true false false) := by
  obtain ⟨places, hx⟩ := expiresReads os enc
  refine returnsInHanded_of_row (C := Tryz.checked) (s := Rows.OpenSpec.upto Rows.listsExpiresSpec) expiresOwn started (by kernel_rfl) Tryz.func4
    (witness_row_atRef (enc := enc) (C := Tryz.checked) false (laidW os) #[.slice none 0 0, .slice none 0 0, .int .i64 0, .int .i64 0] (laidW_os os) (by kernel_rfl) (by kernel_rfl) (by kernel_rfl)
      (OpenSpec.preRow_of_cond 8 hx (by kernel_rfl) (fun k hk => by cases hk; kernel_rfl) (by kernel_rfl) (laidW_met os _))) ?_
  intro W base args ds gs before hval hW _ hcond _ hL _ _
  exact expires_contract H enc W base args ds gs before hval hW (hcond _ rfl) hL
theorem expiresInst : Tryz.f4.isInstance Tryz.pinned.checked.prog Rows.listsExpiresUptoRow.origin Rows.listsExpiresUptoRow.targs := of_decide_eq_true (by kernel_rfl)
theorem expiresWrap : Tryz.f4.isWrapper Tryz.pinned.checked.prog Rows.listsExpiresUptoRow.wrapper Rows.listsExpiresUptoRow.mainSum := by
  unfold Func.isWrapper
  first
    | (rw [if_pos (by decide +kernel)]; kernel_rfl)
    | (rw [if_neg (by decide +kernel)]; exact ⟨rfl, rfl⟩)
theorem expiresNamed : Tryz.pinned.checked.prog.funcNamed Rows.listsExpiresUptoRow.func = some 4 := by kernel_rfl
theorem expiresSaid : Rows.ListsExpiresUptoSaid :=
  OpenClaim.holds_of_cond 4 Tryz.f4 rfl rfl rfl rfl rfl rfl rfl ⟨rfl, rfl, rfl, rfl, rfl⟩ rfl rfl rfl rfl rfl expiresNamed Tryz.func4 expiresClosed expiresInst expiresWrap
    (fun os started H enc _ F => by rw [OpenClaim.pre_eq_preRow]; exact expiresLifted os started H enc F)
theorem expiresPlain (f : FuncId) (fn : Func) (hf : Tryz.pinned.checked.prog.funcNamed Rows.listsExpiresUptoRow.func = some f) (hfn : Tryz.pinned.checked.prog.funcs[f]? = some fn) :
    false = Tryz.pinned.checked.prog.looks [] ∧ ∀ (j : Nat) t, fn.params[j]? = some t → Tryz.pinned.checked.prog.wantsStandIn t = false := by
  obtain rfl : f = 4 := Option.some.inj ((show Tryz.prog.funcNamed Rows.listsExpiresUptoRow.func = some 4 by kernel_rfl).symm.trans hf) |>.symm
  obtain rfl : fn = Tryz.f4 := (Option.some.inj (Tryz.func4.symm.trans hfn)).symm
  refine ⟨by kernel_rfl, fun j t ht => ?_⟩
  have hall : ∀ t ∈ Tryz.f4.params, Tryz.prog.wantsStandIn t = false := by
    have h : Tryz.f4.params.all (fun t => !Tryz.prog.wantsStandIn t) = true := by kernel_rfl
    intro t ht
    have := Array.all_eq_true_iff_forall_mem.1 h t ht
    simpa using this
  exact hall t (Array.mem_of_getElem? ht)
theorem expiresCard : Rows.ListsExpiresUptoCardSaid :=
  Claim7.holds_tied_plain_at .later [] _ _ _ _ expiresSaid (fun _ h => by cases h) (by kernel_rfl) (fun _ h => by cases h) listsExpiresUpto_row_tie rfl ⟨rfl, rfl⟩ (by kernel_rfl) rfl expiresPlain (by kernel_rfl)
end Go.Proofs.YthkmfboffnhkaaaGreatDoor
