/-
  The light code of functions: printed by wip/tools/gen.py.
-/
import Derived.Test.YthkmfboffnhkaaaGreatDoorTY2
namespace Go.Proofs.YthkmfboffnhkaaaGreatDoor
open Go Go.L1
set_option linter.all false
set_option maxRecDepth 100000
/-! agora/agoraref21.Same -/
def agoraref21_Same_R0 : List Itm := [.one ⟨some 4, .assign (.const (.bool false)), none⟩]
def agoraref21_Same_R1 : List Itm := [.one ⟨some 6, .move (.tmp 0), none⟩,
  .one ⟨some 7, .call ⟨.builtin .len, #[.tmp 6], #[23]⟩, none⟩,
  .one ⟨some 8, .move (.tmp 1), none⟩,
  .one ⟨some 9, .call ⟨.builtin .len, #[.tmp 8], #[23]⟩, none⟩,
  .one ⟨some 10, .binOp .neq 3 (.tmp 7) (.tmp 9) 3, none⟩]
def agoraref21_Same_R2 : List Itm := [.one ⟨some 4, .assign (.const (.bool false)), none⟩]
def agoraref21_Same_R3 : List Itm := [.one ⟨some 5, .assign (.const (.int .i64 0)), none⟩]
def agoraref21_Same_R4 : List Itm := [.one ⟨some 11, .move (.tmp 5), none⟩,
  .one ⟨some 12, .move (.tmp 0), none⟩,
  .one ⟨some 13, .call ⟨.builtin .len, #[.tmp 12], #[23]⟩, none⟩,
  .one ⟨some 14, .binOp .lss 3 (.tmp 11) (.tmp 13) 3, none⟩]
def agoraref21_Same_R6 : List Itm := [.one ⟨some 17, .move (.tmp 0), none⟩,
  .one ⟨some 18, .move (.tmp 5), none⟩,
  .one ⟨some 19, .indexAddr 23 (.tmp 17) (.tmp 18), none⟩,
  .one ⟨some 20, .load 9 (.tmp 19), none⟩,
  .one ⟨some 21, .move (.tmp 1), none⟩,
  .one ⟨some 22, .move (.tmp 5), none⟩,
  .one ⟨some 23, .indexAddr 23 (.tmp 21) (.tmp 22), none⟩,
  .one ⟨some 24, .load 9 (.tmp 23), none⟩,
  .one ⟨some 25, .binOp .neq 9 (.tmp 20) (.tmp 24) 9, none⟩]
def agoraref21_Same_R7 : List Itm := [.one ⟨some 4, .assign (.const (.bool false)), none⟩]
def agoraref21_Same_B1 : MCode := (.seq (.reg 6 agoraref21_Same_R6 true) (.cond (.tmp 25) (.seq (.reg 7 agoraref21_Same_R7 false) .ret) .skip))
def agoraref21_Same_R5 : List Itm := [.one ⟨some 15, .move (.tmp 5), none⟩,
  .one ⟨some 16, .binOp .add 3 (.tmp 15) (.const (.int .i64 1)) 3, none⟩,
  .one ⟨some 5, .assign (.tmp 16), none⟩]
def agoraref21_Same_W1 : MCode := (.seq (.seq (.reg 4 agoraref21_Same_R4 false) (.cond (.tmp 14) .skip (.exit 0))) (.seq (.block 1 agoraref21_Same_B1) (.reg 5 agoraref21_Same_R5 false)))
def agoraref21_Same_B0 : MCode := (.loop agoraref21_Same_W1)
def agoraref21_Same_R8 : List Itm := [.one ⟨some 4, .assign (.const (.bool true)), none⟩]
def agoraref21_Same_L : MCode := (.seq (.reg 0 agoraref21_Same_R0 false) (.seq (.seq (.reg 1 agoraref21_Same_R1 false) (.cond (.tmp 10) (.seq (.reg 2 agoraref21_Same_R2 false) .ret) .skip)) (.seq (.seq (.reg 3 agoraref21_Same_R3 false) (.block 0 agoraref21_Same_B0)) (.seq (.reg 8 agoraref21_Same_R8 false) .ret))))
def agoraref21_Same_ks : Nat → List Nat := fun i => match i with
  | 6 => [0, 0, 0, 0, 0, 0, 0, 0, 0]
  | _ => []
theorem agoraref21_Same_F : FnL Tryz.prog GW 34 26 agoraref21_Same_L [.tmp 4] agoraref21_Same_ks := ⟨⟨_, Tryz.func34, rfl, by kernel_rfl, by kernel_rfl, rfl⟩, by kernel_rfl, by kernel_rfl⟩
end Go.Proofs.YthkmfboffnhkaaaGreatDoor
