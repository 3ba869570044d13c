/-
  The light code of functions: printed by wip/tools/gen.py.
-/
import Derived.Test.YthkmfboffnhkaaaGreatDoorTY2
namespace Go.Proofs.YthkmfboffnhkaaaGreatDoor
open Go Go.L1
set_option linter.all false
set_option maxRecDepth 100000
/-! agora/label.Valid -/
def label_Valid_R0 : List Itm := [.one ⟨some 6, .assign (.const (.slice none 0 0)), none⟩]
def label_Valid_R1 : List Itm := [.one ⟨some 15, .move (.tmp 0), none⟩,
  .one ⟨some 16, .move (.tmp 1), none⟩,
  .one ⟨some 17, .call ⟨.value (.func 21), #[.tmp 15, .tmp 16], #[22, 9]⟩, none⟩,
  .one ⟨some 14, .move (.tmp 17), none⟩,
  .one ⟨some 18, .extract (.tmp 14) 0, none⟩,
  .one ⟨some 19, .extract (.tmp 14) 1, none⟩,
  .one ⟨some 7, .alloc 40, none⟩,
  .one ⟨none, .store 40 (.tmp 7) (.tmp 18), none⟩,
  .one ⟨some 8, .assign (.tmp 19), none⟩]
def label_Valid_R2 : List Itm := [.one ⟨some 20, .move (.tmp 8), none⟩,
  .one ⟨some 21, .unOp .not 4 (.tmp 20), none⟩,
  .one ⟨some 22, .move (.tmp 21), none⟩,
  .blk 2 false [.one ⟨some 23, .move (.tmp 2), some (2, false)⟩,
  .one ⟨some 24, .binOp .eql 9 (.tmp 23) (.const (.string ⟨#[]⟩)) 9, some (2, false)⟩] ⟨some 25, .pick (.tmp 22) (.const (.bool true)) (.tmp 24), none⟩]
def label_Valid_R3 : List Itm := [.one ⟨some 6, .assign (.const (.slice none 0 0)), none⟩]
def label_Valid_R4 : List Itm := [.one ⟨some 26, .makeMap 118 none, none⟩,
  .one ⟨some 9, .assign (.tmp 26), none⟩]
def label_Valid_R5 : List Itm := [.one ⟨some 27, .fieldAddr 40 (.tmp 7) 1, none⟩,
  .one ⟨some 28, .load 37 (.tmp 27), none⟩,
  .one ⟨some 29, .call ⟨.builtin .len, #[.tmp 28], #[37]⟩, none⟩,
  .one ⟨some 30, .move (.const (.int .i64 0)), none⟩]
def label_Valid_R6 : List Itm := [.one ⟨some 31, .binOp .lss 3 (.tmp 30) (.tmp 29) 3, none⟩]
def label_Valid_R7 : List Itm := [.one ⟨some 32, .move (.tmp 30), none⟩,
  .one ⟨some 33, .indexAddr 37 (.tmp 28) (.tmp 30), none⟩,
  .one ⟨some 34, .load 49 (.tmp 33), none⟩,
  .one ⟨some 11, .alloc 49, none⟩,
  .one ⟨some 10, .assign (.tmp 32), none⟩,
  .one ⟨none, .store 49 (.tmp 11) (.tmp 34), none⟩]
def label_Valid_R8 : List Itm := [.one ⟨some 35, .fieldAddr 49 (.tmp 11) 3, none⟩,
  .one ⟨some 36, .load 3 (.tmp 35), none⟩]
def label_Valid_R9 : List Itm := [.one ⟨some 38, .binOp .eql 3 (.tmp 36) (.const (.int .i64 17)) 3, none⟩,
  .one ⟨some 37, .assign (.tmp 38), none⟩]
def label_Valid_R10 : List Itm := [.one ⟨some 39, .fieldAddr 49 (.tmp 11) 5, none⟩,
  .one ⟨some 40, .load 9 (.tmp 39), none⟩,
  .one ⟨some 41, .move (.tmp 2), none⟩,
  .one ⟨some 42, .binOp .eql 9 (.tmp 40) (.tmp 41) 9, none⟩,
  .one ⟨some 43, .move (.tmp 42), none⟩,
  .blk 4 false [.one ⟨some 44, .fieldAddr 49 (.tmp 11) 6, some (4, false)⟩,
  .one ⟨some 45, .load 9 (.tmp 44), some (4, false)⟩,
  .one ⟨some 46, .move (.tmp 2), some (4, false)⟩,
  .one ⟨some 47, .binOp .eql 9 (.tmp 45) (.tmp 46) 9, some (4, false)⟩] ⟨some 48, .pick (.tmp 43) (.const (.bool true)) (.tmp 47), none⟩]
def label_Valid_R11 : List Itm := [.one ⟨some 49, .move (.tmp 9), none⟩,
  .one ⟨some 50, .move (.tmp 10), none⟩,
  .one ⟨some 51, .fieldAddr 49 (.tmp 11) 10, none⟩,
  .one ⟨some 52, .load 9 (.tmp 51), none⟩,
  .one ⟨none, .mapUpdate 118 (.tmp 49) (.tmp 50) (.tmp 52), none⟩]
def label_Valid_R12 : List Itm := [.one ⟨some 54, .binOp .eql 3 (.tmp 36) (.const (.int .i64 6)) 3, none⟩,
  .one ⟨some 53, .assign (.tmp 54), none⟩]
def label_Valid_R13 : List Itm := [.one ⟨some 56, .load 40 (.tmp 7), none⟩,
  .one ⟨some 57, .fieldAddr 49 (.tmp 11) 5, none⟩,
  .one ⟨some 58, .load 9 (.tmp 57), none⟩,
  .one ⟨some 59, .call ⟨.value (.func 45), #[.tmp 56, .tmp 58], #[40, 9]⟩, none⟩,
  .one ⟨some 55, .move (.tmp 59), none⟩,
  .one ⟨some 60, .extract (.tmp 55) 0, none⟩,
  .one ⟨some 61, .extract (.tmp 55) 1, none⟩,
  .one ⟨some 12, .assign (.tmp 60), none⟩,
  .one ⟨some 13, .assign (.tmp 61), none⟩]
def label_Valid_R14 : List Itm := [.one ⟨some 62, .move (.tmp 13), none⟩,
  .one ⟨some 63, .move (.tmp 62), none⟩,
  .blk 1 true [.one ⟨some 64, .move (.tmp 12), some (1, true)⟩,
  .one ⟨some 65, .move (.tmp 10), some (1, true)⟩,
  .one ⟨some 66, .binOp .lss 3 (.tmp 64) (.tmp 65) 3, some (1, true)⟩] ⟨some 67, .pick (.tmp 63) (.tmp 66) (.const (.bool false)), none⟩]
def label_Valid_R15 : List Itm := [.one ⟨some 68, .move (.tmp 9), none⟩,
  .one ⟨some 69, .move (.tmp 12), none⟩,
  .one ⟨none, .call ⟨.builtin .delete, #[.tmp 68, .tmp 69], #[118, 3]⟩, none⟩]
def label_Valid_B2 : MCode := (.seq (.reg 9 label_Valid_R9 false) (.cond (.tmp 37) (.seq (.reg 10 label_Valid_R10 false) (.cond (.tmp 48) (.reg 11 label_Valid_R11 false) .skip)) (.seq (.reg 12 label_Valid_R12 false) (.cond (.tmp 53) (.seq (.reg 13 label_Valid_R13 false) (.seq (.reg 14 label_Valid_R14 false) (.cond (.tmp 67) (.reg 15 label_Valid_R15 false) .skip))) .skip))))
def label_Valid_B1 : MCode := (.seq (.reg 7 label_Valid_R7 false) (.seq (.reg 8 label_Valid_R8 false) (.block 2 label_Valid_B2)))
def label_Valid_R16 : List Itm := [.one ⟨some 70, .binOp .add 3 (.tmp 30) (.const (.int .i64 1)) 3, none⟩,
  .one ⟨some 30, .move (.tmp 70), none⟩]
def label_Valid_W1 : MCode := (.seq (.reg 6 label_Valid_R6 false) (.seq (.cond (.tmp 31) .skip (.exit 0)) (.seq (.block 1 label_Valid_B1) (.reg 16 label_Valid_R16 false))))
def label_Valid_B0 : MCode := (.loop label_Valid_W1)
def label_Valid_R17 : List Itm := [.one ⟨some 71, .move (.tmp 9), none⟩,
  .one ⟨some 72, .call ⟨.value (.func 67), #[.tmp 71], #[118]⟩, none⟩,
  .one ⟨some 73, .call ⟨.value (.func 58), #[.tmp 72], #[109]⟩, none⟩,
  .one ⟨some 74, .call ⟨.value (.func 66), #[.tmp 73], #[23]⟩, none⟩,
  .one ⟨some 6, .assign (.tmp 74), none⟩]
def label_Valid_L : MCode := (.seq (.reg 0 label_Valid_R0 false) (.seq (.reg 1 label_Valid_R1 false) (.seq (.seq (.reg 2 label_Valid_R2 false) (.cond (.tmp 25) (.seq (.reg 3 label_Valid_R3 false) .ret) .skip)) (.seq (.reg 4 label_Valid_R4 false) (.seq (.seq (.reg 5 label_Valid_R5 false) (.block 0 label_Valid_B0)) (.seq (.reg 17 label_Valid_R17 false) .ret))))))
def label_Valid_ks : Nat → List Nat := fun i => match i with
  | _ => []
theorem label_Valid_F : FnL Tryz.prog GW 26 75 label_Valid_L [.tmp 6] label_Valid_ks := ⟨⟨_, Tryz.func26, rfl, by kernel_rfl, by kernel_rfl, rfl⟩, by kernel_rfl, by kernel_rfl⟩
/-! agora/label.Of -/
def label_Of_R0 : List Itm := [.one ⟨some 6, .assign (.const (.slice none 0 0)), none⟩]
def label_Of_R1 : List Itm := [.one ⟨some 16, .makeMap 115 none, none⟩,
  .one ⟨some 7, .assign (.tmp 16), none⟩]
def label_Of_R2 : List Itm := [.one ⟨some 17, .makeMap 116 none, none⟩,
  .one ⟨some 8, .assign (.tmp 17), none⟩]
def label_Of_R3 : List Itm := [.one ⟨some 18, .move (.tmp 1), none⟩,
  .one ⟨some 19, .call ⟨.builtin .len, #[.tmp 18], #[23]⟩, none⟩,
  .one ⟨some 20, .move (.const (.int .i64 0)), none⟩]
def label_Of_R4 : List Itm := [.one ⟨some 21, .binOp .lss 3 (.tmp 20) (.tmp 19) 3, none⟩]
def label_Of_R5 : List Itm := [.one ⟨some 22, .indexAddr 23 (.tmp 18) (.tmp 20), none⟩,
  .one ⟨some 23, .load 9 (.tmp 22), none⟩,
  .one ⟨some 10, .assign (.tmp 23), none⟩]
def label_Of_R6 : List Itm := [.one ⟨some 24, .move (.tmp 7), none⟩,
  .one ⟨some 25, .move (.tmp 10), none⟩,
  .one ⟨some 26, .lookup 115 (.tmp 24) (.tmp 25) false, none⟩]
def label_Of_R7 : List Itm := [.one ⟨some 27, .move (.tmp 7), none⟩,
  .one ⟨some 28, .move (.tmp 10), none⟩,
  .one ⟨none, .mapUpdate 115 (.tmp 27) (.tmp 28) (.const (.bool true)), none⟩]
def label_Of_R8 : List Itm := [.one ⟨some 29, .move (.tmp 0), none⟩,
  .one ⟨some 30, .move (.tmp 10), none⟩,
  .one ⟨some 31, .move (.tmp 2), none⟩,
  .one ⟨some 32, .call ⟨.value (.func 26), #[.tmp 29, .tmp 30, .tmp 31], #[22, 9, 9]⟩, none⟩,
  .one ⟨some 33, .call ⟨.builtin .len, #[.tmp 32], #[23]⟩, none⟩,
  .one ⟨some 34, .move (.const (.int .i64 0)), none⟩]
def label_Of_R9 : List Itm := [.one ⟨some 35, .binOp .lss 3 (.tmp 34) (.tmp 33) 3, none⟩]
def label_Of_R10 : List Itm := [.one ⟨some 36, .indexAddr 23 (.tmp 32) (.tmp 34), none⟩,
  .one ⟨some 37, .load 9 (.tmp 36), none⟩,
  .one ⟨some 12, .assign (.tmp 37), none⟩]
def label_Of_R11 : List Itm := [.one ⟨some 38, .move (.tmp 8), none⟩,
  .one ⟨some 39, .move (.tmp 12), none⟩,
  .one ⟨some 40, .lookup 116 (.tmp 38) (.tmp 39) false, none⟩,
  .one ⟨some 41, .binOp .add 3 (.tmp 40) (.const (.int .i64 1)) 3, none⟩,
  .one ⟨none, .mapUpdate 116 (.tmp 38) (.tmp 39) (.tmp 41), none⟩]
def label_Of_B3 : MCode := (.seq (.reg 10 label_Of_R10 false) (.reg 11 label_Of_R11 false))
def label_Of_R12 : List Itm := [.one ⟨some 42, .binOp .add 3 (.tmp 34) (.const (.int .i64 1)) 3, none⟩,
  .one ⟨some 34, .move (.tmp 42), none⟩]
def label_Of_W1 : MCode := (.seq (.reg 9 label_Of_R9 false) (.seq (.cond (.tmp 35) .skip (.exit 2)) (.seq (.block 3 label_Of_B3) (.reg 12 label_Of_R12 false))))
def label_Of_B2 : MCode := (.loop label_Of_W1)
def label_Of_B1 : MCode := (.seq (.reg 5 label_Of_R5 false) (.seq (.seq (.reg 6 label_Of_R6 false) (.cond (.tmp 26) (.exit 1) .skip)) (.seq (.reg 7 label_Of_R7 false) (.seq (.reg 8 label_Of_R8 false) (.block 2 label_Of_B2)))))
def label_Of_R13 : List Itm := [.one ⟨some 43, .binOp .add 3 (.tmp 20) (.const (.int .i64 1)) 3, none⟩,
  .one ⟨some 20, .move (.tmp 43), none⟩]
def label_Of_W2 : MCode := (.seq (.reg 4 label_Of_R4 false) (.seq (.cond (.tmp 21) .skip (.exit 0)) (.seq (.block 1 label_Of_B1) (.reg 13 label_Of_R13 false))))
def label_Of_B0 : MCode := (.loop label_Of_W2)
def label_Of_R14 : List Itm := [.one ⟨some 13, .assign (.const (.slice none 0 0)), none⟩]
def label_Of_R15 : List Itm := [.one ⟨some 44, .move (.tmp 8), none⟩,
  .one ⟨some 45, .call ⟨.value (.func 65), #[.tmp 44], #[116]⟩, none⟩,
  .one ⟨some 46, .call ⟨.value (.func 58), #[.tmp 45], #[109]⟩, none⟩,
  .one ⟨some 47, .call ⟨.builtin .len, #[.tmp 46], #[23]⟩, none⟩,
  .one ⟨some 48, .move (.const (.int .i64 0)), none⟩]
def label_Of_R16 : List Itm := [.one ⟨some 49, .binOp .lss 3 (.tmp 48) (.tmp 47) 3, none⟩]
def label_Of_R17 : List Itm := [.one ⟨some 50, .indexAddr 23 (.tmp 46) (.tmp 48), none⟩,
  .one ⟨some 51, .load 9 (.tmp 50), none⟩,
  .one ⟨some 15, .assign (.tmp 51), none⟩]
def label_Of_R18 : List Itm := [.one ⟨some 52, .move (.tmp 13), none⟩,
  .one ⟨some 53, .move (.tmp 15), none⟩,
  .one ⟨some 54, .move (.tmp 8), none⟩,
  .one ⟨some 55, .move (.tmp 15), none⟩,
  .one ⟨some 56, .lookup 116 (.tmp 54) (.tmp 55) false, none⟩,
  .one ⟨some 57, .build 55 #[(0, .tmp 53), (1, .tmp 56)], none⟩,
  .one ⟨some 58, .buildSlice 50 1 #[(0, .tmp 57)], none⟩,
  .one ⟨some 59, .call ⟨.builtin .append, #[.tmp 52, .tmp 58], #[50, 50]⟩, none⟩,
  .one ⟨some 13, .assign (.tmp 59), none⟩]
def label_Of_B5 : MCode := (.seq (.reg 17 label_Of_R17 false) (.reg 18 label_Of_R18 false))
def label_Of_R19 : List Itm := [.one ⟨some 60, .binOp .add 3 (.tmp 48) (.const (.int .i64 1)) 3, none⟩,
  .one ⟨some 48, .move (.tmp 60), none⟩]
def label_Of_W3 : MCode := (.seq (.reg 16 label_Of_R16 false) (.seq (.cond (.tmp 49) .skip (.exit 4)) (.seq (.block 5 label_Of_B5) (.reg 19 label_Of_R19 false))))
def label_Of_B4 : MCode := (.loop label_Of_W3)
def label_Of_R20 : List Itm := [.one ⟨some 61, .move (.tmp 13), none⟩,
  .one ⟨some 6, .assign (.tmp 61), none⟩]
def label_Of_L : MCode := (.seq (.reg 0 label_Of_R0 false) (.seq (.reg 1 label_Of_R1 false) (.seq (.reg 2 label_Of_R2 false) (.seq (.seq (.reg 3 label_Of_R3 false) (.block 0 label_Of_B0)) (.seq (.reg 14 label_Of_R14 false) (.seq (.seq (.reg 15 label_Of_R15 false) (.block 4 label_Of_B4)) (.seq (.reg 20 label_Of_R20 false) .ret)))))))
def label_Of_ks : Nat → List Nat := fun i => match i with
  | _ => []
theorem label_Of_F : FnL Tryz.prog GW 24 62 label_Of_L [.tmp 6] label_Of_ks := ⟨⟨_, Tryz.func24, rfl, by kernel_rfl, by kernel_rfl, rfl⟩, by kernel_rfl, by kernel_rfl⟩
/-! agora/agoraref34.Same -/
def agoraref34_Same_R0 : List Itm := [.one ⟨some 4, .assign (.const (.bool false)), none⟩]
def agoraref34_Same_R1 : List Itm := [.one ⟨some 6, .move (.tmp 0), none⟩,
  .one ⟨some 7, .call ⟨.builtin .len, #[.tmp 6], #[50]⟩, none⟩,
  .one ⟨some 8, .move (.tmp 1), none⟩,
  .one ⟨some 9, .call ⟨.builtin .len, #[.tmp 8], #[50]⟩, none⟩,
  .one ⟨some 10, .binOp .neq 3 (.tmp 7) (.tmp 9) 3, none⟩]
def agoraref34_Same_R2 : List Itm := [.one ⟨some 4, .assign (.const (.bool false)), none⟩]
def agoraref34_Same_R3 : List Itm := [.one ⟨some 5, .assign (.const (.int .i64 0)), none⟩]
def agoraref34_Same_R4 : List Itm := [.one ⟨some 11, .move (.tmp 5), none⟩,
  .one ⟨some 12, .move (.tmp 0), none⟩,
  .one ⟨some 13, .call ⟨.builtin .len, #[.tmp 12], #[50]⟩, none⟩,
  .one ⟨some 14, .binOp .lss 3 (.tmp 11) (.tmp 13) 3, none⟩]
def agoraref34_Same_R6 : List Itm := [.one ⟨some 17, .move (.tmp 0), none⟩,
  .one ⟨some 18, .move (.tmp 5), none⟩,
  .one ⟨some 19, .indexAddr 50 (.tmp 17) (.tmp 18), none⟩,
  .one ⟨some 20, .load 55 (.tmp 19), none⟩,
  .one ⟨some 21, .move (.tmp 1), none⟩,
  .one ⟨some 22, .move (.tmp 5), none⟩,
  .one ⟨some 23, .indexAddr 50 (.tmp 21) (.tmp 22), none⟩,
  .one ⟨some 24, .load 55 (.tmp 23), none⟩,
  .one ⟨some 25, .binOp .neq 55 (.tmp 20) (.tmp 24) 55, none⟩]
def agoraref34_Same_R7 : List Itm := [.one ⟨some 4, .assign (.const (.bool false)), none⟩]
def agoraref34_Same_B1 : MCode := (.seq (.reg 6 agoraref34_Same_R6 true) (.cond (.tmp 25) (.seq (.reg 7 agoraref34_Same_R7 false) .ret) .skip))
def agoraref34_Same_R5 : List Itm := [.one ⟨some 15, .move (.tmp 5), none⟩,
  .one ⟨some 16, .binOp .add 3 (.tmp 15) (.const (.int .i64 1)) 3, none⟩,
  .one ⟨some 5, .assign (.tmp 16), none⟩]
def agoraref34_Same_W1 : MCode := (.seq (.seq (.reg 4 agoraref34_Same_R4 false) (.cond (.tmp 14) .skip (.exit 0))) (.seq (.block 1 agoraref34_Same_B1) (.reg 5 agoraref34_Same_R5 false)))
def agoraref34_Same_B0 : MCode := (.loop agoraref34_Same_W1)
def agoraref34_Same_R8 : List Itm := [.one ⟨some 4, .assign (.const (.bool true)), none⟩]
def agoraref34_Same_L : MCode := (.seq (.reg 0 agoraref34_Same_R0 false) (.seq (.seq (.reg 1 agoraref34_Same_R1 false) (.cond (.tmp 10) (.seq (.reg 2 agoraref34_Same_R2 false) .ret) .skip)) (.seq (.seq (.reg 3 agoraref34_Same_R3 false) (.block 0 agoraref34_Same_B0)) (.seq (.reg 8 agoraref34_Same_R8 false) .ret))))
def agoraref34_Same_ks : Nat → List Nat := fun i => match i with
  | 6 => [0, 0, 0, 0, 0, 0, 0, 0, 0]
  | _ => []
theorem agoraref34_Same_F : FnL Tryz.prog GW 25 26 agoraref34_Same_L [.tmp 4] agoraref34_Same_ks := ⟨⟨_, Tryz.func25, rfl, by kernel_rfl, by kernel_rfl, rfl⟩, by kernel_rfl, by kernel_rfl⟩
/-! agora/agoraref21.Same -/
def agoraref21_Same_R0 : List Itm := [.one ⟨some 4, .assign (.const (.bool false)), none⟩]
def agoraref21_Same_R1 : List Itm := [.one ⟨some 6, .move (.tmp 0), none⟩,
  .one ⟨some 7, .call ⟨.builtin .len, #[.tmp 6], #[23]⟩, none⟩,
  .one ⟨some 8, .move (.tmp 1), none⟩,
  .one ⟨some 9, .call ⟨.builtin .len, #[.tmp 8], #[23]⟩, none⟩,
  .one ⟨some 10, .binOp .neq 3 (.tmp 7) (.tmp 9) 3, none⟩]
def agoraref21_Same_R2 : List Itm := [.one ⟨some 4, .assign (.const (.bool false)), none⟩]
def agoraref21_Same_R3 : List Itm := [.one ⟨some 5, .assign (.const (.int .i64 0)), none⟩]
def agoraref21_Same_R4 : List Itm := [.one ⟨some 11, .move (.tmp 5), none⟩,
  .one ⟨some 12, .move (.tmp 0), none⟩,
  .one ⟨some 13, .call ⟨.builtin .len, #[.tmp 12], #[23]⟩, none⟩,
  .one ⟨some 14, .binOp .lss 3 (.tmp 11) (.tmp 13) 3, none⟩]
def agoraref21_Same_R6 : List Itm := [.one ⟨some 17, .move (.tmp 0), none⟩,
  .one ⟨some 18, .move (.tmp 5), none⟩,
  .one ⟨some 19, .indexAddr 23 (.tmp 17) (.tmp 18), none⟩,
  .one ⟨some 20, .load 9 (.tmp 19), none⟩,
  .one ⟨some 21, .move (.tmp 1), none⟩,
  .one ⟨some 22, .move (.tmp 5), none⟩,
  .one ⟨some 23, .indexAddr 23 (.tmp 21) (.tmp 22), none⟩,
  .one ⟨some 24, .load 9 (.tmp 23), none⟩,
  .one ⟨some 25, .binOp .neq 9 (.tmp 20) (.tmp 24) 9, none⟩]
def agoraref21_Same_R7 : List Itm := [.one ⟨some 4, .assign (.const (.bool false)), none⟩]
def agoraref21_Same_B1 : MCode := (.seq (.reg 6 agoraref21_Same_R6 true) (.cond (.tmp 25) (.seq (.reg 7 agoraref21_Same_R7 false) .ret) .skip))
def agoraref21_Same_R5 : List Itm := [.one ⟨some 15, .move (.tmp 5), none⟩,
  .one ⟨some 16, .binOp .add 3 (.tmp 15) (.const (.int .i64 1)) 3, none⟩,
  .one ⟨some 5, .assign (.tmp 16), none⟩]
def agoraref21_Same_W1 : MCode := (.seq (.seq (.reg 4 agoraref21_Same_R4 false) (.cond (.tmp 14) .skip (.exit 0))) (.seq (.block 1 agoraref21_Same_B1) (.reg 5 agoraref21_Same_R5 false)))
def agoraref21_Same_B0 : MCode := (.loop agoraref21_Same_W1)
def agoraref21_Same_R8 : List Itm := [.one ⟨some 4, .assign (.const (.bool true)), none⟩]
def agoraref21_Same_L : MCode := (.seq (.reg 0 agoraref21_Same_R0 false) (.seq (.seq (.reg 1 agoraref21_Same_R1 false) (.cond (.tmp 10) (.seq (.reg 2 agoraref21_Same_R2 false) .ret) .skip)) (.seq (.seq (.reg 3 agoraref21_Same_R3 false) (.block 0 agoraref21_Same_B0)) (.seq (.reg 8 agoraref21_Same_R8 false) .ret))))
def agoraref21_Same_ks : Nat → List Nat := fun i => match i with
  | 6 => [0, 0, 0, 0, 0, 0, 0, 0, 0]
  | _ => []
theorem agoraref21_Same_F : FnL Tryz.prog GW 34 26 agoraref21_Same_L [.tmp 4] agoraref21_Same_ks := ⟨⟨_, Tryz.func34, rfl, by kernel_rfl, by kernel_rfl, rfl⟩, by kernel_rfl, by kernel_rfl⟩
/-! slices.ContainsFunc[list of agora/api.Act,agora/api.Act] -/
def slices_ContainsFunc_Lapi_Act_api_Act_R0 : List Itm := [.one ⟨some 4, .assign (.const (.bool false)), none⟩]
def slices_ContainsFunc_Lapi_Act_api_Act_R1 : List Itm := [.one ⟨some 5, .move (.tmp 0), none⟩,
  .one ⟨some 6, .move (.tmp 1), none⟩,
  .one ⟨some 7, .call ⟨.value (.func 82), #[.tmp 5, .tmp 6], #[37, 151]⟩, none⟩,
  .one ⟨some 8, .binOp .geq 3 (.tmp 7) (.const (.int .i64 0)) 3, none⟩,
  .one ⟨some 4, .assign (.tmp 8), none⟩]
def slices_ContainsFunc_Lapi_Act_api_Act_L : MCode := (.seq (.reg 0 slices_ContainsFunc_Lapi_Act_api_Act_R0 false) (.seq (.reg 1 slices_ContainsFunc_Lapi_Act_api_Act_R1 false) .ret))
def slices_ContainsFunc_Lapi_Act_api_Act_ks : Nat → List Nat := fun i => match i with
  | _ => []
theorem slices_ContainsFunc_Lapi_Act_api_Act_F : FnL Tryz.prog GW 103 9 slices_ContainsFunc_Lapi_Act_api_Act_L [.tmp 4] slices_ContainsFunc_Lapi_Act_api_Act_ks := ⟨⟨_, Tryz.func103, rfl, by kernel_rfl, by kernel_rfl, rfl⟩, by kernel_rfl, by kernel_rfl⟩
/-! agora/label.Reports$1 -/
def label_Reports_1_R0 : List Itm := [.one ⟨some 2, .box 49 (.tmp 0), none⟩,
  .one ⟨some 3, .assign (.const (.bool false)), none⟩]
def label_Reports_1_R1 : List Itm := [.one ⟨some 4, .fieldAddr 49 (.tmp 2) 3, none⟩,
  .one ⟨some 5, .load 3 (.tmp 4), none⟩,
  .one ⟨some 6, .binOp .eql 3 (.tmp 5) (.const (.int .i64 12)) 3, none⟩,
  .one ⟨some 7, .move (.tmp 6), none⟩,
  .blk 3 true [.one ⟨some 8, .fieldAddr 49 (.tmp 2) 5, some (3, true)⟩,
  .one ⟨some 9, .load 9 (.tmp 8), some (3, true)⟩,
  .one ⟨some 10, .load 9 (.tmp 1), some (3, true)⟩,
  .one ⟨some 11, .binOp .eql 9 (.tmp 9) (.tmp 10) 9, some (3, true)⟩] ⟨some 12, .pick (.tmp 7) (.tmp 11) (.const (.bool false)), none⟩,
  .one ⟨some 3, .assign (.tmp 12), none⟩]
def label_Reports_1_L : MCode := (.seq (.reg 0 label_Reports_1_R0 false) (.seq (.reg 1 label_Reports_1_R1 false) .ret))
def label_Reports_1_ks : Nat → List Nat := fun i => match i with
  | _ => []
theorem label_Reports_1_F : FnL Tryz.prog GW 104 13 label_Reports_1_L [.tmp 3] label_Reports_1_ks := ⟨⟨_, Tryz.func104, rfl, by kernel_rfl, by kernel_rfl, rfl⟩, by kernel_rfl, by kernel_rfl⟩
/-! agora/label.Reports -/
def label_Reports_R0 : List Itm := [.one ⟨some 3, .box 9 (.tmp 1), none⟩,
  .one ⟨some 4, .assign (.const (.int .i64 0)), none⟩]
def label_Reports_R1 : List Itm := [.one ⟨some 8, .makeMap 115 none, none⟩,
  .one ⟨some 5, .assign (.tmp 8), none⟩]
def label_Reports_R2 : List Itm := [.one ⟨some 9, .move (.tmp 0), none⟩,
  .one ⟨some 10, .call ⟨.builtin .len, #[.tmp 9], #[22]⟩, none⟩,
  .one ⟨some 11, .move (.const (.int .i64 0)), none⟩]
def label_Reports_R3 : List Itm := [.one ⟨some 12, .binOp .lss 3 (.tmp 11) (.tmp 10) 3, none⟩]
def label_Reports_R4 : List Itm := [.one ⟨some 13, .indexAddr 22 (.tmp 9) (.tmp 11), none⟩,
  .one ⟨some 14, .load 40 (.tmp 13), none⟩,
  .one ⟨some 7, .alloc 40, none⟩,
  .one ⟨none, .store 40 (.tmp 7) (.tmp 14), none⟩]
def label_Reports_R5 : List Itm := [.one ⟨some 15, .load 9 (.tmp 3), none⟩,
  .one ⟨some 16, .binOp .neq 9 (.tmp 15) (.const (.string ⟨#[]⟩)) 9, none⟩,
  .one ⟨some 17, .move (.tmp 16), none⟩,
  .blk 2 true [.one ⟨some 18, .fieldAddr 40 (.tmp 7) 1, some (2, true)⟩,
  .one ⟨some 19, .load 37 (.tmp 18), some (2, true)⟩,
  .one ⟨some 20, .makeFunc (.func 104) #[] #[.tmp 3], some (2, true)⟩,
  .one ⟨some 21, .call ⟨.value (.func 103), #[.tmp 19, .tmp 20], #[37, 151]⟩, some (2, true)⟩] ⟨some 22, .pick (.tmp 17) (.tmp 21) (.const (.bool false)), none⟩]
def label_Reports_R6 : List Itm := [.one ⟨some 23, .move (.tmp 5), none⟩,
  .one ⟨some 24, .fieldAddr 40 (.tmp 7) 0, none⟩,
  .one ⟨some 25, .load 9 (.tmp 24), none⟩,
  .one ⟨none, .mapUpdate 115 (.tmp 23) (.tmp 25) (.const (.bool true)), none⟩]
def label_Reports_B1 : MCode := (.seq (.reg 4 label_Reports_R4 false) (.seq (.reg 5 label_Reports_R5 false) (.cond (.tmp 22) (.reg 6 label_Reports_R6 false) .skip)))
def label_Reports_R7 : List Itm := [.one ⟨some 26, .binOp .add 3 (.tmp 11) (.const (.int .i64 1)) 3, none⟩,
  .one ⟨some 11, .move (.tmp 26), none⟩]
def label_Reports_W1 : MCode := (.seq (.reg 3 label_Reports_R3 false) (.seq (.cond (.tmp 12) .skip (.exit 0)) (.seq (.block 1 label_Reports_B1) (.reg 7 label_Reports_R7 false))))
def label_Reports_B0 : MCode := (.loop label_Reports_W1)
def label_Reports_R8 : List Itm := [.one ⟨some 27, .move (.tmp 5), none⟩,
  .one ⟨some 28, .call ⟨.builtin .len, #[.tmp 27], #[115]⟩, none⟩,
  .one ⟨some 4, .assign (.tmp 28), none⟩]
def label_Reports_L : MCode := (.seq (.reg 0 label_Reports_R0 false) (.seq (.reg 1 label_Reports_R1 false) (.seq (.seq (.reg 2 label_Reports_R2 false) (.block 0 label_Reports_B0)) (.seq (.reg 8 label_Reports_R8 false) .ret))))
def label_Reports_ks : Nat → List Nat := fun i => match i with
  | _ => []
theorem label_Reports_F : FnL Tryz.prog GW 64 29 label_Reports_L [.tmp 4] label_Reports_ks := ⟨⟨_, Tryz.func64, rfl, by kernel_rfl, by kernel_rfl, rfl⟩, by kernel_rfl, by kernel_rfl⟩
/-! agora/agoralaw34.small -/
def agoralaw34_small_R0 : List Itm := [.one ⟨some 0, .assign (.const (.bool false)), none⟩]
def agoralaw34_small_R1 : List Itm := [.one ⟨some 1, .assign (.const (.string ⟨#[48, 48, 48, 48, 48, 48, 48, 48, 48, 48, 48, 48, 48, 48, 97, 49]⟩)), none⟩]
def agoralaw34_small_R2 : List Itm := [.one ⟨some 2, .assign (.const (.string ⟨#[48, 48, 48, 48, 48, 48, 48, 48, 48, 48, 48, 48, 48, 48, 98, 50]⟩)), none⟩]
def agoralaw34_small_R3 : List Itm := [.one ⟨some 5, .move (.tmp 1), none⟩,
  .one ⟨some 6, .move (.tmp 2), none⟩,
  .one ⟨some 7, .build 49 #[(3, .const (.int .i64 17)), (6, .tmp 6), (10, .const (.string ⟨#[115, 112, 97, 109]⟩))], none⟩,
  .one ⟨some 8, .move (.tmp 2), none⟩,
  .one ⟨some 9, .build 49 #[(3, .const (.int .i64 17)), (6, .tmp 8), (10, .const (.string ⟨#[98, 111, 116]⟩))], none⟩,
  .one ⟨some 10, .build 49 #[(3, .const (.int .i64 12)), (5, .const (.string ⟨#[120]⟩))], none⟩,
  .one ⟨some 11, .buildSlice 37 3 #[(0, .tmp 7), (1, .tmp 9), (2, .tmp 10)], none⟩,
  .one ⟨some 12, .build 40 #[(0, .tmp 5), (1, .tmp 11)], none⟩,
  .one ⟨some 3, .alloc 40, none⟩,
  .one ⟨none, .store 40 (.tmp 3) (.tmp 12), none⟩]
def agoralaw34_small_R4 : List Itm := [.one ⟨some 13, .load 40 (.tmp 3), none⟩,
  .one ⟨some 14, .buildSlice 22 1 #[(0, .tmp 13)], none⟩,
  .one ⟨some 15, .move (.tmp 1), none⟩,
  .one ⟨some 16, .move (.tmp 1), none⟩,
  .one ⟨some 17, .buildSlice 23 2 #[(0, .tmp 15), (1, .tmp 16)], none⟩,
  .one ⟨some 18, .move (.tmp 2), none⟩,
  .one ⟨some 19, .call ⟨.value (.func 24), #[.tmp 14, .tmp 17, .tmp 18], #[22, 23, 9]⟩, none⟩,
  .one ⟨some 4, .assign (.tmp 19), none⟩]
def agoralaw34_small_R5 : List Itm := [.one ⟨some 20, .move (.tmp 1), none⟩,
  .one ⟨some 21, .move (.tmp 2), none⟩,
  .one ⟨some 22, .call ⟨.value (.func 26), #[.const (.slice none 0 0), .tmp 20, .tmp 21], #[22, 9, 9]⟩, none⟩,
  .one ⟨some 23, .call ⟨.builtin .len, #[.tmp 22], #[23]⟩, none⟩,
  .one ⟨some 24, .binOp .eql 3 (.tmp 23) (.const (.int .i64 0)) 3, none⟩,
  .one ⟨some 25, .move (.tmp 24), none⟩,
  .blk 5 true [.one ⟨some 26, .move (.tmp 1), some (5, true)⟩,
  .one ⟨some 27, .buildSlice 23 1 #[(0, .tmp 26)], some (5, true)⟩,
  .one ⟨some 28, .move (.tmp 2), some (5, true)⟩,
  .one ⟨some 29, .call ⟨.value (.func 24), #[.const (.slice none 0 0), .tmp 27, .tmp 28], #[22, 23, 9]⟩, some (5, true)⟩,
  .one ⟨some 30, .call ⟨.builtin .len, #[.tmp 29], #[50]⟩, some (5, true)⟩,
  .one ⟨some 31, .binOp .eql 3 (.tmp 30) (.const (.int .i64 0)) 3, some (5, true)⟩] ⟨some 32, .pick (.tmp 25) (.tmp 31) (.const (.bool false)), none⟩,
  .one ⟨some 33, .move (.tmp 32), none⟩,
  .blk 13 true [.one ⟨some 34, .call ⟨.value (.func 64), #[.const (.slice none 0 0), .const (.string ⟨#[120]⟩)], #[22, 9]⟩, some (13, true)⟩,
  .one ⟨some 35, .binOp .eql 3 (.tmp 34) (.const (.int .i64 0)) 3, some (13, true)⟩] ⟨some 36, .pick (.tmp 33) (.tmp 35) (.const (.bool false)), none⟩,
  .one ⟨some 37, .move (.tmp 36), none⟩,
  .blk 17 true [.one ⟨some 38, .load 40 (.tmp 3), some (17, true)⟩,
  .one ⟨some 39, .buildSlice 22 1 #[(0, .tmp 38)], some (17, true)⟩,
  .one ⟨some 40, .move (.tmp 1), some (17, true)⟩,
  .one ⟨some 41, .move (.tmp 2), some (17, true)⟩,
  .one ⟨some 42, .call ⟨.value (.func 26), #[.tmp 39, .tmp 40, .tmp 41], #[22, 9, 9]⟩, some (17, true)⟩,
  .one ⟨some 43, .buildSlice 23 2 #[(0, .const (.string ⟨#[98, 111, 116]⟩)), (1, .const (.string ⟨#[115, 112, 97, 109]⟩))], some (17, true)⟩,
  .one ⟨some 44, .call ⟨.value (.func 34), #[.tmp 42, .tmp 43], #[23, 23]⟩, some (17, true)⟩] ⟨some 45, .pick (.tmp 37) (.tmp 44) (.const (.bool false)), none⟩,
  .one ⟨some 46, .move (.tmp 45), none⟩,
  .blk 26 true [.one ⟨some 47, .move (.tmp 4), some (26, true)⟩,
  .one ⟨some 48, .build 55 #[(0, .const (.string ⟨#[98, 111, 116]⟩)), (1, .const (.int .i64 1))], some (26, true)⟩,
  .one ⟨some 49, .build 55 #[(0, .const (.string ⟨#[115, 112, 97, 109]⟩)), (1, .const (.int .i64 1))], some (26, true)⟩,
  .one ⟨some 50, .buildSlice 50 2 #[(0, .tmp 48), (1, .tmp 49)], some (26, true)⟩,
  .one ⟨some 51, .call ⟨.value (.func 25), #[.tmp 47, .tmp 50], #[50, 50]⟩, some (26, true)⟩] ⟨some 52, .pick (.tmp 46) (.tmp 51) (.const (.bool false)), none⟩,
  .one ⟨some 53, .move (.tmp 52), none⟩,
  .blk 33 true [.one ⟨some 54, .load 40 (.tmp 3), some (33, true)⟩,
  .one ⟨some 55, .load 40 (.tmp 3), some (33, true)⟩,
  .one ⟨some 56, .buildSlice 22 2 #[(0, .tmp 54), (1, .tmp 55)], some (33, true)⟩,
  .one ⟨some 57, .call ⟨.value (.func 64), #[.tmp 56, .const (.string ⟨#[120]⟩)], #[22, 9]⟩, some (33, true)⟩,
  .one ⟨some 58, .binOp .eql 3 (.tmp 57) (.const (.int .i64 1)) 3, some (33, true)⟩] ⟨some 59, .pick (.tmp 53) (.tmp 58) (.const (.bool false)), none⟩,
  .one ⟨some 60, .move (.tmp 59), none⟩,
  .blk 40 true [.one ⟨some 61, .load 40 (.tmp 3), some (40, true)⟩,
  .one ⟨some 62, .buildSlice 22 1 #[(0, .tmp 61)], some (40, true)⟩,
  .one ⟨some 63, .call ⟨.value (.func 64), #[.tmp 62, .const (.string ⟨#[]⟩)], #[22, 9]⟩, some (40, true)⟩,
  .one ⟨some 64, .binOp .eql 3 (.tmp 63) (.const (.int .i64 0)) 3, some (40, true)⟩] ⟨some 65, .pick (.tmp 60) (.tmp 64) (.const (.bool false)), none⟩,
  .one ⟨some 0, .assign (.tmp 65), none⟩]
def agoralaw34_small_L : MCode := (.seq (.reg 0 agoralaw34_small_R0 false) (.seq (.reg 1 agoralaw34_small_R1 false) (.seq (.reg 2 agoralaw34_small_R2 false) (.seq (.reg 3 agoralaw34_small_R3 false) (.seq (.reg 4 agoralaw34_small_R4 false) (.seq (.reg 5 agoralaw34_small_R5 false) .ret))))))
def agoralaw34_small_ks : Nat → List Nat := fun i => match i with
  | _ => []
theorem agoralaw34_small_F : FnL Tryz.prog GW 22 66 agoralaw34_small_L [.tmp 0] agoralaw34_small_ks := ⟨⟨_, Tryz.func22, rfl, by kernel_rfl, by kernel_rfl, rfl⟩, by kernel_rfl, by kernel_rfl⟩
/-! agora/agoralaw34.few -/
def agoralaw34_few_R0 : List Itm := [.one ⟨some 2, .assign (.const (.bool false)), none⟩]
def agoralaw34_few_R1 : List Itm := [.one ⟨some 6, .move (.tmp 0), none⟩,
  .one ⟨some 7, .call ⟨.builtin .len, #[.tmp 6], #[22]⟩, none⟩,
  .one ⟨some 8, .binOp .gtr 3 (.tmp 7) (.const (.int .i64 6)) 3, none⟩]
def agoralaw34_few_R2 : List Itm := [.one ⟨some 2, .assign (.const (.bool false)), none⟩]
def agoralaw34_few_R3 : List Itm := [.one ⟨some 3, .assign (.const (.int .i64 0)), none⟩]
def agoralaw34_few_R4 : List Itm := [.one ⟨some 9, .move (.tmp 3), none⟩,
  .one ⟨some 10, .move (.tmp 0), none⟩,
  .one ⟨some 11, .call ⟨.builtin .len, #[.tmp 10], #[22]⟩, none⟩,
  .one ⟨some 12, .binOp .lss 3 (.tmp 9) (.tmp 11) 3, none⟩]
def agoralaw34_few_R6 : List Itm := [.one ⟨some 15, .move (.tmp 0), none⟩,
  .one ⟨some 16, .move (.tmp 3), none⟩,
  .one ⟨some 17, .indexAddr 22 (.tmp 15) (.tmp 16), none⟩,
  .one ⟨some 18, .fieldAddr 40 (.tmp 17) 1, none⟩,
  .one ⟨some 19, .load 37 (.tmp 18), none⟩,
  .one ⟨some 20, .call ⟨.builtin .len, #[.tmp 19], #[37]⟩, none⟩,
  .one ⟨some 21, .binOp .gtr 3 (.tmp 20) (.const (.int .i64 24)) 3, none⟩]
def agoralaw34_few_R7 : List Itm := [.one ⟨some 2, .assign (.const (.bool false)), none⟩]
def agoralaw34_few_R8 : List Itm := [.one ⟨some 4, .assign (.const (.int .i64 0)), none⟩]
def agoralaw34_few_R9 : List Itm := [.one ⟨some 22, .move (.tmp 4), none⟩,
  .one ⟨some 23, .move (.tmp 0), none⟩,
  .one ⟨some 24, .move (.tmp 3), none⟩,
  .one ⟨some 25, .indexAddr 22 (.tmp 23) (.tmp 24), none⟩,
  .one ⟨some 26, .fieldAddr 40 (.tmp 25) 1, none⟩,
  .one ⟨some 27, .load 37 (.tmp 26), none⟩,
  .one ⟨some 28, .call ⟨.builtin .len, #[.tmp 27], #[37]⟩, none⟩,
  .one ⟨some 29, .binOp .lss 3 (.tmp 22) (.tmp 28) 3, none⟩]
def agoralaw34_few_R11 : List Itm := [.one ⟨some 32, .move (.tmp 0), none⟩,
  .one ⟨some 33, .move (.tmp 3), none⟩,
  .one ⟨some 34, .indexAddr 22 (.tmp 32) (.tmp 33), none⟩,
  .one ⟨some 35, .fieldAddr 40 (.tmp 34) 1, none⟩,
  .one ⟨some 36, .load 37 (.tmp 35), none⟩,
  .one ⟨some 37, .move (.tmp 4), none⟩,
  .one ⟨some 38, .indexAddr 37 (.tmp 36) (.tmp 37), none⟩,
  .one ⟨some 39, .load 49 (.tmp 38), none⟩,
  .one ⟨some 5, .alloc 49, none⟩,
  .one ⟨none, .store 49 (.tmp 5) (.tmp 39), none⟩]
def agoralaw34_few_R12 : List Itm := [.one ⟨some 40, .fieldAddr 49 (.tmp 5) 9, none⟩,
  .one ⟨some 41, .load 23 (.tmp 40), none⟩,
  .one ⟨some 42, .call ⟨.builtin .len, #[.tmp 41], #[23]⟩, none⟩,
  .one ⟨some 43, .binOp .gtr 3 (.tmp 42) (.const (.int .i64 8)) 3, none⟩,
  .one ⟨some 44, .move (.tmp 43), none⟩,
  .blk 4 false [.one ⟨some 45, .fieldAddr 49 (.tmp 5) 13, some (4, false)⟩,
  .one ⟨some 46, .load 45 (.tmp 45), some (4, false)⟩,
  .one ⟨some 47, .call ⟨.builtin .len, #[.tmp 46], #[45]⟩, some (4, false)⟩,
  .one ⟨some 48, .binOp .gtr 3 (.tmp 47) (.const (.int .i64 8)) 3, some (4, false)⟩] ⟨some 49, .pick (.tmp 44) (.const (.bool true)) (.tmp 48), none⟩,
  .one ⟨some 50, .move (.tmp 49), none⟩,
  .blk 10 false [.one ⟨some 51, .fieldAddr 49 (.tmp 5) 10, some (10, false)⟩,
  .one ⟨some 52, .load 9 (.tmp 51), some (10, false)⟩,
  .one ⟨some 53, .call ⟨.builtin .len, #[.tmp 52], #[9]⟩, some (10, false)⟩,
  .one ⟨some 54, .binOp .gtr 3 (.tmp 53) (.const (.int .i64 600)) 3, some (10, false)⟩] ⟨some 55, .pick (.tmp 50) (.const (.bool true)) (.tmp 54), none⟩,
  .one ⟨some 56, .move (.tmp 55), none⟩,
  .blk 16 false [.one ⟨some 57, .fieldAddr 49 (.tmp 5) 11, some (16, false)⟩,
  .one ⟨some 58, .fieldAddr 44 (.tmp 57) 1, some (16, false)⟩,
  .one ⟨some 59, .load 9 (.tmp 58), some (16, false)⟩,
  .one ⟨some 60, .call ⟨.builtin .len, #[.tmp 59], #[9]⟩, some (16, false)⟩,
  .one ⟨some 61, .binOp .gtr 3 (.tmp 60) (.const (.int .i64 600)) 3, some (16, false)⟩] ⟨some 62, .pick (.tmp 56) (.const (.bool true)) (.tmp 61), none⟩]
def agoralaw34_few_R13 : List Itm := [.one ⟨some 2, .assign (.const (.bool false)), none⟩]
def agoralaw34_few_B3 : MCode := (.seq (.reg 11 agoralaw34_few_R11 false) (.seq (.reg 12 agoralaw34_few_R12 false) (.cond (.tmp 62) (.seq (.reg 13 agoralaw34_few_R13 false) .ret) .skip)))
def agoralaw34_few_R10 : List Itm := [.one ⟨some 30, .move (.tmp 4), none⟩,
  .one ⟨some 31, .binOp .add 3 (.tmp 30) (.const (.int .i64 1)) 3, none⟩,
  .one ⟨some 4, .assign (.tmp 31), none⟩]
def agoralaw34_few_W1 : MCode := (.seq (.seq (.reg 9 agoralaw34_few_R9 false) (.cond (.tmp 29) .skip (.exit 2))) (.seq (.block 3 agoralaw34_few_B3) (.reg 10 agoralaw34_few_R10 false)))
def agoralaw34_few_B2 : MCode := (.loop agoralaw34_few_W1)
def agoralaw34_few_B1 : MCode := (.seq (.seq (.reg 6 agoralaw34_few_R6 false) (.cond (.tmp 21) (.seq (.reg 7 agoralaw34_few_R7 false) .ret) .skip)) (.seq (.reg 8 agoralaw34_few_R8 false) (.block 2 agoralaw34_few_B2)))
def agoralaw34_few_R5 : List Itm := [.one ⟨some 13, .move (.tmp 3), none⟩,
  .one ⟨some 14, .binOp .add 3 (.tmp 13) (.const (.int .i64 1)) 3, none⟩,
  .one ⟨some 3, .assign (.tmp 14), none⟩]
def agoralaw34_few_W2 : MCode := (.seq (.seq (.reg 4 agoralaw34_few_R4 false) (.cond (.tmp 12) .skip (.exit 0))) (.seq (.block 1 agoralaw34_few_B1) (.reg 5 agoralaw34_few_R5 false)))
def agoralaw34_few_B0 : MCode := (.loop agoralaw34_few_W2)
def agoralaw34_few_R14 : List Itm := [.one ⟨some 2, .assign (.const (.bool true)), none⟩]
def agoralaw34_few_L : MCode := (.seq (.reg 0 agoralaw34_few_R0 false) (.seq (.seq (.reg 1 agoralaw34_few_R1 false) (.cond (.tmp 8) (.seq (.reg 2 agoralaw34_few_R2 false) .ret) .skip)) (.seq (.seq (.reg 3 agoralaw34_few_R3 false) (.block 0 agoralaw34_few_B0)) (.seq (.reg 14 agoralaw34_few_R14 false) .ret))))
def agoralaw34_few_ks : Nat → List Nat := fun i => match i with
  | _ => []
theorem agoralaw34_few_F : FnL Tryz.prog GW 23 63 agoralaw34_few_L [.tmp 2] agoralaw34_few_ks := ⟨⟨_, Tryz.func23, rfl, by kernel_rfl, by kernel_rfl, rfl⟩, by kernel_rfl, by kernel_rfl⟩
/-! maps.Values[map[int]string,int,string] -/
def maps_Values_map_int_string_int_string_R0 : List Itm := [.one ⟨some 1, .box 118 (.tmp 0), none⟩,
  .one ⟨some 2, .assign (.const .nilFunc), none⟩]
def maps_Values_map_int_string_int_string_R1 : List Itm := [.one ⟨some 3, .makeFunc (.func 106) #[] #[.tmp 1], none⟩,
  .one ⟨some 2, .assign (.tmp 3), none⟩]
def maps_Values_map_int_string_int_string_L : MCode := (.seq (.reg 0 maps_Values_map_int_string_int_string_R0 false) (.seq (.reg 1 maps_Values_map_int_string_int_string_R1 false) .ret))
def maps_Values_map_int_string_int_string_ks : Nat → List Nat := fun i => match i with
  | _ => []
theorem maps_Values_map_int_string_int_string_F : FnL Tryz.prog GW 67 4 maps_Values_map_int_string_int_string_L [.tmp 2] maps_Values_map_int_string_int_string_ks := ⟨⟨_, Tryz.func67, rfl, by kernel_rfl, by kernel_rfl, rfl⟩, by kernel_rfl, by kernel_rfl⟩
end Go.Proofs.YthkmfboffnhkaaaGreatDoor
