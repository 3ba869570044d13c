/-
  The light code of functions: printed by wip/tools/gen.py.
-/
import Derived.Test.YthkmfboffnhkaaaGreatDoorTY4
namespace Go.Proofs.YthkmfboffnhkaaaGreatDoor
open Go Go.L1
set_option linter.all false
set_option maxRecDepth 100000
/-! agora/agoralaw25.ReachReaders -/
def agoralaw25_ReachReaders_R0 : List Itm := [.one ⟨some 3, .box 40 (.tmp 0), none⟩,
  .one ⟨some 6, .assign (.const (.bool false)), none⟩]
def agoralaw25_ReachReaders_R1 : List Itm := [.one ⟨some 16, .call ⟨.value (.func 35), #[], #[]⟩, none⟩,
  .one ⟨some 7, .assign (.tmp 16), none⟩]
def agoralaw25_ReachReaders_R2 : List Itm := [.one ⟨some 17, .load 40 (.tmp 3), none⟩,
  .one ⟨some 18, .call ⟨.value (.func 36), #[.tmp 17], #[40]⟩, none⟩,
  .one ⟨some 19, .unOp .not 4 (.tmp 18), none⟩]
def agoralaw25_ReachReaders_R3 : List Itm := [.one ⟨some 20, .move (.tmp 7), none⟩,
  .one ⟨some 6, .assign (.tmp 20), none⟩]
def agoralaw25_ReachReaders_R4 : List Itm := [.one ⟨some 22, .load 40 (.tmp 3), none⟩,
  .one ⟨some 23, .move (.tmp 1), none⟩,
  .one ⟨some 24, .call ⟨.value (.func 37), #[.tmp 22, .tmp 23], #[40, 3]⟩, none⟩,
  .one ⟨some 21, .move (.tmp 24), none⟩,
  .one ⟨some 25, .extract (.tmp 21) 0, none⟩,
  .one ⟨some 26, .extract (.tmp 21) 1, none⟩,
  .one ⟨some 8, .assign (.tmp 25), none⟩,
  .one ⟨some 9, .assign (.tmp 26), none⟩]
def agoralaw25_ReachReaders_R5 : List Itm := [.one ⟨some 27, .load 40 (.tmp 3), none⟩,
  .one ⟨some 28, .move (.tmp 1), none⟩,
  .one ⟨some 29, .move (.tmp 2), none⟩,
  .one ⟨some 30, .call ⟨.value (.func 38), #[.tmp 27, .tmp 28, .tmp 29], #[40, 3, 9]⟩, none⟩,
  .one ⟨some 31, .move (.tmp 9), none⟩,
  .one ⟨some 32, .unOp .not 4 (.tmp 31), none⟩,
  .one ⟨some 33, .move (.tmp 32), none⟩,
  .blk 6 false [.one ⟨some 34, .move (.tmp 8), some (6, false)⟩,
  .one ⟨some 35, .move (.tmp 2), some (6, false)⟩,
  .one ⟨some 36, .call ⟨.value (.func 20), #[.tmp 34, .tmp 35], #[23, 9]⟩, some (6, false)⟩] ⟨some 37, .pick (.tmp 33) (.const (.bool true)) (.tmp 36), none⟩,
  .one ⟨some 38, .binOp .neq 4 (.tmp 30) (.tmp 37) 4, none⟩]
def agoralaw25_ReachReaders_R6 : List Itm := [.one ⟨some 6, .assign (.const (.bool false)), none⟩]
def agoralaw25_ReachReaders_R7 : List Itm := [.one ⟨some 39, .move (.tmp 1), none⟩,
  .one ⟨some 40, .binOp .lss 3 (.tmp 39) (.const (.int .i64 0)) 3, none⟩,
  .one ⟨some 41, .move (.tmp 40), none⟩,
  .blk 2 false [.one ⟨some 42, .move (.tmp 1), some (2, false)⟩,
  .one ⟨some 43, .fieldAddr 40 (.tmp 3) 1, some (2, false)⟩,
  .one ⟨some 44, .load 37 (.tmp 43), some (2, false)⟩,
  .one ⟨some 45, .call ⟨.builtin .len, #[.tmp 44], #[37]⟩, some (2, false)⟩,
  .one ⟨some 46, .binOp .geq 3 (.tmp 42) (.tmp 45) 3, some (2, false)⟩] ⟨some 47, .pick (.tmp 41) (.const (.bool true)) (.tmp 46), none⟩]
def agoralaw25_ReachReaders_R8 : List Itm := [.one ⟨some 48, .move (.tmp 7), none⟩,
  .one ⟨some 49, .move (.tmp 48), none⟩,
  .blk 1 true [.one ⟨some 50, .move (.tmp 9), some (1, true)⟩] ⟨some 51, .pick (.tmp 49) (.tmp 50) (.const (.bool false)), none⟩,
  .one ⟨some 52, .move (.tmp 51), none⟩,
  .blk 4 true [.one ⟨some 53, .move (.tmp 8), some (4, true)⟩,
  .one ⟨some 54, .call ⟨.builtin .len, #[.tmp 53], #[23]⟩, some (4, true)⟩,
  .one ⟨some 55, .binOp .eql 3 (.tmp 54) (.const (.int .i64 0)) 3, some (4, true)⟩] ⟨some 56, .pick (.tmp 52) (.tmp 55) (.const (.bool false)), none⟩,
  .one ⟨some 6, .assign (.tmp 56), none⟩]
def agoralaw25_ReachReaders_R9 : List Itm := [.one ⟨some 57, .fieldAddr 40 (.tmp 3) 1, none⟩,
  .one ⟨some 58, .load 37 (.tmp 57), none⟩,
  .one ⟨some 59, .move (.tmp 1), none⟩,
  .one ⟨some 60, .indexAddr 37 (.tmp 58) (.tmp 59), none⟩,
  .one ⟨some 61, .load 49 (.tmp 60), none⟩,
  .one ⟨some 10, .alloc 49, none⟩,
  .one ⟨none, .store 49 (.tmp 10) (.tmp 61), none⟩]
def agoralaw25_ReachReaders_R10 : List Itm := [.one ⟨some 62, .fieldAddr 49 (.tmp 10) 3, none⟩,
  .one ⟨some 63, .load 3 (.tmp 62), none⟩,
  .one ⟨some 64, .call ⟨.value (.func 32), #[.tmp 63], #[3]⟩, none⟩,
  .one ⟨some 65, .move (.tmp 64), none⟩,
  .blk 3 false [.one ⟨some 66, .fieldAddr 49 (.tmp 10) 3, some (3, false)⟩,
  .one ⟨some 67, .load 3 (.tmp 66), some (3, false)⟩,
  .one ⟨some 68, .binOp .eql 3 (.tmp 67) (.const (.int .i64 14)) 3, some (3, false)⟩] ⟨some 69, .pick (.tmp 65) (.const (.bool true)) (.tmp 68), none⟩,
  .one ⟨some 11, .assign (.tmp 69), none⟩]
def agoralaw25_ReachReaders_R11 : List Itm := [.one ⟨some 70, .move (.tmp 11), none⟩,
  .one ⟨some 71, .unOp .not 4 (.tmp 70), none⟩,
  .one ⟨some 72, .move (.tmp 71), none⟩,
  .blk 2 false [.one ⟨some 73, .fieldAddr 49 (.tmp 10) 7, some (2, false)⟩,
  .one ⟨some 74, .load 3 (.tmp 73), some (2, false)⟩,
  .one ⟨some 75, .binOp .eql 3 (.tmp 74) (.const (.int .i64 0)) 3, some (2, false)⟩] ⟨some 76, .pick (.tmp 72) (.const (.bool true)) (.tmp 75), none⟩]
def agoralaw25_ReachReaders_R12 : List Itm := [.one ⟨some 77, .move (.tmp 7), none⟩,
  .one ⟨some 78, .move (.tmp 77), none⟩,
  .blk 1 true [.one ⟨some 79, .move (.tmp 8), some (1, true)⟩,
  .one ⟨some 80, .call ⟨.builtin .len, #[.tmp 79], #[23]⟩, some (1, true)⟩,
  .one ⟨some 81, .binOp .eql 3 (.tmp 80) (.const (.int .i64 0)) 3, some (1, true)⟩] ⟨some 82, .pick (.tmp 78) (.tmp 81) (.const (.bool false)), none⟩,
  .one ⟨some 83, .move (.tmp 82), none⟩,
  .blk 6 true [.one ⟨some 84, .move (.tmp 9), some (6, true)⟩,
  .one ⟨some 85, .move (.tmp 11), some (6, true)⟩,
  .one ⟨some 86, .binOp .neq 4 (.tmp 84) (.tmp 85) 4, some (6, true)⟩] ⟨some 87, .pick (.tmp 83) (.tmp 86) (.const (.bool false)), none⟩,
  .one ⟨some 6, .assign (.tmp 87), none⟩]
def agoralaw25_ReachReaders_R13 : List Itm := [.one ⟨some 88, .load 40 (.tmp 3), none⟩,
  .one ⟨some 89, .move (.tmp 1), none⟩,
  .one ⟨some 90, .call ⟨.value (.func 39), #[.tmp 88, .tmp 89], #[40, 3]⟩, none⟩,
  .one ⟨some 12, .alloc 72, none⟩,
  .one ⟨none, .store 72 (.tmp 12) (.tmp 90), none⟩]
def agoralaw25_ReachReaders_R14 : List Itm := [.one ⟨some 91, .load 40 (.tmp 3), none⟩,
  .one ⟨some 92, .move (.tmp 1), none⟩,
  .one ⟨some 93, .fieldAddr 49 (.tmp 10) 7, none⟩,
  .one ⟨some 94, .load 3 (.tmp 93), none⟩,
  .one ⟨some 95, .fieldAddr 49 (.tmp 10) 8, none⟩,
  .one ⟨some 96, .load 9 (.tmp 95), none⟩,
  .one ⟨some 97, .fieldAddr 49 (.tmp 10) 9, none⟩,
  .one ⟨some 98, .load 23 (.tmp 97), none⟩,
  .one ⟨some 99, .call ⟨.value (.func 40), #[.tmp 91, .tmp 92, .tmp 94, .tmp 96, .tmp 98], #[40, 3, 3, 9, 23]⟩, none⟩,
  .one ⟨some 13, .assign (.tmp 99), none⟩]
def agoralaw25_ReachReaders_R15 : List Itm := [.one ⟨some 14, .assign (.const (.int .i64 0)), none⟩]
def agoralaw25_ReachReaders_R16 : List Itm := [.one ⟨some 100, .move (.tmp 14), none⟩,
  .one ⟨some 101, .move (.tmp 8), none⟩,
  .one ⟨some 102, .call ⟨.builtin .len, #[.tmp 101], #[23]⟩, none⟩,
  .one ⟨some 103, .binOp .lss 3 (.tmp 100) (.tmp 102) 3, none⟩]
def agoralaw25_ReachReaders_R18 : List Itm := [.one ⟨some 106, .move (.tmp 14), none⟩,
  .one ⟨some 107, .binOp .gtr 3 (.tmp 106) (.const (.int .i64 0)) 3, none⟩,
  .one ⟨some 108, .move (.tmp 107), none⟩,
  .blk 2 true [.one ⟨some 109, .move (.tmp 8), some (2, true)⟩,
  .one ⟨some 110, .move (.tmp 14), some (2, true)⟩,
  .one ⟨some 111, .binOp .sub 3 (.tmp 110) (.const (.int .i64 1)) 3, some (2, true)⟩,
  .one ⟨some 112, .indexAddr 23 (.tmp 109) (.tmp 111), some (2, true)⟩,
  .one ⟨some 113, .load 9 (.tmp 112), some (2, true)⟩,
  .one ⟨some 114, .move (.tmp 8), some (2, true)⟩,
  .one ⟨some 115, .move (.tmp 14), some (2, true)⟩,
  .one ⟨some 116, .indexAddr 23 (.tmp 114) (.tmp 115), some (2, true)⟩,
  .one ⟨some 117, .load 9 (.tmp 116), some (2, true)⟩,
  .one ⟨some 118, .binOp .geq 9 (.tmp 113) (.tmp 117) 9, some (2, true)⟩] ⟨some 119, .pick (.tmp 108) (.tmp 118) (.const (.bool false)), none⟩,
  .one ⟨some 120, .move (.tmp 119), none⟩,
  .blk 14 false [.one ⟨some 121, .move (.tmp 8), some (14, false)⟩,
  .one ⟨some 122, .move (.tmp 14), some (14, false)⟩,
  .one ⟨some 123, .indexAddr 23 (.tmp 121) (.tmp 122), some (14, false)⟩,
  .one ⟨some 124, .load 9 (.tmp 123), some (14, false)⟩,
  .one ⟨some 125, .fieldAddr 40 (.tmp 3) 0, some (14, false)⟩,
  .one ⟨some 126, .load 9 (.tmp 125), some (14, false)⟩,
  .one ⟨some 127, .binOp .neq 9 (.tmp 124) (.tmp 126) 9, some (14, false)⟩,
  .one ⟨some 128, .move (.tmp 127), some (14, false)⟩,
  .blk 22 true [.one ⟨some 129, .fieldAddr 72 (.tmp 12) 2, some (22, true)⟩,
  .one ⟨some 130, .load 23 (.tmp 129), some (22, true)⟩,
  .one ⟨some 131, .move (.tmp 8), some (22, true)⟩,
  .one ⟨some 132, .move (.tmp 14), some (22, true)⟩,
  .one ⟨some 133, .indexAddr 23 (.tmp 131) (.tmp 132), some (22, true)⟩,
  .one ⟨some 134, .load 9 (.tmp 133), some (22, true)⟩,
  .one ⟨some 135, .call ⟨.value (.func 20), #[.tmp 130, .tmp 134], #[23, 9]⟩, some (22, true)⟩,
  .one ⟨some 136, .move (.tmp 135), some (22, true)⟩,
  .blk 30 false [.one ⟨some 137, .move (.tmp 13), some (30, false)⟩,
  .one ⟨some 138, .move (.tmp 8), some (30, false)⟩,
  .one ⟨some 139, .move (.tmp 14), some (30, false)⟩,
  .one ⟨some 140, .indexAddr 23 (.tmp 138) (.tmp 139), some (30, false)⟩,
  .one ⟨some 141, .load 9 (.tmp 140), some (30, false)⟩,
  .one ⟨some 142, .call ⟨.value (.func 20), #[.tmp 137, .tmp 141], #[23, 9]⟩, some (30, false)⟩,
  .one ⟨some 143, .unOp .not 4 (.tmp 142), some (30, false)⟩] ⟨some 144, .pick (.tmp 136) (.const (.bool true)) (.tmp 143), some (22, true)⟩] ⟨some 145, .pick (.tmp 128) (.tmp 144) (.const (.bool false)), some (14, false)⟩] ⟨some 146, .pick (.tmp 120) (.const (.bool true)) (.tmp 145), none⟩]
def agoralaw25_ReachReaders_R19 : List Itm := [.one ⟨some 6, .assign (.const (.bool false)), none⟩]
def agoralaw25_ReachReaders_B1 : MCode := (.seq (.reg 18 agoralaw25_ReachReaders_R18 true) (.cond (.tmp 146) (.seq (.reg 19 agoralaw25_ReachReaders_R19 false) .ret) .skip))
def agoralaw25_ReachReaders_R17 : List Itm := [.one ⟨some 104, .move (.tmp 14), none⟩,
  .one ⟨some 105, .binOp .add 3 (.tmp 104) (.const (.int .i64 1)) 3, none⟩,
  .one ⟨some 14, .assign (.tmp 105), none⟩]
def agoralaw25_ReachReaders_W1 : MCode := (.seq (.seq (.reg 16 agoralaw25_ReachReaders_R16 false) (.cond (.tmp 103) .skip (.exit 0))) (.seq (.block 1 agoralaw25_ReachReaders_B1) (.reg 17 agoralaw25_ReachReaders_R17 false)))
def agoralaw25_ReachReaders_B0 : MCode := (.loop agoralaw25_ReachReaders_W1)
def agoralaw25_ReachReaders_R20 : List Itm := [.one ⟨some 15, .assign (.const (.int .i64 1)), none⟩]
def agoralaw25_ReachReaders_R21 : List Itm := [.one ⟨some 147, .load 40 (.tmp 3), none⟩,
  .one ⟨some 148, .move (.tmp 1), none⟩,
  .one ⟨some 149, .call ⟨.value (.func 29), #[.tmp 147, .tmp 148], #[40, 3]⟩, none⟩]
def agoralaw25_ReachReaders_R22 : List Itm := [.one ⟨some 150, .move (.tmp 13), none⟩,
  .one ⟨some 151, .call ⟨.builtin .len, #[.tmp 150], #[23]⟩, none⟩,
  .one ⟨some 152, .binOp .add 3 (.const (.int .i64 1)) (.tmp 151) 3, none⟩,
  .one ⟨some 15, .assign (.tmp 152), none⟩]
def agoralaw25_ReachReaders_R23 : List Itm := [.one ⟨some 153, .move (.tmp 7), none⟩,
  .one ⟨some 154, .move (.tmp 153), none⟩,
  .blk 1 true [.one ⟨some 155, .move (.tmp 9), some (1, true)⟩] ⟨some 156, .pick (.tmp 154) (.tmp 155) (.const (.bool false)), none⟩,
  .one ⟨some 157, .move (.tmp 156), none⟩,
  .blk 4 true [.one ⟨some 158, .move (.tmp 8), some (4, true)⟩,
  .one ⟨some 159, .fieldAddr 40 (.tmp 3) 0, some (4, true)⟩,
  .one ⟨some 160, .load 9 (.tmp 159), some (4, true)⟩,
  .one ⟨some 161, .call ⟨.value (.func 20), #[.tmp 158, .tmp 160], #[23, 9]⟩, some (4, true)⟩] ⟨some 162, .pick (.tmp 157) (.tmp 161) (.const (.bool false)), none⟩,
  .one ⟨some 163, .move (.tmp 162), none⟩,
  .blk 10 true [.one ⟨some 164, .move (.tmp 8), some (10, true)⟩,
  .one ⟨some 165, .call ⟨.builtin .len, #[.tmp 164], #[23]⟩, some (10, true)⟩,
  .one ⟨some 166, .move (.tmp 15), some (10, true)⟩,
  .one ⟨some 167, .binOp .eql 3 (.tmp 165) (.tmp 166) 3, some (10, true)⟩] ⟨some 168, .pick (.tmp 163) (.tmp 167) (.const (.bool false)), none⟩,
  .one ⟨some 6, .assign (.tmp 168), none⟩]
def agoralaw25_ReachReaders_L : MCode := (.seq (.reg 0 agoralaw25_ReachReaders_R0 false) (.seq (.reg 1 agoralaw25_ReachReaders_R1 false) (.seq (.seq (.reg 2 agoralaw25_ReachReaders_R2 false) (.cond (.tmp 19) (.seq (.reg 3 agoralaw25_ReachReaders_R3 false) .ret) .skip)) (.seq (.reg 4 agoralaw25_ReachReaders_R4 false) (.seq (.seq (.reg 5 agoralaw25_ReachReaders_R5 false) (.cond (.tmp 38) (.seq (.reg 6 agoralaw25_ReachReaders_R6 false) .ret) .skip)) (.seq (.seq (.reg 7 agoralaw25_ReachReaders_R7 false) (.cond (.tmp 47) (.seq (.reg 8 agoralaw25_ReachReaders_R8 false) .ret) .skip)) (.seq (.reg 9 agoralaw25_ReachReaders_R9 false) (.seq (.reg 10 agoralaw25_ReachReaders_R10 false) (.seq (.seq (.reg 11 agoralaw25_ReachReaders_R11 false) (.cond (.tmp 76) (.seq (.reg 12 agoralaw25_ReachReaders_R12 false) .ret) .skip)) (.seq (.reg 13 agoralaw25_ReachReaders_R13 false) (.seq (.reg 14 agoralaw25_ReachReaders_R14 false) (.seq (.seq (.reg 15 agoralaw25_ReachReaders_R15 false) (.block 0 agoralaw25_ReachReaders_B0)) (.seq (.reg 20 agoralaw25_ReachReaders_R20 false) (.seq (.seq (.reg 21 agoralaw25_ReachReaders_R21 false) (.cond (.tmp 149) (.reg 22 agoralaw25_ReachReaders_R22 false) .skip)) (.seq (.reg 23 agoralaw25_ReachReaders_R23 false) .ret)))))))))))))))
def agoralaw25_ReachReaders_ks : Nat → List Nat := fun i => match i with
  | 18 => [0, 0, 0, 0, 0, 0, 0, 0, 0, 0, 0, 0, 0, 0, 0, 0, 0, 0, 0, 0, 0, 0, 0, 0, 0, 0, 0, 0, 0, 0, 0, 0, 0, 0, 0, 0, 0, 0, 0, 0, 0]
  | _ => []
theorem agoralaw25_ReachReaders_F : FnL Tryz.prog GW 10 169 agoralaw25_ReachReaders_L [.tmp 6] agoralaw25_ReachReaders_ks := ⟨⟨_, Tryz.func10, rfl, by kernel_rfl, by kernel_rfl, rfl⟩, by kernel_rfl, by kernel_rfl⟩
end Go.Proofs.YthkmfboffnhkaaaGreatDoor
