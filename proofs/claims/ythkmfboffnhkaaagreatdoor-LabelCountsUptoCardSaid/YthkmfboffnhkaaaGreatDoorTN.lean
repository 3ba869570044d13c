/-
  The light code of functions: printed by wip/tools/gen.py.
-/
import Derived.Test.YthkmfboffnhkaaaGreatDoorTY2
namespace Go.Proofs.YthkmfboffnhkaaaGreatDoor
open Go Go.L1
set_option linter.all false
set_option maxRecDepth 100000
/-! agora/agoralaw34.LabelCounts -/
def agoralaw34_LabelCounts_R0 : List Itm := [.one ⟨some 8, .assign (.const (.bool false)), none⟩]
def agoralaw34_LabelCounts_R1 : List Itm := [.one ⟨some 21, .call ⟨.value (.func 22), #[], #[]⟩, none⟩,
  .one ⟨some 9, .assign (.tmp 21), none⟩]
def agoralaw34_LabelCounts_R2 : List Itm := [.one ⟨some 22, .move (.tmp 0), none⟩,
  .one ⟨some 23, .call ⟨.value (.func 23), #[.tmp 22], #[22]⟩, none⟩,
  .one ⟨some 24, .unOp .not 4 (.tmp 23), none⟩,
  .one ⟨some 25, .move (.tmp 24), none⟩,
  .blk 3 false [.one ⟨some 26, .move (.tmp 1), some (3, false)⟩,
  .one ⟨some 27, .call ⟨.builtin .len, #[.tmp 26], #[23]⟩, some (3, false)⟩,
  .one ⟨some 28, .binOp .gtr 3 (.tmp 27) (.const (.int .i64 8)) 3, some (3, false)⟩] ⟨some 29, .pick (.tmp 25) (.const (.bool true)) (.tmp 28), none⟩]
def agoralaw34_LabelCounts_R3 : List Itm := [.one ⟨some 30, .move (.tmp 9), none⟩,
  .one ⟨some 8, .assign (.tmp 30), none⟩]
def agoralaw34_LabelCounts_R4 : List Itm := [.one ⟨some 31, .move (.tmp 0), none⟩,
  .one ⟨some 32, .move (.tmp 1), none⟩,
  .one ⟨some 33, .move (.tmp 2), none⟩,
  .one ⟨some 34, .call ⟨.value (.func 24), #[.tmp 31, .tmp 32, .tmp 33], #[22, 23, 9]⟩, none⟩,
  .one ⟨some 10, .assign (.tmp 34), none⟩]
def agoralaw34_LabelCounts_R5 : List Itm := [.one ⟨some 11, .assign (.const (.slice none 0 0)), none⟩]
def agoralaw34_LabelCounts_R6 : List Itm := [.one ⟨some 35, .move (.tmp 1), none⟩,
  .one ⟨some 36, .call ⟨.builtin .len, #[.tmp 35], #[23]⟩, none⟩,
  .one ⟨some 37, .binOp .sub 3 (.tmp 36) (.const (.int .i64 1)) 3, none⟩,
  .one ⟨some 12, .assign (.tmp 37), none⟩]
def agoralaw34_LabelCounts_R7 : List Itm := [.one ⟨some 38, .move (.tmp 12), none⟩,
  .one ⟨some 39, .binOp .geq 3 (.tmp 38) (.const (.int .i64 0)) 3, none⟩]
def agoralaw34_LabelCounts_R9 : List Itm := [.one ⟨some 42, .move (.tmp 11), none⟩,
  .one ⟨some 43, .move (.tmp 1), none⟩,
  .one ⟨some 44, .move (.tmp 12), none⟩,
  .one ⟨some 45, .indexAddr 23 (.tmp 43) (.tmp 44), none⟩,
  .one ⟨some 46, .load 9 (.tmp 45), none⟩,
  .one ⟨some 47, .move (.tmp 1), none⟩,
  .one ⟨some 48, .move (.tmp 12), none⟩,
  .one ⟨some 49, .indexAddr 23 (.tmp 47) (.tmp 48), none⟩,
  .one ⟨some 50, .load 9 (.tmp 49), none⟩,
  .one ⟨some 51, .buildSlice 23 2 #[(0, .tmp 46), (1, .tmp 50)], none⟩,
  .one ⟨some 52, .call ⟨.builtin .append, #[.tmp 42, .tmp 51], #[23, 23]⟩, none⟩,
  .one ⟨some 11, .assign (.tmp 52), none⟩]
def agoralaw34_LabelCounts_B1 : MCode := (.reg 9 agoralaw34_LabelCounts_R9 true)
def agoralaw34_LabelCounts_R8 : List Itm := [.one ⟨some 40, .move (.tmp 12), none⟩,
  .one ⟨some 41, .binOp .sub 3 (.tmp 40) (.const (.int .i64 1)) 3, none⟩,
  .one ⟨some 12, .assign (.tmp 41), none⟩]
def agoralaw34_LabelCounts_W1 : MCode := (.seq (.seq (.reg 7 agoralaw34_LabelCounts_R7 false) (.cond (.tmp 39) .skip (.exit 0))) (.seq (.block 1 agoralaw34_LabelCounts_B1) (.reg 8 agoralaw34_LabelCounts_R8 false)))
def agoralaw34_LabelCounts_B0 : MCode := (.loop agoralaw34_LabelCounts_W1)
def agoralaw34_LabelCounts_R10 : List Itm := [.one ⟨some 53, .move (.tmp 0), none⟩,
  .one ⟨some 54, .move (.tmp 3), none⟩,
  .one ⟨some 55, .buildSlice 23 1 #[(0, .tmp 54)], none⟩,
  .one ⟨some 56, .move (.tmp 11), none⟩,
  .one ⟨some 57, .call ⟨.builtin .append, #[.tmp 55, .tmp 56], #[23, 23]⟩, none⟩,
  .one ⟨some 58, .move (.tmp 2), none⟩,
  .one ⟨some 59, .call ⟨.value (.func 24), #[.tmp 53, .tmp 57, .tmp 58], #[22, 23, 9]⟩, none⟩,
  .one ⟨some 13, .assign (.tmp 59), none⟩]
def agoralaw34_LabelCounts_R11 : List Itm := [.one ⟨some 60, .move (.tmp 10), none⟩,
  .one ⟨some 61, .move (.tmp 0), none⟩,
  .one ⟨some 62, .move (.tmp 11), none⟩,
  .one ⟨some 63, .move (.tmp 2), none⟩,
  .one ⟨some 64, .call ⟨.value (.func 24), #[.tmp 61, .tmp 62, .tmp 63], #[22, 23, 9]⟩, none⟩,
  .one ⟨some 65, .call ⟨.value (.func 25), #[.tmp 60, .tmp 64], #[50, 50]⟩, none⟩,
  .one ⟨some 66, .unOp .not 4 (.tmp 65), none⟩]
def agoralaw34_LabelCounts_R12 : List Itm := [.one ⟨some 8, .assign (.const (.bool false)), none⟩]
def agoralaw34_LabelCounts_R13 : List Itm := [.one ⟨some 14, .assign (.const (.int .i64 0)), none⟩]
def agoralaw34_LabelCounts_R14 : List Itm := [.one ⟨some 15, .assign (.const (.int .i64 0)), none⟩]
def agoralaw34_LabelCounts_R15 : List Itm := [.one ⟨some 67, .move (.tmp 15), none⟩,
  .one ⟨some 68, .move (.tmp 10), none⟩,
  .one ⟨some 69, .call ⟨.builtin .len, #[.tmp 68], #[50]⟩, none⟩,
  .one ⟨some 70, .binOp .lss 3 (.tmp 67) (.tmp 69) 3, none⟩]
def agoralaw34_LabelCounts_R17 : List Itm := [.one ⟨some 16, .assign (.const (.int .i64 0)), none⟩]
def agoralaw34_LabelCounts_R18 : List Itm := [.one ⟨some 17, .assign (.const (.int .i64 0)), none⟩]
def agoralaw34_LabelCounts_R19 : List Itm := [.one ⟨some 73, .move (.tmp 17), none⟩,
  .one ⟨some 74, .move (.tmp 1), none⟩,
  .one ⟨some 75, .call ⟨.builtin .len, #[.tmp 74], #[23]⟩, none⟩,
  .one ⟨some 76, .binOp .lss 3 (.tmp 73) (.tmp 75) 3, none⟩]
def agoralaw34_LabelCounts_R21 : List Itm := [.one ⟨some 79, .move (.tmp 1), none⟩,
  .one ⟨some 80, .move (.tmp 17), none⟩,
  .one ⟨some 81, .slice 23 (.tmp 79) none (some (.tmp 80)) none, none⟩,
  .one ⟨some 82, .move (.tmp 1), none⟩,
  .one ⟨some 83, .move (.tmp 17), none⟩,
  .one ⟨some 84, .indexAddr 23 (.tmp 82) (.tmp 83), none⟩,
  .one ⟨some 85, .load 9 (.tmp 84), none⟩,
  .one ⟨some 86, .call ⟨.value (.func 20), #[.tmp 81, .tmp 85], #[23, 9]⟩, none⟩,
  .one ⟨some 87, .unOp .not 4 (.tmp 86), none⟩,
  .one ⟨some 88, .move (.tmp 87), none⟩,
  .blk 9 true [.one ⟨some 89, .move (.tmp 0), some (9, true)⟩,
  .one ⟨some 90, .move (.tmp 1), some (9, true)⟩,
  .one ⟨some 91, .move (.tmp 17), some (9, true)⟩,
  .one ⟨some 92, .indexAddr 23 (.tmp 90) (.tmp 91), some (9, true)⟩,
  .one ⟨some 93, .load 9 (.tmp 92), some (9, true)⟩,
  .one ⟨some 94, .move (.tmp 2), some (9, true)⟩,
  .one ⟨some 95, .call ⟨.value (.func 26), #[.tmp 89, .tmp 93, .tmp 94], #[22, 9, 9]⟩, some (9, true)⟩,
  .one ⟨some 96, .move (.tmp 10), some (9, true)⟩,
  .one ⟨some 97, .move (.tmp 15), some (9, true)⟩,
  .one ⟨some 98, .indexAddr 50 (.tmp 96) (.tmp 97), some (9, true)⟩,
  .one ⟨some 99, .fieldAddr 55 (.tmp 98) 0, some (9, true)⟩,
  .one ⟨some 100, .load 9 (.tmp 99), some (9, true)⟩,
  .one ⟨some 101, .call ⟨.value (.func 20), #[.tmp 95, .tmp 100], #[23, 9]⟩, some (9, true)⟩] ⟨some 102, .pick (.tmp 88) (.tmp 101) (.const (.bool false)), none⟩]
def agoralaw34_LabelCounts_R22 : List Itm := [.one ⟨some 103, .move (.tmp 16), none⟩,
  .one ⟨some 104, .binOp .add 3 (.tmp 103) (.const (.int .i64 1)) 3, none⟩,
  .one ⟨some 16, .assign (.tmp 104), none⟩]
def agoralaw34_LabelCounts_B5 : MCode := (.seq (.reg 21 agoralaw34_LabelCounts_R21 true) (.cond (.tmp 102) (.reg 22 agoralaw34_LabelCounts_R22 false) .skip))
def agoralaw34_LabelCounts_R20 : List Itm := [.one ⟨some 77, .move (.tmp 17), none⟩,
  .one ⟨some 78, .binOp .add 3 (.tmp 77) (.const (.int .i64 1)) 3, none⟩,
  .one ⟨some 17, .assign (.tmp 78), none⟩]
def agoralaw34_LabelCounts_W2 : MCode := (.seq (.seq (.reg 19 agoralaw34_LabelCounts_R19 false) (.cond (.tmp 76) .skip (.exit 4))) (.seq (.block 5 agoralaw34_LabelCounts_B5) (.reg 20 agoralaw34_LabelCounts_R20 false)))
def agoralaw34_LabelCounts_B4 : MCode := (.loop agoralaw34_LabelCounts_W2)
def agoralaw34_LabelCounts_R23 : List Itm := [.one ⟨some 18, .assign (.const (.bool false)), none⟩]
def agoralaw34_LabelCounts_R24 : List Itm := [.one ⟨some 19, .assign (.const (.int .i64 0)), none⟩]
def agoralaw34_LabelCounts_R25 : List Itm := [.one ⟨some 105, .move (.tmp 19), none⟩,
  .one ⟨some 106, .move (.tmp 13), none⟩,
  .one ⟨some 107, .call ⟨.builtin .len, #[.tmp 106], #[50]⟩, none⟩,
  .one ⟨some 108, .binOp .lss 3 (.tmp 105) (.tmp 107) 3, none⟩]
def agoralaw34_LabelCounts_R27 : List Itm := [.one ⟨some 111, .move (.tmp 18), none⟩,
  .one ⟨some 112, .move (.tmp 111), none⟩,
  .blk 1 false [.one ⟨some 113, .move (.tmp 13), some (1, false)⟩,
  .one ⟨some 114, .move (.tmp 19), some (1, false)⟩,
  .one ⟨some 115, .indexAddr 50 (.tmp 113) (.tmp 114), some (1, false)⟩,
  .one ⟨some 116, .fieldAddr 55 (.tmp 115) 0, some (1, false)⟩,
  .one ⟨some 117, .load 9 (.tmp 116), some (1, false)⟩,
  .one ⟨some 118, .move (.tmp 10), some (1, false)⟩,
  .one ⟨some 119, .move (.tmp 15), some (1, false)⟩,
  .one ⟨some 120, .indexAddr 50 (.tmp 118) (.tmp 119), some (1, false)⟩,
  .one ⟨some 121, .fieldAddr 55 (.tmp 120) 0, some (1, false)⟩,
  .one ⟨some 122, .load 9 (.tmp 121), some (1, false)⟩,
  .one ⟨some 123, .binOp .eql 9 (.tmp 117) (.tmp 122) 9, some (1, false)⟩,
  .one ⟨some 124, .move (.tmp 123), some (1, false)⟩,
  .blk 13 true [.one ⟨some 125, .move (.tmp 13), some (13, true)⟩,
  .one ⟨some 126, .move (.tmp 19), some (13, true)⟩,
  .one ⟨some 127, .indexAddr 50 (.tmp 125) (.tmp 126), some (13, true)⟩,
  .one ⟨some 128, .fieldAddr 55 (.tmp 127) 1, some (13, true)⟩,
  .one ⟨some 129, .load 3 (.tmp 128), some (13, true)⟩,
  .one ⟨some 130, .move (.tmp 16), some (13, true)⟩,
  .one ⟨some 131, .binOp .geq 3 (.tmp 129) (.tmp 130) 3, some (13, true)⟩] ⟨some 132, .pick (.tmp 124) (.tmp 131) (.const (.bool false)), some (1, false)⟩,
  .one ⟨some 133, .move (.tmp 132), some (1, false)⟩,
  .blk 22 true [.one ⟨some 134, .move (.tmp 13), some (22, true)⟩,
  .one ⟨some 135, .move (.tmp 19), some (22, true)⟩,
  .one ⟨some 136, .indexAddr 50 (.tmp 134) (.tmp 135), some (22, true)⟩,
  .one ⟨some 137, .fieldAddr 55 (.tmp 136) 1, some (22, true)⟩,
  .one ⟨some 138, .load 3 (.tmp 137), some (22, true)⟩,
  .one ⟨some 139, .move (.tmp 16), some (22, true)⟩,
  .one ⟨some 140, .binOp .add 3 (.tmp 139) (.const (.int .i64 1)) 3, some (22, true)⟩,
  .one ⟨some 141, .binOp .leq 3 (.tmp 138) (.tmp 140) 3, some (22, true)⟩] ⟨some 142, .pick (.tmp 133) (.tmp 141) (.const (.bool false)), some (1, false)⟩] ⟨some 143, .pick (.tmp 112) (.const (.bool true)) (.tmp 142), none⟩,
  .one ⟨some 18, .assign (.tmp 143), none⟩]
def agoralaw34_LabelCounts_B7 : MCode := (.reg 27 agoralaw34_LabelCounts_R27 true)
def agoralaw34_LabelCounts_R26 : List Itm := [.one ⟨some 109, .move (.tmp 19), none⟩,
  .one ⟨some 110, .binOp .add 3 (.tmp 109) (.const (.int .i64 1)) 3, none⟩,
  .one ⟨some 19, .assign (.tmp 110), none⟩]
def agoralaw34_LabelCounts_W3 : MCode := (.seq (.seq (.reg 25 agoralaw34_LabelCounts_R25 false) (.cond (.tmp 108) .skip (.exit 6))) (.seq (.block 7 agoralaw34_LabelCounts_B7) (.reg 26 agoralaw34_LabelCounts_R26 false)))
def agoralaw34_LabelCounts_B6 : MCode := (.loop agoralaw34_LabelCounts_W3)
def agoralaw34_LabelCounts_R28 : List Itm := [.one ⟨some 144, .move (.tmp 16), none⟩,
  .one ⟨some 145, .binOp .lss 3 (.tmp 144) (.const (.int .i64 1)) 3, none⟩,
  .one ⟨some 146, .move (.tmp 145), none⟩,
  .blk 2 false [.one ⟨some 147, .move (.tmp 10), some (2, false)⟩,
  .one ⟨some 148, .move (.tmp 15), some (2, false)⟩,
  .one ⟨some 149, .indexAddr 50 (.tmp 147) (.tmp 148), some (2, false)⟩,
  .one ⟨some 150, .fieldAddr 55 (.tmp 149) 1, some (2, false)⟩,
  .one ⟨some 151, .load 3 (.tmp 150), some (2, false)⟩,
  .one ⟨some 152, .move (.tmp 16), some (2, false)⟩,
  .one ⟨some 153, .binOp .neq 3 (.tmp 151) (.tmp 152) 3, some (2, false)⟩] ⟨some 154, .pick (.tmp 146) (.const (.bool true)) (.tmp 153), none⟩,
  .one ⟨some 155, .move (.tmp 154), none⟩,
  .blk 11 false [.one ⟨some 156, .move (.tmp 15), some (11, false)⟩,
  .one ⟨some 157, .binOp .gtr 3 (.tmp 156) (.const (.int .i64 0)) 3, some (11, false)⟩,
  .one ⟨some 158, .move (.tmp 157), some (11, false)⟩,
  .blk 14 true [.one ⟨some 159, .move (.tmp 10), some (14, true)⟩,
  .one ⟨some 160, .move (.tmp 15), some (14, true)⟩,
  .one ⟨some 161, .binOp .sub 3 (.tmp 160) (.const (.int .i64 1)) 3, some (14, true)⟩,
  .one ⟨some 162, .indexAddr 50 (.tmp 159) (.tmp 161), some (14, true)⟩,
  .one ⟨some 163, .fieldAddr 55 (.tmp 162) 0, some (14, true)⟩,
  .one ⟨some 164, .load 9 (.tmp 163), some (14, true)⟩,
  .one ⟨some 165, .move (.tmp 10), some (14, true)⟩,
  .one ⟨some 166, .move (.tmp 15), some (14, true)⟩,
  .one ⟨some 167, .indexAddr 50 (.tmp 165) (.tmp 166), some (14, true)⟩,
  .one ⟨some 168, .fieldAddr 55 (.tmp 167) 0, some (14, true)⟩,
  .one ⟨some 169, .load 9 (.tmp 168), some (14, true)⟩,
  .one ⟨some 170, .binOp .geq 9 (.tmp 164) (.tmp 169) 9, some (14, true)⟩] ⟨some 171, .pick (.tmp 158) (.tmp 170) (.const (.bool false)), some (11, false)⟩] ⟨some 172, .pick (.tmp 155) (.const (.bool true)) (.tmp 171), none⟩,
  .one ⟨some 173, .move (.tmp 172), none⟩,
  .blk 29 false [.one ⟨some 174, .move (.tmp 18), some (29, false)⟩,
  .one ⟨some 175, .unOp .not 4 (.tmp 174), some (29, false)⟩] ⟨some 176, .pick (.tmp 173) (.const (.bool true)) (.tmp 175), none⟩]
def agoralaw34_LabelCounts_R29 : List Itm := [.one ⟨some 8, .assign (.const (.bool false)), none⟩]
def agoralaw34_LabelCounts_R30 : List Itm := [.one ⟨some 177, .move (.tmp 14), none⟩,
  .one ⟨some 178, .move (.tmp 16), none⟩,
  .one ⟨some 179, .binOp .add 3 (.tmp 177) (.tmp 178) 3, none⟩,
  .one ⟨some 14, .assign (.tmp 179), none⟩]
def agoralaw34_LabelCounts_B3 : MCode := (.seq (.reg 17 agoralaw34_LabelCounts_R17 false) (.seq (.seq (.reg 18 agoralaw34_LabelCounts_R18 false) (.block 4 agoralaw34_LabelCounts_B4)) (.seq (.reg 23 agoralaw34_LabelCounts_R23 false) (.seq (.seq (.reg 24 agoralaw34_LabelCounts_R24 false) (.block 6 agoralaw34_LabelCounts_B6)) (.seq (.seq (.reg 28 agoralaw34_LabelCounts_R28 true) (.cond (.tmp 176) (.seq (.reg 29 agoralaw34_LabelCounts_R29 false) .ret) .skip)) (.reg 30 agoralaw34_LabelCounts_R30 false))))))
def agoralaw34_LabelCounts_R16 : List Itm := [.one ⟨some 71, .move (.tmp 15), none⟩,
  .one ⟨some 72, .binOp .add 3 (.tmp 71) (.const (.int .i64 1)) 3, none⟩,
  .one ⟨some 15, .assign (.tmp 72), none⟩]
def agoralaw34_LabelCounts_W4 : MCode := (.seq (.seq (.reg 15 agoralaw34_LabelCounts_R15 false) (.cond (.tmp 70) .skip (.exit 2))) (.seq (.block 3 agoralaw34_LabelCounts_B3) (.reg 16 agoralaw34_LabelCounts_R16 false)))
def agoralaw34_LabelCounts_B2 : MCode := (.loop agoralaw34_LabelCounts_W4)
def agoralaw34_LabelCounts_R31 : List Itm := [.one ⟨some 20, .assign (.const (.int .i64 0)), none⟩]
def agoralaw34_LabelCounts_R32 : List Itm := [.one ⟨some 180, .move (.tmp 20), none⟩,
  .one ⟨some 181, .move (.tmp 1), none⟩,
  .one ⟨some 182, .call ⟨.builtin .len, #[.tmp 181], #[23]⟩, none⟩,
  .one ⟨some 183, .binOp .lss 3 (.tmp 180) (.tmp 182) 3, none⟩]
def agoralaw34_LabelCounts_R34 : List Itm := [.one ⟨some 186, .move (.tmp 1), none⟩,
  .one ⟨some 187, .move (.tmp 20), none⟩,
  .one ⟨some 188, .slice 23 (.tmp 186) none (some (.tmp 187)) none, none⟩,
  .one ⟨some 189, .move (.tmp 1), none⟩,
  .one ⟨some 190, .move (.tmp 20), none⟩,
  .one ⟨some 191, .indexAddr 23 (.tmp 189) (.tmp 190), none⟩,
  .one ⟨some 192, .load 9 (.tmp 191), none⟩,
  .one ⟨some 193, .call ⟨.value (.func 20), #[.tmp 188, .tmp 192], #[23, 9]⟩, none⟩,
  .one ⟨some 194, .unOp .not 4 (.tmp 193), none⟩]
def agoralaw34_LabelCounts_R35 : List Itm := [.one ⟨some 195, .move (.tmp 14), none⟩,
  .one ⟨some 196, .move (.tmp 0), none⟩,
  .one ⟨some 197, .move (.tmp 1), none⟩,
  .one ⟨some 198, .move (.tmp 20), none⟩,
  .one ⟨some 199, .indexAddr 23 (.tmp 197) (.tmp 198), none⟩,
  .one ⟨some 200, .load 9 (.tmp 199), none⟩,
  .one ⟨some 201, .move (.tmp 2), none⟩,
  .one ⟨some 202, .call ⟨.value (.func 26), #[.tmp 196, .tmp 200, .tmp 201], #[22, 9, 9]⟩, none⟩,
  .one ⟨some 203, .call ⟨.builtin .len, #[.tmp 202], #[23]⟩, none⟩,
  .one ⟨some 204, .binOp .sub 3 (.tmp 195) (.tmp 203) 3, none⟩,
  .one ⟨some 14, .assign (.tmp 204), none⟩]
def agoralaw34_LabelCounts_B9 : MCode := (.seq (.reg 34 agoralaw34_LabelCounts_R34 true) (.cond (.tmp 194) (.reg 35 agoralaw34_LabelCounts_R35 false) .skip))
def agoralaw34_LabelCounts_R33 : List Itm := [.one ⟨some 184, .move (.tmp 20), none⟩,
  .one ⟨some 185, .binOp .add 3 (.tmp 184) (.const (.int .i64 1)) 3, none⟩,
  .one ⟨some 20, .assign (.tmp 185), none⟩]
def agoralaw34_LabelCounts_W5 : MCode := (.seq (.seq (.reg 32 agoralaw34_LabelCounts_R32 false) (.cond (.tmp 183) .skip (.exit 8))) (.seq (.block 9 agoralaw34_LabelCounts_B9) (.reg 33 agoralaw34_LabelCounts_R33 false)))
def agoralaw34_LabelCounts_B8 : MCode := (.loop agoralaw34_LabelCounts_W5)
def agoralaw34_LabelCounts_R36 : List Itm := [.one ⟨some 205, .move (.tmp 9), none⟩,
  .one ⟨some 206, .move (.tmp 205), none⟩,
  .blk 1 true [.one ⟨some 207, .move (.tmp 14), some (1, true)⟩,
  .one ⟨some 208, .binOp .eql 3 (.tmp 207) (.const (.int .i64 0)) 3, some (1, true)⟩] ⟨some 209, .pick (.tmp 206) (.tmp 208) (.const (.bool false)), none⟩,
  .one ⟨some 8, .assign (.tmp 209), none⟩]
def agoralaw34_LabelCounts_L : MCode := (.seq (.reg 0 agoralaw34_LabelCounts_R0 false) (.seq (.reg 1 agoralaw34_LabelCounts_R1 false) (.seq (.seq (.reg 2 agoralaw34_LabelCounts_R2 false) (.cond (.tmp 29) (.seq (.reg 3 agoralaw34_LabelCounts_R3 false) .ret) .skip)) (.seq (.reg 4 agoralaw34_LabelCounts_R4 false) (.seq (.reg 5 agoralaw34_LabelCounts_R5 false) (.seq (.seq (.reg 6 agoralaw34_LabelCounts_R6 false) (.block 0 agoralaw34_LabelCounts_B0)) (.seq (.reg 10 agoralaw34_LabelCounts_R10 false) (.seq (.seq (.reg 11 agoralaw34_LabelCounts_R11 false) (.cond (.tmp 66) (.seq (.reg 12 agoralaw34_LabelCounts_R12 false) .ret) .skip)) (.seq (.reg 13 agoralaw34_LabelCounts_R13 false) (.seq (.seq (.reg 14 agoralaw34_LabelCounts_R14 false) (.block 2 agoralaw34_LabelCounts_B2)) (.seq (.seq (.reg 31 agoralaw34_LabelCounts_R31 false) (.block 8 agoralaw34_LabelCounts_B8)) (.seq (.reg 36 agoralaw34_LabelCounts_R36 false) .ret))))))))))))
def agoralaw34_LabelCounts_ks : Nat → List Nat := fun i => match i with
  | 9 => [0, 0, 0, 0, 0, 0, 0, 0, 0, 0, 2, 0]
  | 21 => [0, 0, 0, 0, 0, 0, 0, 0, 0, 0, 0, 0, 0, 0, 0, 0, 0, 0, 0, 0, 0, 0, 0, 0]
  | 27 => [0, 0, 0, 0, 0, 0, 0, 0, 0, 0, 0, 0, 0, 0, 0, 0, 0, 0, 0, 0, 0, 0, 0, 0, 0, 0, 0, 0, 0, 0, 0, 0, 0, 0]
  | 28 => [0, 0, 0, 0, 0, 0, 0, 0, 0, 0, 0, 0, 0, 0, 0, 0, 0, 0, 0, 0, 0, 0, 0, 0, 0, 0, 0, 0, 0, 0, 0, 0, 0]
  | 34 => [0, 0, 0, 0, 0, 0, 0, 0, 0]
  | _ => []
theorem agoralaw34_LabelCounts_F : FnL Tryz.prog GW 6 210 agoralaw34_LabelCounts_L [.tmp 8] agoralaw34_LabelCounts_ks := ⟨⟨_, Tryz.func6, rfl, by kernel_rfl, by kernel_rfl, rfl⟩, by kernel_rfl, by kernel_rfl⟩
end Go.Proofs.YthkmfboffnhkaaaGreatDoor
