/-
  The light code of functions: printed by wip/tools/gen.py.
-/
import Derived.Test.YthkmfboffnhkaaaGreatDoorTY
namespace Go.Proofs.YthkmfboffnhkaaaGreatDoor
open Go Go.L1
set_option linter.all false
set_option maxRecDepth 100000
/-! agora/agoralaw37.ListsGrows -/
def agoralaw37_ListsGrows_R0 : List Itm := [.one ⟨some 6, Op.assign (Operand.const (Value.bool false)), none⟩]
def agoralaw37_ListsGrows_R1 : List Itm := [.one ⟨some 20, Op.call { callee := Callee.value (Operand.func 15), args := #[], argTypes := #[] }, none⟩,
  .one ⟨some 7, Op.assign (Operand.tmp 20), none⟩]
def agoralaw37_ListsGrows_R2 : List Itm := [.one ⟨some 21, Op.move (Operand.tmp 0), none⟩,
  .one ⟨some 22, Op.call { callee := Callee.value (Operand.func 16), args := #[Operand.tmp 21], argTypes := #[22] }, none⟩,
  .one ⟨some 23, Op.unOp UnOp.not 4 (Operand.tmp 22), none⟩,
  .one ⟨some 24, Op.move (Operand.tmp 23), none⟩,
  .blk 3 false [.one ⟨some 25, Op.move (Operand.tmp 1), some (3, false)⟩,
  .one ⟨some 26, Op.call { callee := Callee.builtin Builtin.len, args := #[Operand.tmp 25], argTypes := #[23] }, some (3, false)⟩,
  .one ⟨some 27, Op.binOp BinOp.gtr 3 (Operand.tmp 26) (Operand.const (Value.int IntKind.i64 8)) 3, some (3, false)⟩] ⟨some 28, Op.pick (Operand.tmp 24) (Operand.const (Value.bool true)) (Operand.tmp 27), none⟩]
def agoralaw37_ListsGrows_R3 : List Itm := [.one ⟨some 29, Op.move (Operand.tmp 7), none⟩,
  .one ⟨some 6, Op.assign (Operand.tmp 29), none⟩]
def agoralaw37_ListsGrows_R4 : List Itm := [.one ⟨some 30, Op.move (Operand.tmp 0), none⟩,
  .one ⟨some 31, Op.move (Operand.tmp 1), none⟩,
  .one ⟨some 32, Op.move (Operand.tmp 2), none⟩,
  .one ⟨some 33, Op.call { callee := Callee.value (Operand.func 17), args := #[Operand.tmp 30, Operand.tmp 31, Operand.tmp 32], argTypes := #[22, 23, 3] }, none⟩,
  .one ⟨some 8, Op.assign (Operand.tmp 33), none⟩]
def agoralaw37_ListsGrows_R5 : List Itm := [.one ⟨some 9, Op.assign (Operand.const (Value.slice none 0 0)), none⟩]
def agoralaw37_ListsGrows_R6 : List Itm := [.one ⟨some 34, Op.move (Operand.tmp 1), none⟩,
  .one ⟨some 35, Op.call { callee := Callee.builtin Builtin.len, args := #[Operand.tmp 34], argTypes := #[23] }, none⟩,
  .one ⟨some 36, Op.binOp BinOp.sub 3 (Operand.tmp 35) (Operand.const (Value.int IntKind.i64 1)) 3, none⟩,
  .one ⟨some 10, Op.assign (Operand.tmp 36), none⟩]
def agoralaw37_ListsGrows_R7 : List Itm := [.one ⟨some 37, Op.move (Operand.tmp 10), none⟩,
  .one ⟨some 38, Op.binOp BinOp.geq 3 (Operand.tmp 37) (Operand.const (Value.int IntKind.i64 0)) 3, none⟩]
def agoralaw37_ListsGrows_R9 : List Itm := [.one ⟨some 41, Op.move (Operand.tmp 9), none⟩,
  .one ⟨some 42, Op.move (Operand.tmp 1), none⟩,
  .one ⟨some 43, Op.move (Operand.tmp 10), none⟩,
  .one ⟨some 44, Op.indexAddr 23 (Operand.tmp 42) (Operand.tmp 43), none⟩,
  .one ⟨some 45, Op.load 9 (Operand.tmp 44), none⟩,
  .one ⟨some 46, Op.move (Operand.tmp 1), none⟩,
  .one ⟨some 47, Op.move (Operand.tmp 10), none⟩,
  .one ⟨some 48, Op.indexAddr 23 (Operand.tmp 46) (Operand.tmp 47), none⟩,
  .one ⟨some 49, Op.load 9 (Operand.tmp 48), none⟩,
  .one ⟨some 50, Op.buildSlice 23 2 #[(0, Operand.tmp 45), (1, Operand.tmp 49)], none⟩,
  .one ⟨some 51, Op.call { callee := Callee.builtin Builtin.append, args := #[Operand.tmp 41, Operand.tmp 50], argTypes := #[23, 23] }, none⟩,
  .one ⟨some 9, Op.assign (Operand.tmp 51), none⟩]
def agoralaw37_ListsGrows_B1 : MCode := (.reg 9 agoralaw37_ListsGrows_R9 true)
def agoralaw37_ListsGrows_R8 : List Itm := [.one ⟨some 39, Op.move (Operand.tmp 10), none⟩,
  .one ⟨some 40, Op.binOp BinOp.sub 3 (Operand.tmp 39) (Operand.const (Value.int IntKind.i64 1)) 3, none⟩,
  .one ⟨some 10, Op.assign (Operand.tmp 40), none⟩]
def agoralaw37_ListsGrows_W1 : MCode := (.seq (.seq (.reg 7 agoralaw37_ListsGrows_R7 false) (.cond (Operand.tmp 38) .skip (.exit 0))) (.seq (.block 1 agoralaw37_ListsGrows_B1) (.reg 8 agoralaw37_ListsGrows_R8 false)))
def agoralaw37_ListsGrows_B0 : MCode := (.loop agoralaw37_ListsGrows_W1)
def agoralaw37_ListsGrows_R10 : List Itm := [.one ⟨some 52, Op.move (Operand.tmp 8), none⟩,
  .one ⟨some 53, Op.move (Operand.tmp 0), none⟩,
  .one ⟨some 54, Op.move (Operand.tmp 9), none⟩,
  .one ⟨some 55, Op.move (Operand.tmp 2), none⟩,
  .one ⟨some 56, Op.call { callee := Callee.value (Operand.func 17), args := #[Operand.tmp 53, Operand.tmp 54, Operand.tmp 55], argTypes := #[22, 23, 3] }, none⟩,
  .one ⟨some 57, Op.call { callee := Callee.value (Operand.func 18), args := #[Operand.tmp 52, Operand.tmp 56], argTypes := #[26, 26] }, none⟩,
  .one ⟨some 58, Op.unOp UnOp.not 4 (Operand.tmp 57), none⟩]
def agoralaw37_ListsGrows_R11 : List Itm := [.one ⟨some 6, Op.assign (Operand.const (Value.bool false)), none⟩]
def agoralaw37_ListsGrows_R12 : List Itm := [.one ⟨some 11, Op.assign (Operand.const (Value.int IntKind.i64 0)), none⟩]
def agoralaw37_ListsGrows_R13 : List Itm := [.one ⟨some 12, Op.assign (Operand.const (Value.int IntKind.i64 0)), none⟩]
def agoralaw37_ListsGrows_R14 : List Itm := [.one ⟨some 59, Op.move (Operand.tmp 12), none⟩,
  .one ⟨some 60, Op.move (Operand.tmp 8), none⟩,
  .one ⟨some 61, Op.call { callee := Callee.builtin Builtin.len, args := #[Operand.tmp 60], argTypes := #[26] }, none⟩,
  .one ⟨some 62, Op.binOp BinOp.lss 3 (Operand.tmp 59) (Operand.tmp 61) 3, none⟩]
def agoralaw37_ListsGrows_R16 : List Itm := [.one ⟨some 65, Op.move (Operand.tmp 12), none⟩,
  .one ⟨some 66, Op.binOp BinOp.gtr 3 (Operand.tmp 65) (Operand.const (Value.int IntKind.i64 0)) 3, none⟩,
  .one ⟨some 67, Op.move (Operand.tmp 66), none⟩,
  .blk 2 true [.one ⟨some 68, Op.move (Operand.tmp 8), some (2, true)⟩,
  .one ⟨some 69, Op.move (Operand.tmp 12), some (2, true)⟩,
  .one ⟨some 70, Op.binOp BinOp.sub 3 (Operand.tmp 69) (Operand.const (Value.int IntKind.i64 1)) 3, some (2, true)⟩,
  .one ⟨some 71, Op.indexAddr 26 (Operand.tmp 68) (Operand.tmp 70), some (2, true)⟩,
  .one ⟨some 72, Op.fieldAddr 30 (Operand.tmp 71) 0, some (2, true)⟩,
  .one ⟨some 73, Op.load 9 (Operand.tmp 72), some (2, true)⟩,
  .one ⟨some 74, Op.move (Operand.tmp 8), some (2, true)⟩,
  .one ⟨some 75, Op.move (Operand.tmp 12), some (2, true)⟩,
  .one ⟨some 76, Op.indexAddr 26 (Operand.tmp 74) (Operand.tmp 75), some (2, true)⟩,
  .one ⟨some 77, Op.fieldAddr 30 (Operand.tmp 76) 0, some (2, true)⟩,
  .one ⟨some 78, Op.load 9 (Operand.tmp 77), some (2, true)⟩,
  .one ⟨some 79, Op.binOp BinOp.geq 9 (Operand.tmp 73) (Operand.tmp 78) 9, some (2, true)⟩] ⟨some 80, Op.pick (Operand.tmp 67) (Operand.tmp 79) (Operand.const (Value.bool false)), none⟩,
  .one ⟨some 81, Op.move (Operand.tmp 80), none⟩,
  .blk 16 false [.one ⟨some 82, Op.move (Operand.tmp 8), some (16, false)⟩,
  .one ⟨some 83, Op.move (Operand.tmp 12), some (16, false)⟩,
  .one ⟨some 84, Op.indexAddr 26 (Operand.tmp 82) (Operand.tmp 83), some (16, false)⟩,
  .one ⟨some 85, Op.fieldAddr 30 (Operand.tmp 84) 3, some (16, false)⟩,
  .one ⟨some 86, Op.load 3 (Operand.tmp 85), some (16, false)⟩,
  .one ⟨some 87, Op.move (Operand.tmp 2), some (16, false)⟩,
  .one ⟨some 88, Op.binOp BinOp.leq 3 (Operand.tmp 86) (Operand.tmp 87) 3, some (16, false)⟩] ⟨some 89, Op.pick (Operand.tmp 81) (Operand.const (Value.bool true)) (Operand.tmp 88), none⟩]
def agoralaw37_ListsGrows_R17 : List Itm := [.one ⟨some 6, Op.assign (Operand.const (Value.bool false)), none⟩]
def agoralaw37_ListsGrows_R18 : List Itm := [.one ⟨some 91, Op.move (Operand.tmp 0), none⟩,
  .one ⟨some 92, Op.move (Operand.tmp 8), none⟩,
  .one ⟨some 93, Op.move (Operand.tmp 12), none⟩,
  .one ⟨some 94, Op.indexAddr 26 (Operand.tmp 92) (Operand.tmp 93), none⟩,
  .one ⟨some 95, Op.fieldAddr 30 (Operand.tmp 94) 2, none⟩,
  .one ⟨some 96, Op.load 9 (Operand.tmp 95), none⟩,
  .one ⟨some 97, Op.buildSlice 23 1 #[(0, Operand.tmp 96)], none⟩,
  .one ⟨some 98, Op.move (Operand.tmp 2), none⟩,
  .one ⟨some 99, Op.call { callee := Callee.value (Operand.func 17), args := #[Operand.tmp 91, Operand.tmp 97, Operand.tmp 98], argTypes := #[22, 23, 3] }, none⟩,
  .one ⟨some 100, Op.move (Operand.tmp 8), none⟩,
  .one ⟨some 101, Op.move (Operand.tmp 12), none⟩,
  .one ⟨some 102, Op.indexAddr 26 (Operand.tmp 100) (Operand.tmp 101), none⟩,
  .one ⟨some 103, Op.fieldAddr 30 (Operand.tmp 102) 0, none⟩,
  .one ⟨some 104, Op.load 9 (Operand.tmp 103), none⟩,
  .one ⟨some 105, Op.call { callee := Callee.value (Operand.func 19), args := #[Operand.tmp 99, Operand.tmp 104], argTypes := #[26, 9] }, none⟩,
  .one ⟨some 90, Op.move (Operand.tmp 105), none⟩,
  .one ⟨some 106, Op.extract (Operand.tmp 90) 0, none⟩,
  .one ⟨some 107, Op.extract (Operand.tmp 90) 1, none⟩,
  .one ⟨some 13, Op.alloc 30, none⟩,
  .one ⟨none, Op.store 30 (Operand.tmp 13) (Operand.tmp 106), none⟩,
  .one ⟨some 14, Op.assign (Operand.tmp 107), none⟩]
def agoralaw37_ListsGrows_R19 : List Itm := [.one ⟨some 108, Op.move (Operand.tmp 14), none⟩,
  .one ⟨some 109, Op.unOp UnOp.not 4 (Operand.tmp 108), none⟩,
  .one ⟨some 110, Op.move (Operand.tmp 109), none⟩,
  .blk 2 false [.one ⟨some 111, Op.load 30 (Operand.tmp 13), some (2, false)⟩,
  .one ⟨some 112, Op.move (Operand.tmp 8), some (2, false)⟩,
  .one ⟨some 113, Op.move (Operand.tmp 12), some (2, false)⟩,
  .one ⟨some 114, Op.indexAddr 26 (Operand.tmp 112) (Operand.tmp 113), some (2, false)⟩,
  .one ⟨some 115, Op.load 30 (Operand.tmp 114), some (2, false)⟩,
  .one ⟨some 116, Op.binOp BinOp.neq 30 (Operand.tmp 111) (Operand.tmp 115) 30, some (2, false)⟩] ⟨some 117, Op.pick (Operand.tmp 110) (Operand.const (Value.bool true)) (Operand.tmp 116), none⟩,
  .one ⟨some 118, Op.move (Operand.tmp 117), none⟩,
  .blk 10 false [.one ⟨some 119, Op.move (Operand.tmp 1), some (10, false)⟩,
  .one ⟨some 120, Op.move (Operand.tmp 8), some (10, false)⟩,
  .one ⟨some 121, Op.move (Operand.tmp 12), some (10, false)⟩,
  .one ⟨some 122, Op.indexAddr 26 (Operand.tmp 120) (Operand.tmp 121), some (10, false)⟩,
  .one ⟨some 123, Op.fieldAddr 30 (Operand.tmp 122) 2, some (10, false)⟩,
  .one ⟨some 124, Op.load 9 (Operand.tmp 123), some (10, false)⟩,
  .one ⟨some 125, Op.call { callee := Callee.value (Operand.func 20), args := #[Operand.tmp 119, Operand.tmp 124], argTypes := #[23, 9] }, some (10, false)⟩,
  .one ⟨some 126, Op.unOp UnOp.not 4 (Operand.tmp 125), some (10, false)⟩] ⟨some 127, Op.pick (Operand.tmp 118) (Operand.const (Value.bool true)) (Operand.tmp 126), none⟩]
def agoralaw37_ListsGrows_R20 : List Itm := [.one ⟨some 6, Op.assign (Operand.const (Value.bool false)), none⟩]
def agoralaw37_ListsGrows_B3 : MCode := (.seq (.seq (.reg 16 agoralaw37_ListsGrows_R16 true) (.cond (Operand.tmp 89) (.seq (.reg 17 agoralaw37_ListsGrows_R17 false) .ret) .skip)) (.seq (.reg 18 agoralaw37_ListsGrows_R18 true) (.seq (.reg 19 agoralaw37_ListsGrows_R19 true) (.cond (Operand.tmp 127) (.seq (.reg 20 agoralaw37_ListsGrows_R20 false) .ret) .skip))))
def agoralaw37_ListsGrows_R15 : List Itm := [.one ⟨some 63, Op.move (Operand.tmp 12), none⟩,
  .one ⟨some 64, Op.binOp BinOp.add 3 (Operand.tmp 63) (Operand.const (Value.int IntKind.i64 1)) 3, none⟩,
  .one ⟨some 12, Op.assign (Operand.tmp 64), none⟩]
def agoralaw37_ListsGrows_W2 : MCode := (.seq (.seq (.reg 14 agoralaw37_ListsGrows_R14 false) (.cond (Operand.tmp 62) .skip (.exit 2))) (.seq (.block 3 agoralaw37_ListsGrows_B3) (.reg 15 agoralaw37_ListsGrows_R15 false)))
def agoralaw37_ListsGrows_B2 : MCode := (.loop agoralaw37_ListsGrows_W2)
def agoralaw37_ListsGrows_R21 : List Itm := [.one ⟨some 15, Op.assign (Operand.const (Value.int IntKind.i64 0)), none⟩]
def agoralaw37_ListsGrows_R22 : List Itm := [.one ⟨some 128, Op.move (Operand.tmp 15), none⟩,
  .one ⟨some 129, Op.move (Operand.tmp 1), none⟩,
  .one ⟨some 130, Op.call { callee := Callee.builtin Builtin.len, args := #[Operand.tmp 129], argTypes := #[23] }, none⟩,
  .one ⟨some 131, Op.binOp BinOp.lss 3 (Operand.tmp 128) (Operand.tmp 130) 3, none⟩]
def agoralaw37_ListsGrows_R24 : List Itm := [.one ⟨some 134, Op.move (Operand.tmp 0), none⟩,
  .one ⟨some 135, Op.move (Operand.tmp 1), none⟩,
  .one ⟨some 136, Op.move (Operand.tmp 15), none⟩,
  .one ⟨some 137, Op.indexAddr 23 (Operand.tmp 135) (Operand.tmp 136), none⟩,
  .one ⟨some 138, Op.load 9 (Operand.tmp 137), none⟩,
  .one ⟨some 139, Op.buildSlice 23 1 #[(0, Operand.tmp 138)], none⟩,
  .one ⟨some 140, Op.move (Operand.tmp 2), none⟩,
  .one ⟨some 141, Op.call { callee := Callee.value (Operand.func 17), args := #[Operand.tmp 134, Operand.tmp 139, Operand.tmp 140], argTypes := #[22, 23, 3] }, none⟩,
  .one ⟨some 16, Op.assign (Operand.tmp 141), none⟩]
def agoralaw37_ListsGrows_R25 : List Itm := [.one ⟨some 17, Op.assign (Operand.const (Value.int IntKind.i64 0)), none⟩]
def agoralaw37_ListsGrows_R26 : List Itm := [.one ⟨some 142, Op.move (Operand.tmp 17), none⟩,
  .one ⟨some 143, Op.move (Operand.tmp 16), none⟩,
  .one ⟨some 144, Op.call { callee := Callee.builtin Builtin.len, args := #[Operand.tmp 143], argTypes := #[26] }, none⟩,
  .one ⟨some 145, Op.binOp BinOp.lss 3 (Operand.tmp 142) (Operand.tmp 144) 3, none⟩]
def agoralaw37_ListsGrows_R28 : List Itm := [.one ⟨some 149, Op.move (Operand.tmp 8), none⟩,
  .one ⟨some 150, Op.move (Operand.tmp 16), none⟩,
  .one ⟨some 151, Op.move (Operand.tmp 17), none⟩,
  .one ⟨some 152, Op.indexAddr 26 (Operand.tmp 150) (Operand.tmp 151), none⟩,
  .one ⟨some 153, Op.fieldAddr 30 (Operand.tmp 152) 0, none⟩,
  .one ⟨some 154, Op.load 9 (Operand.tmp 153), none⟩,
  .one ⟨some 155, Op.call { callee := Callee.value (Operand.func 19), args := #[Operand.tmp 149, Operand.tmp 154], argTypes := #[26, 9] }, none⟩,
  .one ⟨some 148, Op.move (Operand.tmp 155), none⟩,
  .one ⟨some 156, Op.extract (Operand.tmp 148) 0, none⟩,
  .one ⟨some 157, Op.extract (Operand.tmp 148) 1, none⟩,
  .one ⟨some 18, Op.alloc 30, none⟩,
  .one ⟨none, Op.store 30 (Operand.tmp 18) (Operand.tmp 156), none⟩,
  .one ⟨some 19, Op.assign (Operand.tmp 157), none⟩]
def agoralaw37_ListsGrows_R29 : List Itm := [.one ⟨some 158, Op.move (Operand.tmp 19), none⟩,
  .one ⟨some 159, Op.unOp UnOp.not 4 (Operand.tmp 158), none⟩,
  .one ⟨some 160, Op.move (Operand.tmp 159), none⟩,
  .blk 2 false [.one ⟨some 161, Op.fieldAddr 30 (Operand.tmp 18) 3, some (2, false)⟩,
  .one ⟨some 162, Op.load 3 (Operand.tmp 161), some (2, false)⟩,
  .one ⟨some 163, Op.move (Operand.tmp 16), some (2, false)⟩,
  .one ⟨some 164, Op.move (Operand.tmp 17), some (2, false)⟩,
  .one ⟨some 165, Op.indexAddr 26 (Operand.tmp 163) (Operand.tmp 164), some (2, false)⟩,
  .one ⟨some 166, Op.fieldAddr 30 (Operand.tmp 165) 3, some (2, false)⟩,
  .one ⟨some 167, Op.load 3 (Operand.tmp 166), some (2, false)⟩,
  .one ⟨some 168, Op.binOp BinOp.lss 3 (Operand.tmp 162) (Operand.tmp 167) 3, some (2, false)⟩] ⟨some 169, Op.pick (Operand.tmp 160) (Operand.const (Value.bool true)) (Operand.tmp 168), none⟩,
  .one ⟨some 170, Op.move (Operand.tmp 169), none⟩,
  .blk 12 false [.one ⟨some 171, Op.fieldAddr 30 (Operand.tmp 18) 3, some (12, false)⟩,
  .one ⟨some 172, Op.load 3 (Operand.tmp 171), some (12, false)⟩,
  .one ⟨some 173, Op.move (Operand.tmp 16), some (12, false)⟩,
  .one ⟨some 174, Op.move (Operand.tmp 17), some (12, false)⟩,
  .one ⟨some 175, Op.indexAddr 26 (Operand.tmp 173) (Operand.tmp 174), some (12, false)⟩,
  .one ⟨some 176, Op.fieldAddr 30 (Operand.tmp 175) 3, some (12, false)⟩,
  .one ⟨some 177, Op.load 3 (Operand.tmp 176), some (12, false)⟩,
  .one ⟨some 178, Op.binOp BinOp.eql 3 (Operand.tmp 172) (Operand.tmp 177) 3, some (12, false)⟩,
  .one ⟨some 179, Op.move (Operand.tmp 178), some (12, false)⟩,
  .blk 21 true [.one ⟨some 180, Op.fieldAddr 30 (Operand.tmp 18) 2, some (21, true)⟩,
  .one ⟨some 181, Op.load 9 (Operand.tmp 180), some (21, true)⟩,
  .one ⟨some 182, Op.move (Operand.tmp 1), some (21, true)⟩,
  .one ⟨some 183, Op.move (Operand.tmp 15), some (21, true)⟩,
  .one ⟨some 184, Op.indexAddr 23 (Operand.tmp 182) (Operand.tmp 183), some (21, true)⟩,
  .one ⟨some 185, Op.load 9 (Operand.tmp 184), some (21, true)⟩,
  .one ⟨some 186, Op.binOp BinOp.gtr 9 (Operand.tmp 181) (Operand.tmp 185) 9, some (21, true)⟩] ⟨some 187, Op.pick (Operand.tmp 179) (Operand.tmp 186) (Operand.const (Value.bool false)), some (12, false)⟩] ⟨some 188, Op.pick (Operand.tmp 170) (Operand.const (Value.bool true)) (Operand.tmp 187), none⟩]
def agoralaw37_ListsGrows_R30 : List Itm := [.one ⟨some 6, Op.assign (Operand.const (Value.bool false)), none⟩]
def agoralaw37_ListsGrows_R31 : List Itm := [.one ⟨some 189, Op.move (Operand.tmp 11), none⟩,
  .one ⟨some 190, Op.binOp BinOp.add 3 (Operand.tmp 189) (Operand.const (Value.int IntKind.i64 1)) 3, none⟩,
  .one ⟨some 11, Op.assign (Operand.tmp 190), none⟩]
def agoralaw37_ListsGrows_B7 : MCode := (.seq (.reg 28 agoralaw37_ListsGrows_R28 false) (.seq (.seq (.reg 29 agoralaw37_ListsGrows_R29 true) (.cond (Operand.tmp 188) (.seq (.reg 30 agoralaw37_ListsGrows_R30 false) .ret) .skip)) (.reg 31 agoralaw37_ListsGrows_R31 false)))
def agoralaw37_ListsGrows_R27 : List Itm := [.one ⟨some 146, Op.move (Operand.tmp 17), none⟩,
  .one ⟨some 147, Op.binOp BinOp.add 3 (Operand.tmp 146) (Operand.const (Value.int IntKind.i64 1)) 3, none⟩,
  .one ⟨some 17, Op.assign (Operand.tmp 147), none⟩]
def agoralaw37_ListsGrows_W3 : MCode := (.seq (.seq (.reg 26 agoralaw37_ListsGrows_R26 false) (.cond (Operand.tmp 145) .skip (.exit 6))) (.seq (.block 7 agoralaw37_ListsGrows_B7) (.reg 27 agoralaw37_ListsGrows_R27 false)))
def agoralaw37_ListsGrows_B6 : MCode := (.loop agoralaw37_ListsGrows_W3)
def agoralaw37_ListsGrows_B5 : MCode := (.seq (.reg 24 agoralaw37_ListsGrows_R24 false) (.seq (.reg 25 agoralaw37_ListsGrows_R25 false) (.block 6 agoralaw37_ListsGrows_B6)))
def agoralaw37_ListsGrows_R23 : List Itm := [.one ⟨some 132, Op.move (Operand.tmp 15), none⟩,
  .one ⟨some 133, Op.binOp BinOp.add 3 (Operand.tmp 132) (Operand.const (Value.int IntKind.i64 1)) 3, none⟩,
  .one ⟨some 15, Op.assign (Operand.tmp 133), none⟩]
def agoralaw37_ListsGrows_W4 : MCode := (.seq (.seq (.reg 22 agoralaw37_ListsGrows_R22 false) (.cond (Operand.tmp 131) .skip (.exit 4))) (.seq (.block 5 agoralaw37_ListsGrows_B5) (.reg 23 agoralaw37_ListsGrows_R23 false)))
def agoralaw37_ListsGrows_B4 : MCode := (.loop agoralaw37_ListsGrows_W4)
def agoralaw37_ListsGrows_R32 : List Itm := [.one ⟨some 191, Op.move (Operand.tmp 7), none⟩,
  .one ⟨some 192, Op.move (Operand.tmp 191), none⟩,
  .blk 1 true [.one ⟨some 193, Op.move (Operand.tmp 11), some (1, true)⟩,
  .one ⟨some 194, Op.move (Operand.tmp 8), some (1, true)⟩,
  .one ⟨some 195, Op.call { callee := Callee.builtin Builtin.len, args := #[Operand.tmp 194], argTypes := #[26] }, some (1, true)⟩,
  .one ⟨some 196, Op.binOp BinOp.geq 3 (Operand.tmp 193) (Operand.tmp 195) 3, some (1, true)⟩] ⟨some 197, Op.pick (Operand.tmp 192) (Operand.tmp 196) (Operand.const (Value.bool false)), none⟩,
  .one ⟨some 6, Op.assign (Operand.tmp 197), none⟩]
def agoralaw37_ListsGrows_L : MCode := (.seq (.reg 0 agoralaw37_ListsGrows_R0 false) (.seq (.reg 1 agoralaw37_ListsGrows_R1 false) (.seq (.seq (.reg 2 agoralaw37_ListsGrows_R2 false) (.cond (Operand.tmp 28) (.seq (.reg 3 agoralaw37_ListsGrows_R3 false) .ret) .skip)) (.seq (.reg 4 agoralaw37_ListsGrows_R4 false) (.seq (.reg 5 agoralaw37_ListsGrows_R5 false) (.seq (.seq (.reg 6 agoralaw37_ListsGrows_R6 false) (.block 0 agoralaw37_ListsGrows_B0)) (.seq (.seq (.reg 10 agoralaw37_ListsGrows_R10 false) (.cond (Operand.tmp 58) (.seq (.reg 11 agoralaw37_ListsGrows_R11 false) .ret) .skip)) (.seq (.reg 12 agoralaw37_ListsGrows_R12 false) (.seq (.seq (.reg 13 agoralaw37_ListsGrows_R13 false) (.block 2 agoralaw37_ListsGrows_B2)) (.seq (.seq (.reg 21 agoralaw37_ListsGrows_R21 false) (.block 4 agoralaw37_ListsGrows_B4)) (.seq (.reg 32 agoralaw37_ListsGrows_R32 false) .ret)))))))))))
def agoralaw37_ListsGrows_ks : Nat → List Nat := fun i => match i with
  | 9 => [0, 0, 0, 0, 0, 0, 0, 0, 0, 0, 2, 0]
  | 16 => [0, 0, 0, 0, 0, 0, 0, 0, 0, 0, 0, 0, 0, 0, 0, 0, 0, 0, 0, 0, 0, 0, 0, 0, 0]
  | 18 => [0, 0, 0, 0, 0, 0, 0, 0, 0, 0, 0, 0, 0, 0, 0, 0, 0, 0, 0, 3, 0]
  | 19 => [0, 0, 0, 0, 0, 0, 0, 0, 0, 0, 0, 0, 0, 0, 0, 0, 0, 0, 0, 0]
  | 29 => [0, 0, 0, 0, 0, 0, 0, 0, 0, 0, 0, 0, 0, 0, 0, 0, 0, 0, 0, 0, 0, 0, 0, 0, 0, 0, 0, 0, 0, 0, 0]
  | _ => []
theorem agoralaw37_ListsGrows_hl : Tryz.f3.body.map light = some agoralaw37_ListsGrows_L.flat := by kernel_rfl
theorem agoralaw37_ListsGrows_hk : agoralaw37_ListsGrows_L.ok = true := by kernel_rfl
theorem agoralaw37_ListsGrows_hb : Tryz.f3.body.map (codeB 198 agoralaw37_ListsGrows_ks) = some true := by kernel_rfl
theorem agoralaw37_ListsGrows_hr : Tryz.f3.results.toList = [ResultVar.tmp 6] := rfl
theorem agoralaw37_ListsGrows_hn : fnB Tryz.prog 3 = true := by kernel_rfl
theorem agoralaw37_ListsGrows_pu {args : List V} {st : List SO} {res : V} (an : Ann) (ha : args.length ≤ 198) (hres : noRef res = true) (h : wpM ⟨Tryz.prog, GW, 198, st.length⟩ an agoralaw37_ListsGrows_ks agoralaw37_ListsGrows_L (argE args 0) st (EndsP ⟨Tryz.prog, GW, 198, st.length⟩ [ResultVar.tmp 6] res st)) : FnOK Tryz.prog GW 3 args st res st :=
  fn_pure Tryz.func3 agoralaw37_ListsGrows_hr agoralaw37_ListsGrows_hl agoralaw37_ListsGrows_hk agoralaw37_ListsGrows_hb rfl agoralaw37_ListsGrows_hn an ha hres h
end Go.Proofs.YthkmfboffnhkaaaGreatDoor
