/-
  The light code of functions: printed by wip/tools/gen.py.
-/
import Derived.Test.YthkmfboffnhkaaaGreatDoorTY
namespace Go.Proofs.YthkmfboffnhkaaaGreatDoor
open Go Go.L1
set_option linter.all false
set_option maxRecDepth 100000
/-! agora/agoralaw37.ListsAll -/
def agoralaw37_ListsAll_R0 : List Itm := [.one ⟨some 6, Op.assign (Operand.const (Value.bool false)), none⟩]
def agoralaw37_ListsAll_R1 : List Itm := [.one ⟨some 21, Op.call { callee := Callee.value (Operand.func 15), args := #[], argTypes := #[] }, none⟩,
  .one ⟨some 7, Op.assign (Operand.tmp 21), none⟩]
def agoralaw37_ListsAll_R2 : List Itm := [.one ⟨some 22, Op.move (Operand.tmp 0), none⟩,
  .one ⟨some 23, Op.call { callee := Callee.value (Operand.func 16), args := #[Operand.tmp 22], argTypes := #[22] }, none⟩,
  .one ⟨some 24, Op.unOp UnOp.not 4 (Operand.tmp 23), none⟩,
  .one ⟨some 25, Op.move (Operand.tmp 24), none⟩,
  .blk 3 false [.one ⟨some 26, Op.move (Operand.tmp 1), some (3, false)⟩,
  .one ⟨some 27, Op.call { callee := Callee.builtin Builtin.len, args := #[Operand.tmp 26], argTypes := #[23] }, some (3, false)⟩,
  .one ⟨some 28, Op.binOp BinOp.gtr 3 (Operand.tmp 27) (Operand.const (Value.int IntKind.i64 8)) 3, some (3, false)⟩] ⟨some 29, Op.pick (Operand.tmp 25) (Operand.const (Value.bool true)) (Operand.tmp 28), none⟩]
def agoralaw37_ListsAll_R3 : List Itm := [.one ⟨some 30, Op.move (Operand.tmp 7), none⟩,
  .one ⟨some 6, Op.assign (Operand.tmp 30), none⟩]
def agoralaw37_ListsAll_R4 : List Itm := [.one ⟨some 31, Op.move (Operand.tmp 0), none⟩,
  .one ⟨some 32, Op.move (Operand.tmp 1), none⟩,
  .one ⟨some 33, Op.move (Operand.tmp 2), none⟩,
  .one ⟨some 34, Op.call { callee := Callee.value (Operand.func 17), args := #[Operand.tmp 31, Operand.tmp 32, Operand.tmp 33], argTypes := #[22, 23, 3] }, none⟩,
  .one ⟨some 8, Op.assign (Operand.tmp 34), none⟩]
def agoralaw37_ListsAll_R5 : List Itm := [.one ⟨some 35, Op.move (Operand.tmp 8), none⟩,
  .one ⟨some 36, Op.call { callee := Callee.builtin Builtin.len, args := #[Operand.tmp 35], argTypes := #[26] }, none⟩,
  .one ⟨some 37, Op.makeSlice 36 (Operand.tmp 36) (Operand.tmp 36), none⟩,
  .one ⟨some 9, Op.assign (Operand.tmp 37), none⟩]
def agoralaw37_ListsAll_R6 : List Itm := [.one ⟨some 10, Op.assign (Operand.const (Value.int IntKind.i64 0)), none⟩]
def agoralaw37_ListsAll_R7 : List Itm := [.one ⟨some 38, Op.move (Operand.tmp 10), none⟩,
  .one ⟨some 39, Op.move (Operand.tmp 1), none⟩,
  .one ⟨some 40, Op.call { callee := Callee.builtin Builtin.len, args := #[Operand.tmp 39], argTypes := #[23] }, none⟩,
  .one ⟨some 41, Op.binOp BinOp.lss 3 (Operand.tmp 38) (Operand.tmp 40) 3, none⟩]
def agoralaw37_ListsAll_R9 : List Itm := [.one ⟨some 45, Op.move (Operand.tmp 0), none⟩,
  .one ⟨some 46, Op.move (Operand.tmp 1), none⟩,
  .one ⟨some 47, Op.move (Operand.tmp 10), none⟩,
  .one ⟨some 48, Op.indexAddr 23 (Operand.tmp 46) (Operand.tmp 47), none⟩,
  .one ⟨some 49, Op.load 9 (Operand.tmp 48), none⟩,
  .one ⟨some 50, Op.call { callee := Callee.value (Operand.func 21), args := #[Operand.tmp 45, Operand.tmp 49], argTypes := #[22, 9] }, none⟩,
  .one ⟨some 44, Op.move (Operand.tmp 50), none⟩,
  .one ⟨some 51, Op.extract (Operand.tmp 44) 0, none⟩,
  .one ⟨some 52, Op.extract (Operand.tmp 44) 1, none⟩,
  .one ⟨some 11, Op.alloc 40, none⟩,
  .one ⟨none, Op.store 40 (Operand.tmp 11) (Operand.tmp 51), none⟩,
  .one ⟨some 12, Op.assign (Operand.tmp 52), none⟩]
def agoralaw37_ListsAll_R10 : List Itm := [.one ⟨some 13, Op.assign (Operand.const (Value.int IntKind.i64 0)), none⟩]
def agoralaw37_ListsAll_R11 : List Itm := [.one ⟨some 53, Op.move (Operand.tmp 13), none⟩,
  .one ⟨some 54, Op.fieldAddr 40 (Operand.tmp 11) 1, none⟩,
  .one ⟨some 55, Op.load 37 (Operand.tmp 54), none⟩,
  .one ⟨some 56, Op.call { callee := Callee.builtin Builtin.len, args := #[Operand.tmp 55], argTypes := #[37] }, none⟩,
  .one ⟨some 57, Op.binOp BinOp.lss 3 (Operand.tmp 53) (Operand.tmp 56) 3, none⟩]
def agoralaw37_ListsAll_R13 : List Itm := [.one ⟨some 60, Op.fieldAddr 40 (Operand.tmp 11) 1, none⟩,
  .one ⟨some 61, Op.load 37 (Operand.tmp 60), none⟩,
  .one ⟨some 62, Op.move (Operand.tmp 13), none⟩,
  .one ⟨some 63, Op.indexAddr 37 (Operand.tmp 61) (Operand.tmp 62), none⟩,
  .one ⟨some 64, Op.load 49 (Operand.tmp 63), none⟩,
  .one ⟨some 14, Op.alloc 49, none⟩,
  .one ⟨none, Op.store 49 (Operand.tmp 14) (Operand.tmp 64), none⟩]
def agoralaw37_ListsAll_R14 : List Itm := [.one ⟨some 65, Op.fieldAddr 49 (Operand.tmp 14) 3, none⟩,
  .one ⟨some 66, Op.load 3 (Operand.tmp 65), none⟩,
  .one ⟨some 67, Op.binOp BinOp.neq 3 (Operand.tmp 66) (Operand.const (Value.int IntKind.i64 23)) 3, none⟩,
  .one ⟨some 68, Op.move (Operand.tmp 67), none⟩,
  .blk 3 false [.one ⟨some 69, Op.fieldAddr 49 (Operand.tmp 14) 14, some (3, false)⟩,
  .one ⟨some 70, Op.load 3 (Operand.tmp 69), some (3, false)⟩,
  .one ⟨some 71, Op.move (Operand.tmp 2), some (3, false)⟩,
  .one ⟨some 72, Op.binOp BinOp.leq 3 (Operand.tmp 70) (Operand.tmp 71) 3, some (3, false)⟩] ⟨some 73, Op.pick (Operand.tmp 68) (Operand.const (Value.bool true)) (Operand.tmp 72), none⟩]
def agoralaw37_ListsAll_R15 : List Itm := [.one ⟨some 15, Op.assign (Operand.const (Value.bool false)), none⟩]
def agoralaw37_ListsAll_R16 : List Itm := [.one ⟨some 74, Op.move (Operand.tmp 13), none⟩,
  .one ⟨some 75, Op.binOp BinOp.add 3 (Operand.tmp 74) (Operand.const (Value.int IntKind.i64 1)) 3, none⟩,
  .one ⟨some 16, Op.assign (Operand.tmp 75), none⟩]
def agoralaw37_ListsAll_R17 : List Itm := [.one ⟨some 76, Op.move (Operand.tmp 16), none⟩,
  .one ⟨some 77, Op.fieldAddr 40 (Operand.tmp 11) 1, none⟩,
  .one ⟨some 78, Op.load 37 (Operand.tmp 77), none⟩,
  .one ⟨some 79, Op.call { callee := Callee.builtin Builtin.len, args := #[Operand.tmp 78], argTypes := #[37] }, none⟩,
  .one ⟨some 80, Op.binOp BinOp.lss 3 (Operand.tmp 76) (Operand.tmp 79) 3, none⟩]
def agoralaw37_ListsAll_R19 : List Itm := [.one ⟨some 83, Op.move (Operand.tmp 15), none⟩,
  .one ⟨some 84, Op.move (Operand.tmp 83), none⟩,
  .blk 1 false [.one ⟨some 85, Op.fieldAddr 40 (Operand.tmp 11) 1, some (1, false)⟩,
  .one ⟨some 86, Op.load 37 (Operand.tmp 85), some (1, false)⟩,
  .one ⟨some 87, Op.move (Operand.tmp 16), some (1, false)⟩,
  .one ⟨some 88, Op.indexAddr 37 (Operand.tmp 86) (Operand.tmp 87), some (1, false)⟩,
  .one ⟨some 89, Op.fieldAddr 49 (Operand.tmp 88) 3, some (1, false)⟩,
  .one ⟨some 90, Op.load 3 (Operand.tmp 89), some (1, false)⟩,
  .one ⟨some 91, Op.binOp BinOp.eql 3 (Operand.tmp 90) (Operand.const (Value.int IntKind.i64 6)) 3, some (1, false)⟩] ⟨some 92, Op.pick (Operand.tmp 84) (Operand.const (Value.bool true)) (Operand.tmp 91), none⟩,
  .one ⟨some 15, Op.assign (Operand.tmp 92), none⟩]
def agoralaw37_ListsAll_B5 : MCode := (.reg 19 agoralaw37_ListsAll_R19 false)
def agoralaw37_ListsAll_R18 : List Itm := [.one ⟨some 81, Op.move (Operand.tmp 16), none⟩,
  .one ⟨some 82, Op.binOp BinOp.add 3 (Operand.tmp 81) (Operand.const (Value.int IntKind.i64 1)) 3, none⟩,
  .one ⟨some 16, Op.assign (Operand.tmp 82), none⟩]
def agoralaw37_ListsAll_W1 : MCode := (.seq (.seq (.reg 17 agoralaw37_ListsAll_R17 false) (.cond (Operand.tmp 80) .skip (.exit 4))) (.seq (.block 5 agoralaw37_ListsAll_B5) (.reg 18 agoralaw37_ListsAll_R18 false)))
def agoralaw37_ListsAll_B4 : MCode := (.loop agoralaw37_ListsAll_W1)
def agoralaw37_ListsAll_R20 : List Itm := [.one ⟨some 94, Op.move (Operand.tmp 8), none⟩,
  .one ⟨some 95, Op.fieldAddr 49 (Operand.tmp 14) 6, none⟩,
  .one ⟨some 96, Op.load 9 (Operand.tmp 95), none⟩,
  .one ⟨some 97, Op.call { callee := Callee.value (Operand.func 19), args := #[Operand.tmp 94, Operand.tmp 96], argTypes := #[26, 9] }, none⟩,
  .one ⟨some 93, Op.move (Operand.tmp 97), none⟩,
  .one ⟨some 98, Op.extract (Operand.tmp 93) 0, none⟩,
  .one ⟨some 99, Op.extract (Operand.tmp 93) 1, none⟩,
  .one ⟨some 17, Op.alloc 30, none⟩,
  .one ⟨none, Op.store 30 (Operand.tmp 17) (Operand.tmp 98), none⟩,
  .one ⟨some 18, Op.assign (Operand.tmp 99), none⟩]
def agoralaw37_ListsAll_R21 : List Itm := [.one ⟨some 100, Op.move (Operand.tmp 15), none⟩,
  .one ⟨some 101, Op.unOp UnOp.not 4 (Operand.tmp 100), none⟩,
  .one ⟨some 102, Op.move (Operand.tmp 101), none⟩,
  .blk 2 true [.one ⟨some 103, Op.move (Operand.tmp 18), some (2, true)⟩,
  .one ⟨some 104, Op.unOp UnOp.not 4 (Operand.tmp 103), some (2, true)⟩,
  .one ⟨some 105, Op.move (Operand.tmp 104), some (2, true)⟩,
  .blk 5 false [.one ⟨some 106, Op.fieldAddr 30 (Operand.tmp 17) 3, some (5, false)⟩,
  .one ⟨some 107, Op.load 3 (Operand.tmp 106), some (5, false)⟩,
  .one ⟨some 108, Op.fieldAddr 49 (Operand.tmp 14) 14, some (5, false)⟩,
  .one ⟨some 109, Op.load 3 (Operand.tmp 108), some (5, false)⟩,
  .one ⟨some 110, Op.binOp BinOp.lss 3 (Operand.tmp 107) (Operand.tmp 109) 3, some (5, false)⟩] ⟨some 111, Op.pick (Operand.tmp 105) (Operand.const (Value.bool true)) (Operand.tmp 110), some (2, true)⟩] ⟨some 112, Op.pick (Operand.tmp 102) (Operand.tmp 111) (Operand.const (Value.bool false)), none⟩]
def agoralaw37_ListsAll_R22 : List Itm := [.one ⟨some 6, Op.assign (Operand.const (Value.bool false)), none⟩]
def agoralaw37_ListsAll_R23 : List Itm := [.one ⟨some 19, Op.assign (Operand.const (Value.int IntKind.i64 0)), none⟩]
def agoralaw37_ListsAll_R24 : List Itm := [.one ⟨some 113, Op.move (Operand.tmp 19), none⟩,
  .one ⟨some 114, Op.move (Operand.tmp 8), none⟩,
  .one ⟨some 115, Op.call { callee := Callee.builtin Builtin.len, args := #[Operand.tmp 114], argTypes := #[26] }, none⟩,
  .one ⟨some 116, Op.binOp BinOp.lss 3 (Operand.tmp 113) (Operand.tmp 115) 3, none⟩]
def agoralaw37_ListsAll_R26 : List Itm := [.one ⟨some 119, Op.move (Operand.tmp 9), none⟩,
  .one ⟨some 120, Op.move (Operand.tmp 19), none⟩,
  .one ⟨some 121, Op.move (Operand.tmp 9), none⟩,
  .one ⟨some 122, Op.move (Operand.tmp 19), none⟩,
  .one ⟨some 123, Op.indexAddr 36 (Operand.tmp 121) (Operand.tmp 122), none⟩,
  .one ⟨some 124, Op.load 4 (Operand.tmp 123), none⟩,
  .one ⟨some 125, Op.move (Operand.tmp 124), none⟩,
  .blk 6 false [.one ⟨some 126, Op.move (Operand.tmp 8), some (6, false)⟩,
  .one ⟨some 127, Op.move (Operand.tmp 19), some (6, false)⟩,
  .one ⟨some 128, Op.indexAddr 26 (Operand.tmp 126) (Operand.tmp 127), some (6, false)⟩,
  .one ⟨some 129, Op.load 30 (Operand.tmp 128), some (6, false)⟩,
  .one ⟨some 130, Op.fieldAddr 49 (Operand.tmp 14) 6, some (6, false)⟩,
  .one ⟨some 131, Op.load 9 (Operand.tmp 130), some (6, false)⟩,
  .one ⟨some 132, Op.fieldAddr 49 (Operand.tmp 14) 10, some (6, false)⟩,
  .one ⟨some 133, Op.load 9 (Operand.tmp 132), some (6, false)⟩,
  .one ⟨some 134, Op.move (Operand.tmp 1), some (6, false)⟩,
  .one ⟨some 135, Op.move (Operand.tmp 10), some (6, false)⟩,
  .one ⟨some 136, Op.indexAddr 23 (Operand.tmp 134) (Operand.tmp 135), some (6, false)⟩,
  .one ⟨some 137, Op.load 9 (Operand.tmp 136), some (6, false)⟩,
  .one ⟨some 138, Op.fieldAddr 49 (Operand.tmp 14) 14, some (6, false)⟩,
  .one ⟨some 139, Op.load 3 (Operand.tmp 138), some (6, false)⟩,
  .one ⟨some 140, Op.build 30 #[(0, Operand.tmp 131), (1, Operand.tmp 133), (2, Operand.tmp 137), (3, Operand.tmp 139)], some (6, false)⟩,
  .one ⟨some 141, Op.binOp BinOp.eql 30 (Operand.tmp 129) (Operand.tmp 140) 30, some (6, false)⟩] ⟨some 142, Op.pick (Operand.tmp 125) (Operand.const (Value.bool true)) (Operand.tmp 141), none⟩,
  .one ⟨some 143, Op.indexAddr 36 (Operand.tmp 119) (Operand.tmp 120), none⟩,
  .one ⟨none, Op.store 4 (Operand.tmp 143) (Operand.tmp 142), none⟩]
def agoralaw37_ListsAll_B7 : MCode := (.reg 26 agoralaw37_ListsAll_R26 true)
def agoralaw37_ListsAll_R25 : List Itm := [.one ⟨some 117, Op.move (Operand.tmp 19), none⟩,
  .one ⟨some 118, Op.binOp BinOp.add 3 (Operand.tmp 117) (Operand.const (Value.int IntKind.i64 1)) 3, none⟩,
  .one ⟨some 19, Op.assign (Operand.tmp 118), none⟩]
def agoralaw37_ListsAll_W2 : MCode := (.seq (.seq (.reg 24 agoralaw37_ListsAll_R24 false) (.cond (Operand.tmp 116) .skip (.exit 6))) (.seq (.block 7 agoralaw37_ListsAll_B7) (.reg 25 agoralaw37_ListsAll_R25 false)))
def agoralaw37_ListsAll_B6 : MCode := (.loop agoralaw37_ListsAll_W2)
def agoralaw37_ListsAll_B3 : MCode := (.seq (.reg 13 agoralaw37_ListsAll_R13 false) (.seq (.seq (.reg 14 agoralaw37_ListsAll_R14 false) (.cond (Operand.tmp 73) (.exit 3) .skip)) (.seq (.reg 15 agoralaw37_ListsAll_R15 false) (.seq (.seq (.reg 16 agoralaw37_ListsAll_R16 false) (.block 4 agoralaw37_ListsAll_B4)) (.seq (.reg 20 agoralaw37_ListsAll_R20 false) (.seq (.seq (.reg 21 agoralaw37_ListsAll_R21 false) (.cond (Operand.tmp 112) (.seq (.reg 22 agoralaw37_ListsAll_R22 false) .ret) .skip)) (.seq (.reg 23 agoralaw37_ListsAll_R23 false) (.block 6 agoralaw37_ListsAll_B6))))))))
def agoralaw37_ListsAll_R12 : List Itm := [.one ⟨some 58, Op.move (Operand.tmp 13), none⟩,
  .one ⟨some 59, Op.binOp BinOp.add 3 (Operand.tmp 58) (Operand.const (Value.int IntKind.i64 1)) 3, none⟩,
  .one ⟨some 13, Op.assign (Operand.tmp 59), none⟩]
def agoralaw37_ListsAll_W3 : MCode := (.seq (.seq (.reg 11 agoralaw37_ListsAll_R11 false) (.cond (Operand.tmp 57) .skip (.exit 2))) (.seq (.block 3 agoralaw37_ListsAll_B3) (.reg 12 agoralaw37_ListsAll_R12 false)))
def agoralaw37_ListsAll_B2 : MCode := (.loop agoralaw37_ListsAll_W3)
def agoralaw37_ListsAll_B1 : MCode := (.seq (.reg 9 agoralaw37_ListsAll_R9 false) (.seq (.reg 10 agoralaw37_ListsAll_R10 false) (.block 2 agoralaw37_ListsAll_B2)))
def agoralaw37_ListsAll_R8 : List Itm := [.one ⟨some 42, Op.move (Operand.tmp 10), none⟩,
  .one ⟨some 43, Op.binOp BinOp.add 3 (Operand.tmp 42) (Operand.const (Value.int IntKind.i64 1)) 3, none⟩,
  .one ⟨some 10, Op.assign (Operand.tmp 43), none⟩]
def agoralaw37_ListsAll_W4 : MCode := (.seq (.seq (.reg 7 agoralaw37_ListsAll_R7 false) (.cond (Operand.tmp 41) .skip (.exit 0))) (.seq (.block 1 agoralaw37_ListsAll_B1) (.reg 8 agoralaw37_ListsAll_R8 false)))
def agoralaw37_ListsAll_B0 : MCode := (.loop agoralaw37_ListsAll_W4)
def agoralaw37_ListsAll_R27 : List Itm := [.one ⟨some 20, Op.assign (Operand.const (Value.int IntKind.i64 0)), none⟩]
def agoralaw37_ListsAll_R28 : List Itm := [.one ⟨some 144, Op.move (Operand.tmp 20), none⟩,
  .one ⟨some 145, Op.move (Operand.tmp 8), none⟩,
  .one ⟨some 146, Op.call { callee := Callee.builtin Builtin.len, args := #[Operand.tmp 145], argTypes := #[26] }, none⟩,
  .one ⟨some 147, Op.binOp BinOp.lss 3 (Operand.tmp 144) (Operand.tmp 146) 3, none⟩]
def agoralaw37_ListsAll_R30 : List Itm := [.one ⟨some 150, Op.move (Operand.tmp 9), none⟩,
  .one ⟨some 151, Op.move (Operand.tmp 20), none⟩,
  .one ⟨some 152, Op.indexAddr 36 (Operand.tmp 150) (Operand.tmp 151), none⟩,
  .one ⟨some 153, Op.load 4 (Operand.tmp 152), none⟩,
  .one ⟨some 154, Op.unOp UnOp.not 4 (Operand.tmp 153), none⟩]
def agoralaw37_ListsAll_R31 : List Itm := [.one ⟨some 6, Op.assign (Operand.const (Value.bool false)), none⟩]
def agoralaw37_ListsAll_B9 : MCode := (.seq (.reg 30 agoralaw37_ListsAll_R30 false) (.cond (Operand.tmp 154) (.seq (.reg 31 agoralaw37_ListsAll_R31 false) .ret) .skip))
def agoralaw37_ListsAll_R29 : List Itm := [.one ⟨some 148, Op.move (Operand.tmp 20), none⟩,
  .one ⟨some 149, Op.binOp BinOp.add 3 (Operand.tmp 148) (Operand.const (Value.int IntKind.i64 1)) 3, none⟩,
  .one ⟨some 20, Op.assign (Operand.tmp 149), none⟩]
def agoralaw37_ListsAll_W5 : MCode := (.seq (.seq (.reg 28 agoralaw37_ListsAll_R28 false) (.cond (Operand.tmp 147) .skip (.exit 8))) (.seq (.block 9 agoralaw37_ListsAll_B9) (.reg 29 agoralaw37_ListsAll_R29 false)))
def agoralaw37_ListsAll_B8 : MCode := (.loop agoralaw37_ListsAll_W5)
def agoralaw37_ListsAll_R32 : List Itm := [.one ⟨some 155, Op.move (Operand.tmp 7), none⟩,
  .one ⟨some 6, Op.assign (Operand.tmp 155), none⟩]
def agoralaw37_ListsAll_L : MCode := (.seq (.reg 0 agoralaw37_ListsAll_R0 false) (.seq (.reg 1 agoralaw37_ListsAll_R1 false) (.seq (.seq (.reg 2 agoralaw37_ListsAll_R2 false) (.cond (Operand.tmp 29) (.seq (.reg 3 agoralaw37_ListsAll_R3 false) .ret) .skip)) (.seq (.reg 4 agoralaw37_ListsAll_R4 false) (.seq (.reg 5 agoralaw37_ListsAll_R5 false) (.seq (.seq (.reg 6 agoralaw37_ListsAll_R6 false) (.block 0 agoralaw37_ListsAll_B0)) (.seq (.seq (.reg 27 agoralaw37_ListsAll_R27 false) (.block 8 agoralaw37_ListsAll_B8)) (.seq (.reg 32 agoralaw37_ListsAll_R32 false) .ret))))))))
def agoralaw37_ListsAll_ks : Nat → List Nat := fun i => match i with
  | 26 => [0, 0, 0, 0, 0, 1, 0, 0, 0, 0, 1, 0, 1, 0, 1, 0, 0, 0, 1, 0, 1, 0, 0, 0, 0, 2]
  | _ => []
theorem agoralaw37_ListsAll_hl : Tryz.f5.body.map light = some agoralaw37_ListsAll_L.flat := by kernel_rfl
theorem agoralaw37_ListsAll_hk : agoralaw37_ListsAll_L.ok = true := by kernel_rfl
theorem agoralaw37_ListsAll_hb : Tryz.f5.body.map (codeB 156 agoralaw37_ListsAll_ks) = some true := by kernel_rfl
theorem agoralaw37_ListsAll_hr : Tryz.f5.results.toList = [ResultVar.tmp 6] := rfl
theorem agoralaw37_ListsAll_hn : fnB Tryz.prog 5 = true := by kernel_rfl
theorem agoralaw37_ListsAll_pu {args : List V} {st : List SO} {res : V} (an : Ann) (ha : args.length ≤ 156) (hres : noRef res = true) (h : wpM ⟨Tryz.prog, GW, 156, st.length⟩ an agoralaw37_ListsAll_ks agoralaw37_ListsAll_L (argE args 0) st (EndsP ⟨Tryz.prog, GW, 156, st.length⟩ [ResultVar.tmp 6] res st)) : FnOK Tryz.prog GW 5 args st res st :=
  fn_pure Tryz.func5 agoralaw37_ListsAll_hr agoralaw37_ListsAll_hl agoralaw37_ListsAll_hk agoralaw37_ListsAll_hb rfl agoralaw37_ListsAll_hn an ha hres h
end Go.Proofs.YthkmfboffnhkaaaGreatDoor
