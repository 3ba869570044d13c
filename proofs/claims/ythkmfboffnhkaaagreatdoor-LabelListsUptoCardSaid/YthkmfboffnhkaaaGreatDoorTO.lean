/-
  The light code of functions: printed by wip/tools/gen.py.
-/
import Derived.Test.YthkmfboffnhkaaaGreatDoorTY2
namespace Go.Proofs.YthkmfboffnhkaaaGreatDoor
open Go Go.L1
set_option linter.all false
set_option maxRecDepth 100000
/-! agora/agoralaw34.LabelLists -/
def agoralaw34_LabelLists_R0 : List Itm := [.one ⟨some 6, Op.assign (Operand.const (Value.bool false)), none⟩]
def agoralaw34_LabelLists_R1 : List Itm := [.one ⟨some 19, Op.call { callee := Callee.value (Operand.func 22), args := #[], argTypes := #[] }, none⟩,
  .one ⟨some 7, Op.assign (Operand.tmp 19), none⟩]
def agoralaw34_LabelLists_R2 : List Itm := [.one ⟨some 20, Op.move (Operand.tmp 0), none⟩,
  .one ⟨some 21, Op.call { callee := Callee.value (Operand.func 23), args := #[Operand.tmp 20], argTypes := #[22] }, none⟩,
  .one ⟨some 22, Op.unOp UnOp.not 4 (Operand.tmp 21), none⟩,
  .one ⟨some 23, Op.move (Operand.tmp 22), none⟩,
  .blk 3 false [.one ⟨some 24, Op.move (Operand.tmp 2), some (3, false)⟩,
  .one ⟨some 25, Op.binOp BinOp.eql 9 (Operand.tmp 24) (Operand.const (Value.string { data := #[] })) 9, some (3, false)⟩] ⟨some 26, Op.pick (Operand.tmp 23) (Operand.const (Value.bool true)) (Operand.tmp 25), none⟩]
def agoralaw34_LabelLists_R3 : List Itm := [.one ⟨some 27, Op.move (Operand.tmp 7), none⟩,
  .one ⟨some 28, Op.move (Operand.tmp 27), none⟩,
  .blk 1 true [.one ⟨some 29, Op.move (Operand.tmp 0), some (1, true)⟩,
  .one ⟨some 30, Op.move (Operand.tmp 1), some (1, true)⟩,
  .one ⟨some 31, Op.call { callee := Callee.value (Operand.func 26), args := #[Operand.tmp 29, Operand.tmp 30, Operand.const (Value.string { data := #[] })], argTypes := #[22, 9, 9] }, some (1, true)⟩,
  .one ⟨some 32, Op.call { callee := Callee.builtin Builtin.len, args := #[Operand.tmp 31], argTypes := #[23] }, some (1, true)⟩,
  .one ⟨some 33, Op.binOp BinOp.eql 3 (Operand.tmp 32) (Operand.const (Value.int IntKind.i64 0)) 3, some (1, true)⟩] ⟨some 34, Op.pick (Operand.tmp 28) (Operand.tmp 33) (Operand.const (Value.bool false)), none⟩,
  .one ⟨some 6, Op.assign (Operand.tmp 34), none⟩]
def agoralaw34_LabelLists_R4 : List Itm := [.one ⟨some 36, Op.move (Operand.tmp 0), none⟩,
  .one ⟨some 37, Op.move (Operand.tmp 1), none⟩,
  .one ⟨some 38, Op.call { callee := Callee.value (Operand.func 21), args := #[Operand.tmp 36, Operand.tmp 37], argTypes := #[22, 9] }, none⟩,
  .one ⟨some 35, Op.move (Operand.tmp 38), none⟩,
  .one ⟨some 39, Op.extract (Operand.tmp 35) 0, none⟩,
  .one ⟨some 40, Op.extract (Operand.tmp 35) 1, none⟩,
  .one ⟨some 8, Op.alloc 40, none⟩,
  .one ⟨none, Op.store 40 (Operand.tmp 8) (Operand.tmp 39), none⟩,
  .one ⟨some 9, Op.assign (Operand.tmp 40), none⟩]
def agoralaw34_LabelLists_R5 : List Itm := [.one ⟨some 41, Op.move (Operand.tmp 0), none⟩,
  .one ⟨some 42, Op.move (Operand.tmp 1), none⟩,
  .one ⟨some 43, Op.move (Operand.tmp 2), none⟩,
  .one ⟨some 44, Op.call { callee := Callee.value (Operand.func 26), args := #[Operand.tmp 41, Operand.tmp 42, Operand.tmp 43], argTypes := #[22, 9, 9] }, none⟩,
  .one ⟨some 10, Op.assign (Operand.tmp 44), none⟩]
def agoralaw34_LabelLists_R6 : List Itm := [.one ⟨some 45, Op.move (Operand.tmp 9), none⟩,
  .one ⟨some 46, Op.unOp UnOp.not 4 (Operand.tmp 45), none⟩]
def agoralaw34_LabelLists_R7 : List Itm := [.one ⟨some 47, Op.move (Operand.tmp 7), none⟩,
  .one ⟨some 48, Op.move (Operand.tmp 47), none⟩,
  .blk 1 true [.one ⟨some 49, Op.move (Operand.tmp 10), some (1, true)⟩,
  .one ⟨some 50, Op.call { callee := Callee.builtin Builtin.len, args := #[Operand.tmp 49], argTypes := #[23] }, some (1, true)⟩,
  .one ⟨some 51, Op.binOp BinOp.eql 3 (Operand.tmp 50) (Operand.const (Value.int IntKind.i64 0)) 3, some (1, true)⟩] ⟨some 52, Op.pick (Operand.tmp 48) (Operand.tmp 51) (Operand.const (Value.bool false)), none⟩,
  .one ⟨some 6, Op.assign (Operand.tmp 52), none⟩]
def agoralaw34_LabelLists_R8 : List Itm := [.one ⟨some 11, Op.assign (Operand.const (Value.bool false)), none⟩]
def agoralaw34_LabelLists_R9 : List Itm := [.one ⟨some 12, Op.assign (Operand.const (Value.int IntKind.i64 0)), none⟩]
def agoralaw34_LabelLists_R10 : List Itm := [.one ⟨some 53, Op.move (Operand.tmp 12), none⟩,
  .one ⟨some 54, Op.fieldAddr 40 (Operand.tmp 8) 1, none⟩,
  .one ⟨some 55, Op.load 37 (Operand.tmp 54), none⟩,
  .one ⟨some 56, Op.call { callee := Callee.builtin Builtin.len, args := #[Operand.tmp 55], argTypes := #[37] }, none⟩,
  .one ⟨some 57, Op.binOp BinOp.lss 3 (Operand.tmp 53) (Operand.tmp 56) 3, none⟩]
def agoralaw34_LabelLists_R12 : List Itm := [.one ⟨some 60, Op.move (Operand.tmp 11), none⟩,
  .one ⟨some 61, Op.move (Operand.tmp 60), none⟩,
  .blk 1 false [.one ⟨some 62, Op.fieldAddr 40 (Operand.tmp 8) 1, some (1, false)⟩,
  .one ⟨some 63, Op.load 37 (Operand.tmp 62), some (1, false)⟩,
  .one ⟨some 64, Op.move (Operand.tmp 12), some (1, false)⟩,
  .one ⟨some 65, Op.indexAddr 37 (Operand.tmp 63) (Operand.tmp 64), some (1, false)⟩,
  .one ⟨some 66, Op.fieldAddr 49 (Operand.tmp 65) 3, some (1, false)⟩,
  .one ⟨some 67, Op.load 3 (Operand.tmp 66), some (1, false)⟩,
  .one ⟨some 68, Op.binOp BinOp.eql 3 (Operand.tmp 67) (Operand.const (Value.int IntKind.i64 6)) 3, some (1, false)⟩] ⟨some 69, Op.pick (Operand.tmp 61) (Operand.const (Value.bool true)) (Operand.tmp 68), none⟩,
  .one ⟨some 11, Op.assign (Operand.tmp 69), none⟩]
def agoralaw34_LabelLists_B1 : MCode := (.reg 12 agoralaw34_LabelLists_R12 false)
def agoralaw34_LabelLists_R11 : List Itm := [.one ⟨some 58, Op.move (Operand.tmp 12), none⟩,
  .one ⟨some 59, Op.binOp BinOp.add 3 (Operand.tmp 58) (Operand.const (Value.int IntKind.i64 1)) 3, none⟩,
  .one ⟨some 12, Op.assign (Operand.tmp 59), none⟩]
def agoralaw34_LabelLists_W1 : MCode := (.seq (.seq (.reg 10 agoralaw34_LabelLists_R10 false) (.cond (Operand.tmp 57) .skip (.exit 0))) (.seq (.block 1 agoralaw34_LabelLists_B1) (.reg 11 agoralaw34_LabelLists_R11 false)))
def agoralaw34_LabelLists_B0 : MCode := (.loop agoralaw34_LabelLists_W1)
def agoralaw34_LabelLists_R13 : List Itm := [.one ⟨some 13, Op.assign (Operand.const (Value.int IntKind.i64 0)), none⟩]
def agoralaw34_LabelLists_R14 : List Itm := [.one ⟨some 70, Op.move (Operand.tmp 13), none⟩,
  .one ⟨some 71, Op.move (Operand.tmp 10), none⟩,
  .one ⟨some 72, Op.call { callee := Callee.builtin Builtin.len, args := #[Operand.tmp 71], argTypes := #[23] }, none⟩,
  .one ⟨some 73, Op.binOp BinOp.lss 3 (Operand.tmp 70) (Operand.tmp 72) 3, none⟩]
def agoralaw34_LabelLists_R16 : List Itm := [.one ⟨some 14, Op.assign (Operand.const (Value.bool false)), none⟩]
def agoralaw34_LabelLists_R17 : List Itm := [.one ⟨some 15, Op.assign (Operand.const (Value.int IntKind.i64 0)), none⟩]
def agoralaw34_LabelLists_R18 : List Itm := [.one ⟨some 76, Op.move (Operand.tmp 15), none⟩,
  .one ⟨some 77, Op.fieldAddr 40 (Operand.tmp 8) 1, none⟩,
  .one ⟨some 78, Op.load 37 (Operand.tmp 77), none⟩,
  .one ⟨some 79, Op.call { callee := Callee.builtin Builtin.len, args := #[Operand.tmp 78], argTypes := #[37] }, none⟩,
  .one ⟨some 80, Op.binOp BinOp.lss 3 (Operand.tmp 76) (Operand.tmp 79) 3, none⟩]
def agoralaw34_LabelLists_R20 : List Itm := [.one ⟨some 83, Op.fieldAddr 40 (Operand.tmp 8) 1, none⟩,
  .one ⟨some 84, Op.load 37 (Operand.tmp 83), none⟩,
  .one ⟨some 85, Op.move (Operand.tmp 15), none⟩,
  .one ⟨some 86, Op.indexAddr 37 (Operand.tmp 84) (Operand.tmp 85), none⟩,
  .one ⟨some 87, Op.load 49 (Operand.tmp 86), none⟩,
  .one ⟨some 16, Op.alloc 49, none⟩,
  .one ⟨none, Op.store 49 (Operand.tmp 16) (Operand.tmp 87), none⟩]
def agoralaw34_LabelLists_R21 : List Itm := [.one ⟨some 88, Op.move (Operand.tmp 14), none⟩,
  .one ⟨some 89, Op.move (Operand.tmp 88), none⟩,
  .blk 1 false [.one ⟨some 90, Op.fieldAddr 49 (Operand.tmp 16) 3, some (1, false)⟩,
  .one ⟨some 91, Op.load 3 (Operand.tmp 90), some (1, false)⟩,
  .one ⟨some 92, Op.binOp BinOp.eql 3 (Operand.tmp 91) (Operand.const (Value.int IntKind.i64 17)) 3, some (1, false)⟩,
  .one ⟨some 93, Op.move (Operand.tmp 92), some (1, false)⟩,
  .blk 5 true [.one ⟨some 94, Op.fieldAddr 49 (Operand.tmp 16) 10, some (5, true)⟩,
  .one ⟨some 95, Op.load 9 (Operand.tmp 94), some (5, true)⟩,
  .one ⟨some 96, Op.move (Operand.tmp 10), some (5, true)⟩,
  .one ⟨some 97, Op.move (Operand.tmp 13), some (5, true)⟩,
  .one ⟨some 98, Op.indexAddr 23 (Operand.tmp 96) (Operand.tmp 97), some (5, true)⟩,
  .one ⟨some 99, Op.load 9 (Operand.tmp 98), some (5, true)⟩,
  .one ⟨some 100, Op.binOp BinOp.eql 9 (Operand.tmp 95) (Operand.tmp 99) 9, some (5, true)⟩] ⟨some 101, Op.pick (Operand.tmp 93) (Operand.tmp 100) (Operand.const (Value.bool false)), some (1, false)⟩,
  .one ⟨some 102, Op.move (Operand.tmp 101), some (1, false)⟩,
  .blk 14 true [.one ⟨some 103, Op.fieldAddr 49 (Operand.tmp 16) 5, some (14, true)⟩,
  .one ⟨some 104, Op.load 9 (Operand.tmp 103), some (14, true)⟩,
  .one ⟨some 105, Op.move (Operand.tmp 2), some (14, true)⟩,
  .one ⟨some 106, Op.binOp BinOp.eql 9 (Operand.tmp 104) (Operand.tmp 105) 9, some (14, true)⟩,
  .one ⟨some 107, Op.move (Operand.tmp 106), some (14, true)⟩,
  .blk 19 false [.one ⟨some 108, Op.fieldAddr 49 (Operand.tmp 16) 6, some (19, false)⟩,
  .one ⟨some 109, Op.load 9 (Operand.tmp 108), some (19, false)⟩,
  .one ⟨some 110, Op.move (Operand.tmp 2), some (19, false)⟩,
  .one ⟨some 111, Op.binOp BinOp.eql 9 (Operand.tmp 109) (Operand.tmp 110) 9, some (19, false)⟩] ⟨some 112, Op.pick (Operand.tmp 107) (Operand.const (Value.bool true)) (Operand.tmp 111), some (14, true)⟩] ⟨some 113, Op.pick (Operand.tmp 102) (Operand.tmp 112) (Operand.const (Value.bool false)), some (1, false)⟩] ⟨some 114, Op.pick (Operand.tmp 89) (Operand.const (Value.bool true)) (Operand.tmp 113), none⟩,
  .one ⟨some 14, Op.assign (Operand.tmp 114), none⟩]
def agoralaw34_LabelLists_B5 : MCode := (.seq (.reg 20 agoralaw34_LabelLists_R20 false) (.reg 21 agoralaw34_LabelLists_R21 true))
def agoralaw34_LabelLists_R19 : List Itm := [.one ⟨some 81, Op.move (Operand.tmp 15), none⟩,
  .one ⟨some 82, Op.binOp BinOp.add 3 (Operand.tmp 81) (Operand.const (Value.int IntKind.i64 1)) 3, none⟩,
  .one ⟨some 15, Op.assign (Operand.tmp 82), none⟩]
def agoralaw34_LabelLists_W2 : MCode := (.seq (.seq (.reg 18 agoralaw34_LabelLists_R18 false) (.cond (Operand.tmp 80) .skip (.exit 4))) (.seq (.block 5 agoralaw34_LabelLists_B5) (.reg 19 agoralaw34_LabelLists_R19 false)))
def agoralaw34_LabelLists_B4 : MCode := (.loop agoralaw34_LabelLists_W2)
def agoralaw34_LabelLists_R22 : List Itm := [.one ⟨some 115, Op.move (Operand.tmp 14), none⟩,
  .one ⟨some 116, Op.unOp UnOp.not 4 (Operand.tmp 115), none⟩,
  .one ⟨some 117, Op.move (Operand.tmp 116), none⟩,
  .blk 2 false [.one ⟨some 118, Op.move (Operand.tmp 13), some (2, false)⟩,
  .one ⟨some 119, Op.binOp BinOp.gtr 3 (Operand.tmp 118) (Operand.const (Value.int IntKind.i64 0)) 3, some (2, false)⟩,
  .one ⟨some 120, Op.move (Operand.tmp 119), some (2, false)⟩,
  .blk 5 true [.one ⟨some 121, Op.move (Operand.tmp 10), some (5, true)⟩,
  .one ⟨some 122, Op.move (Operand.tmp 13), some (5, true)⟩,
  .one ⟨some 123, Op.binOp BinOp.sub 3 (Operand.tmp 122) (Operand.const (Value.int IntKind.i64 1)) 3, some (5, true)⟩,
  .one ⟨some 124, Op.indexAddr 23 (Operand.tmp 121) (Operand.tmp 123), some (5, true)⟩,
  .one ⟨some 125, Op.load 9 (Operand.tmp 124), some (5, true)⟩,
  .one ⟨some 126, Op.move (Operand.tmp 10), some (5, true)⟩,
  .one ⟨some 127, Op.move (Operand.tmp 13), some (5, true)⟩,
  .one ⟨some 128, Op.indexAddr 23 (Operand.tmp 126) (Operand.tmp 127), some (5, true)⟩,
  .one ⟨some 129, Op.load 9 (Operand.tmp 128), some (5, true)⟩,
  .one ⟨some 130, Op.binOp BinOp.geq 9 (Operand.tmp 125) (Operand.tmp 129) 9, some (5, true)⟩] ⟨some 131, Op.pick (Operand.tmp 120) (Operand.tmp 130) (Operand.const (Value.bool false)), some (2, false)⟩] ⟨some 132, Op.pick (Operand.tmp 117) (Operand.const (Value.bool true)) (Operand.tmp 131), none⟩]
def agoralaw34_LabelLists_R23 : List Itm := [.one ⟨some 6, Op.assign (Operand.const (Value.bool false)), none⟩]
def agoralaw34_LabelLists_B3 : MCode := (.seq (.reg 16 agoralaw34_LabelLists_R16 false) (.seq (.seq (.reg 17 agoralaw34_LabelLists_R17 false) (.block 4 agoralaw34_LabelLists_B4)) (.seq (.reg 22 agoralaw34_LabelLists_R22 true) (.cond (Operand.tmp 132) (.seq (.reg 23 agoralaw34_LabelLists_R23 false) .ret) .skip))))
def agoralaw34_LabelLists_R15 : List Itm := [.one ⟨some 74, Op.move (Operand.tmp 13), none⟩,
  .one ⟨some 75, Op.binOp BinOp.add 3 (Operand.tmp 74) (Operand.const (Value.int IntKind.i64 1)) 3, none⟩,
  .one ⟨some 13, Op.assign (Operand.tmp 75), none⟩]
def agoralaw34_LabelLists_W3 : MCode := (.seq (.seq (.reg 14 agoralaw34_LabelLists_R14 false) (.cond (Operand.tmp 73) .skip (.exit 2))) (.seq (.block 3 agoralaw34_LabelLists_B3) (.reg 15 agoralaw34_LabelLists_R15 false)))
def agoralaw34_LabelLists_B2 : MCode := (.loop agoralaw34_LabelLists_W3)
def agoralaw34_LabelLists_R24 : List Itm := [.one ⟨some 17, Op.assign (Operand.const (Value.int IntKind.i64 0)), none⟩]
def agoralaw34_LabelLists_R25 : List Itm := [.one ⟨some 133, Op.move (Operand.tmp 17), none⟩,
  .one ⟨some 134, Op.fieldAddr 40 (Operand.tmp 8) 1, none⟩,
  .one ⟨some 135, Op.load 37 (Operand.tmp 134), none⟩,
  .one ⟨some 136, Op.call { callee := Callee.builtin Builtin.len, args := #[Operand.tmp 135], argTypes := #[37] }, none⟩,
  .one ⟨some 137, Op.binOp BinOp.lss 3 (Operand.tmp 133) (Operand.tmp 136) 3, none⟩]
def agoralaw34_LabelLists_R27 : List Itm := [.one ⟨some 140, Op.fieldAddr 40 (Operand.tmp 8) 1, none⟩,
  .one ⟨some 141, Op.load 37 (Operand.tmp 140), none⟩,
  .one ⟨some 142, Op.move (Operand.tmp 17), none⟩,
  .one ⟨some 143, Op.indexAddr 37 (Operand.tmp 141) (Operand.tmp 142), none⟩,
  .one ⟨some 144, Op.load 49 (Operand.tmp 143), none⟩,
  .one ⟨some 18, Op.alloc 49, none⟩,
  .one ⟨none, Op.store 49 (Operand.tmp 18) (Operand.tmp 144), none⟩]
def agoralaw34_LabelLists_R28 : List Itm := [.one ⟨some 145, Op.move (Operand.tmp 11), none⟩,
  .one ⟨some 146, Op.unOp UnOp.not 4 (Operand.tmp 145), none⟩,
  .one ⟨some 147, Op.move (Operand.tmp 146), none⟩,
  .blk 2 true [.one ⟨some 148, Op.fieldAddr 49 (Operand.tmp 18) 3, some (2, true)⟩,
  .one ⟨some 149, Op.load 3 (Operand.tmp 148), some (2, true)⟩,
  .one ⟨some 150, Op.binOp BinOp.eql 3 (Operand.tmp 149) (Operand.const (Value.int IntKind.i64 17)) 3, some (2, true)⟩] ⟨some 151, Op.pick (Operand.tmp 147) (Operand.tmp 150) (Operand.const (Value.bool false)), none⟩,
  .one ⟨some 152, Op.move (Operand.tmp 151), none⟩,
  .blk 7 true [.one ⟨some 153, Op.fieldAddr 49 (Operand.tmp 18) 5, some (7, true)⟩,
  .one ⟨some 154, Op.load 9 (Operand.tmp 153), some (7, true)⟩,
  .one ⟨some 155, Op.move (Operand.tmp 2), some (7, true)⟩,
  .one ⟨some 156, Op.binOp BinOp.eql 9 (Operand.tmp 154) (Operand.tmp 155) 9, some (7, true)⟩,
  .one ⟨some 157, Op.move (Operand.tmp 156), some (7, true)⟩,
  .blk 12 false [.one ⟨some 158, Op.fieldAddr 49 (Operand.tmp 18) 6, some (12, false)⟩,
  .one ⟨some 159, Op.load 9 (Operand.tmp 158), some (12, false)⟩,
  .one ⟨some 160, Op.move (Operand.tmp 2), some (12, false)⟩,
  .one ⟨some 161, Op.binOp BinOp.eql 9 (Operand.tmp 159) (Operand.tmp 160) 9, some (12, false)⟩] ⟨some 162, Op.pick (Operand.tmp 157) (Operand.const (Value.bool true)) (Operand.tmp 161), some (7, true)⟩] ⟨some 163, Op.pick (Operand.tmp 152) (Operand.tmp 162) (Operand.const (Value.bool false)), none⟩,
  .one ⟨some 164, Op.move (Operand.tmp 163), none⟩,
  .blk 19 true [.one ⟨some 165, Op.move (Operand.tmp 10), some (19, true)⟩,
  .one ⟨some 166, Op.fieldAddr 49 (Operand.tmp 18) 10, some (19, true)⟩,
  .one ⟨some 167, Op.load 9 (Operand.tmp 166), some (19, true)⟩,
  .one ⟨some 168, Op.call { callee := Callee.value (Operand.func 20), args := #[Operand.tmp 165, Operand.tmp 167], argTypes := #[23, 9] }, some (19, true)⟩,
  .one ⟨some 169, Op.unOp UnOp.not 4 (Operand.tmp 168), some (19, true)⟩] ⟨some 170, Op.pick (Operand.tmp 164) (Operand.tmp 169) (Operand.const (Value.bool false)), none⟩]
def agoralaw34_LabelLists_R29 : List Itm := [.one ⟨some 6, Op.assign (Operand.const (Value.bool false)), none⟩]
def agoralaw34_LabelLists_B7 : MCode := (.seq (.reg 27 agoralaw34_LabelLists_R27 false) (.seq (.reg 28 agoralaw34_LabelLists_R28 false) (.cond (Operand.tmp 170) (.seq (.reg 29 agoralaw34_LabelLists_R29 false) .ret) .skip)))
def agoralaw34_LabelLists_R26 : List Itm := [.one ⟨some 138, Op.move (Operand.tmp 17), none⟩,
  .one ⟨some 139, Op.binOp BinOp.add 3 (Operand.tmp 138) (Operand.const (Value.int IntKind.i64 1)) 3, none⟩,
  .one ⟨some 17, Op.assign (Operand.tmp 139), none⟩]
def agoralaw34_LabelLists_W4 : MCode := (.seq (.seq (.reg 25 agoralaw34_LabelLists_R25 false) (.cond (Operand.tmp 137) .skip (.exit 6))) (.seq (.block 7 agoralaw34_LabelLists_B7) (.reg 26 agoralaw34_LabelLists_R26 false)))
def agoralaw34_LabelLists_B6 : MCode := (.loop agoralaw34_LabelLists_W4)
def agoralaw34_LabelLists_R30 : List Itm := [.one ⟨some 171, Op.move (Operand.tmp 7), none⟩,
  .one ⟨some 6, Op.assign (Operand.tmp 171), none⟩]
def agoralaw34_LabelLists_L : MCode := (.seq (.reg 0 agoralaw34_LabelLists_R0 false) (.seq (.reg 1 agoralaw34_LabelLists_R1 false) (.seq (.seq (.reg 2 agoralaw34_LabelLists_R2 false) (.cond (Operand.tmp 26) (.seq (.reg 3 agoralaw34_LabelLists_R3 false) .ret) .skip)) (.seq (.reg 4 agoralaw34_LabelLists_R4 false) (.seq (.reg 5 agoralaw34_LabelLists_R5 false) (.seq (.seq (.reg 6 agoralaw34_LabelLists_R6 false) (.cond (Operand.tmp 46) (.seq (.reg 7 agoralaw34_LabelLists_R7 false) .ret) .skip)) (.seq (.reg 8 agoralaw34_LabelLists_R8 false) (.seq (.seq (.reg 9 agoralaw34_LabelLists_R9 false) (.block 0 agoralaw34_LabelLists_B0)) (.seq (.seq (.reg 13 agoralaw34_LabelLists_R13 false) (.block 2 agoralaw34_LabelLists_B2)) (.seq (.seq (.reg 24 agoralaw34_LabelLists_R24 false) (.block 6 agoralaw34_LabelLists_B6)) (.seq (.reg 30 agoralaw34_LabelLists_R30 false) .ret)))))))))))
def agoralaw34_LabelLists_ks : Nat → List Nat := fun i => match i with
  | 21 => [0, 0, 0, 0, 0, 0, 0, 0, 0, 0, 0, 0, 0, 0, 0, 0, 0, 0, 0, 0, 0, 0, 0, 0, 0, 0, 0, 0]
  | 22 => [0, 0, 0, 0, 0, 0, 0, 0, 0, 0, 0, 0, 0, 0, 0, 0, 0, 0]
  | _ => []
theorem agoralaw34_LabelLists_hl : Tryz.f7.body.map light = some agoralaw34_LabelLists_L.flat := by kernel_rfl
theorem agoralaw34_LabelLists_hk : agoralaw34_LabelLists_L.ok = true := by kernel_rfl
theorem agoralaw34_LabelLists_hb : Tryz.f7.body.map (codeB 172 agoralaw34_LabelLists_ks) = some true := by kernel_rfl
theorem agoralaw34_LabelLists_hr : Tryz.f7.results.toList = [ResultVar.tmp 6] := rfl
theorem agoralaw34_LabelLists_hn : fnB Tryz.prog 7 = true := by kernel_rfl
theorem agoralaw34_LabelLists_pu {args : List V} {st : List SO} {res : V} (an : Ann) (ha : args.length ≤ 172) (hres : noRef res = true) (h : wpM ⟨Tryz.prog, GW, 172, st.length⟩ an agoralaw34_LabelLists_ks agoralaw34_LabelLists_L (argE args 0) st (EndsP ⟨Tryz.prog, GW, 172, st.length⟩ [ResultVar.tmp 6] res st)) : FnOK Tryz.prog GW 7 args st res st :=
  fn_pure Tryz.func7 agoralaw34_LabelLists_hr agoralaw34_LabelLists_hl agoralaw34_LabelLists_hk agoralaw34_LabelLists_hb rfl agoralaw34_LabelLists_hn an ha hres h
end Go.Proofs.YthkmfboffnhkaaaGreatDoor
