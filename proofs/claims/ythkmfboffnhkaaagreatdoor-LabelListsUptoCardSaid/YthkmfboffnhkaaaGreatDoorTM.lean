/-
  The light code of functions: printed by wip/tools/gen.py.
-/
import Derived.Test.YthkmfboffnhkaaaGreatDoorTY2
namespace Go.Proofs.YthkmfboffnhkaaaGreatDoor
open Go Go.L1
set_option linter.all false
set_option maxRecDepth 100000
/-! agora/label.Valid -/
def label_Valid_R0 : List Itm := [.one ⟨some 6, Op.assign (Operand.const (Value.slice none 0 0)), none⟩]
def label_Valid_R1 : List Itm := [.one ⟨some 15, Op.move (Operand.tmp 0), none⟩,
  .one ⟨some 16, Op.move (Operand.tmp 1), none⟩,
  .one ⟨some 17, Op.call { callee := Callee.value (Operand.func 21), args := #[Operand.tmp 15, Operand.tmp 16], argTypes := #[22, 9] }, none⟩,
  .one ⟨some 14, Op.move (Operand.tmp 17), none⟩,
  .one ⟨some 18, Op.extract (Operand.tmp 14) 0, none⟩,
  .one ⟨some 19, Op.extract (Operand.tmp 14) 1, none⟩,
  .one ⟨some 7, Op.alloc 40, none⟩,
  .one ⟨none, Op.store 40 (Operand.tmp 7) (Operand.tmp 18), none⟩,
  .one ⟨some 8, Op.assign (Operand.tmp 19), none⟩]
def label_Valid_R2 : List Itm := [.one ⟨some 20, Op.move (Operand.tmp 8), none⟩,
  .one ⟨some 21, Op.unOp UnOp.not 4 (Operand.tmp 20), none⟩,
  .one ⟨some 22, Op.move (Operand.tmp 21), none⟩,
  .blk 2 false [.one ⟨some 23, Op.move (Operand.tmp 2), some (2, false)⟩,
  .one ⟨some 24, Op.binOp BinOp.eql 9 (Operand.tmp 23) (Operand.const (Value.string { data := #[] })) 9, some (2, false)⟩] ⟨some 25, Op.pick (Operand.tmp 22) (Operand.const (Value.bool true)) (Operand.tmp 24), none⟩]
def label_Valid_R3 : List Itm := [.one ⟨some 6, Op.assign (Operand.const (Value.slice none 0 0)), none⟩]
def label_Valid_R4 : List Itm := [.one ⟨some 26, Op.makeMap 118 none, none⟩,
  .one ⟨some 9, Op.assign (Operand.tmp 26), none⟩]
def label_Valid_R5 : List Itm := [.one ⟨some 27, Op.fieldAddr 40 (Operand.tmp 7) 1, none⟩,
  .one ⟨some 28, Op.load 37 (Operand.tmp 27), none⟩,
  .one ⟨some 29, Op.call { callee := Callee.builtin Builtin.len, args := #[Operand.tmp 28], argTypes := #[37] }, none⟩,
  .one ⟨some 30, Op.move (Operand.const (Value.int IntKind.i64 0)), none⟩]
def label_Valid_R6 : List Itm := [.one ⟨some 31, Op.binOp BinOp.lss 3 (Operand.tmp 30) (Operand.tmp 29) 3, none⟩]
def label_Valid_R7 : List Itm := [.one ⟨some 32, Op.move (Operand.tmp 30), none⟩,
  .one ⟨some 33, Op.indexAddr 37 (Operand.tmp 28) (Operand.tmp 30), none⟩,
  .one ⟨some 34, Op.load 49 (Operand.tmp 33), none⟩,
  .one ⟨some 11, Op.alloc 49, none⟩,
  .one ⟨some 10, Op.assign (Operand.tmp 32), none⟩,
  .one ⟨none, Op.store 49 (Operand.tmp 11) (Operand.tmp 34), none⟩]
def label_Valid_R8 : List Itm := [.one ⟨some 35, Op.fieldAddr 49 (Operand.tmp 11) 3, none⟩,
  .one ⟨some 36, Op.load 3 (Operand.tmp 35), none⟩]
def label_Valid_R9 : List Itm := [.one ⟨some 38, Op.binOp BinOp.eql 3 (Operand.tmp 36) (Operand.const (Value.int IntKind.i64 17)) 3, none⟩,
  .one ⟨some 37, Op.assign (Operand.tmp 38), none⟩]
def label_Valid_R10 : List Itm := [.one ⟨some 39, Op.fieldAddr 49 (Operand.tmp 11) 5, none⟩,
  .one ⟨some 40, Op.load 9 (Operand.tmp 39), none⟩,
  .one ⟨some 41, Op.move (Operand.tmp 2), none⟩,
  .one ⟨some 42, Op.binOp BinOp.eql 9 (Operand.tmp 40) (Operand.tmp 41) 9, none⟩,
  .one ⟨some 43, Op.move (Operand.tmp 42), none⟩,
  .blk 4 false [.one ⟨some 44, Op.fieldAddr 49 (Operand.tmp 11) 6, some (4, false)⟩,
  .one ⟨some 45, Op.load 9 (Operand.tmp 44), some (4, false)⟩,
  .one ⟨some 46, Op.move (Operand.tmp 2), some (4, false)⟩,
  .one ⟨some 47, Op.binOp BinOp.eql 9 (Operand.tmp 45) (Operand.tmp 46) 9, some (4, false)⟩] ⟨some 48, Op.pick (Operand.tmp 43) (Operand.const (Value.bool true)) (Operand.tmp 47), none⟩]
def label_Valid_R11 : List Itm := [.one ⟨some 49, Op.move (Operand.tmp 9), none⟩,
  .one ⟨some 50, Op.move (Operand.tmp 10), none⟩,
  .one ⟨some 51, Op.fieldAddr 49 (Operand.tmp 11) 10, none⟩,
  .one ⟨some 52, Op.load 9 (Operand.tmp 51), none⟩,
  .one ⟨none, Op.mapUpdate 118 (Operand.tmp 49) (Operand.tmp 50) (Operand.tmp 52), none⟩]
def label_Valid_R12 : List Itm := [.one ⟨some 54, Op.binOp BinOp.eql 3 (Operand.tmp 36) (Operand.const (Value.int IntKind.i64 6)) 3, none⟩,
  .one ⟨some 53, Op.assign (Operand.tmp 54), none⟩]
def label_Valid_R13 : List Itm := [.one ⟨some 56, Op.load 40 (Operand.tmp 7), none⟩,
  .one ⟨some 57, Op.fieldAddr 49 (Operand.tmp 11) 5, none⟩,
  .one ⟨some 58, Op.load 9 (Operand.tmp 57), none⟩,
  .one ⟨some 59, Op.call { callee := Callee.value (Operand.func 45), args := #[Operand.tmp 56, Operand.tmp 58], argTypes := #[40, 9] }, none⟩,
  .one ⟨some 55, Op.move (Operand.tmp 59), none⟩,
  .one ⟨some 60, Op.extract (Operand.tmp 55) 0, none⟩,
  .one ⟨some 61, Op.extract (Operand.tmp 55) 1, none⟩,
  .one ⟨some 12, Op.assign (Operand.tmp 60), none⟩,
  .one ⟨some 13, Op.assign (Operand.tmp 61), none⟩]
def label_Valid_R14 : List Itm := [.one ⟨some 62, Op.move (Operand.tmp 13), none⟩,
  .one ⟨some 63, Op.move (Operand.tmp 62), none⟩,
  .blk 1 true [.one ⟨some 64, Op.move (Operand.tmp 12), some (1, true)⟩,
  .one ⟨some 65, Op.move (Operand.tmp 10), some (1, true)⟩,
  .one ⟨some 66, Op.binOp BinOp.lss 3 (Operand.tmp 64) (Operand.tmp 65) 3, some (1, true)⟩] ⟨some 67, Op.pick (Operand.tmp 63) (Operand.tmp 66) (Operand.const (Value.bool false)), none⟩]
def label_Valid_R15 : List Itm := [.one ⟨some 68, Op.move (Operand.tmp 9), none⟩,
  .one ⟨some 69, Op.move (Operand.tmp 12), none⟩,
  .one ⟨none, Op.call { callee := Callee.builtin Builtin.delete, args := #[Operand.tmp 68, Operand.tmp 69], argTypes := #[118, 3] }, none⟩]
def label_Valid_B2 : MCode := (.seq (.reg 9 label_Valid_R9 false) (.cond (Operand.tmp 37) (.seq (.reg 10 label_Valid_R10 false) (.cond (Operand.tmp 48) (.reg 11 label_Valid_R11 false) .skip)) (.seq (.reg 12 label_Valid_R12 false) (.cond (Operand.tmp 53) (.seq (.reg 13 label_Valid_R13 false) (.seq (.reg 14 label_Valid_R14 false) (.cond (Operand.tmp 67) (.reg 15 label_Valid_R15 false) .skip))) .skip))))
def label_Valid_B1 : MCode := (.seq (.reg 7 label_Valid_R7 false) (.seq (.reg 8 label_Valid_R8 false) (.block 2 label_Valid_B2)))
def label_Valid_R16 : List Itm := [.one ⟨some 70, Op.binOp BinOp.add 3 (Operand.tmp 30) (Operand.const (Value.int IntKind.i64 1)) 3, none⟩,
  .one ⟨some 30, Op.move (Operand.tmp 70), none⟩]
def label_Valid_W1 : MCode := (.seq (.reg 6 label_Valid_R6 false) (.seq (.cond (Operand.tmp 31) .skip (.exit 0)) (.seq (.block 1 label_Valid_B1) (.reg 16 label_Valid_R16 false))))
def label_Valid_B0 : MCode := (.loop label_Valid_W1)
def label_Valid_R17 : List Itm := [.one ⟨some 71, Op.move (Operand.tmp 9), none⟩,
  .one ⟨some 72, Op.call { callee := Callee.value (Operand.func 67), args := #[Operand.tmp 71], argTypes := #[118] }, none⟩,
  .one ⟨some 73, Op.call { callee := Callee.value (Operand.func 58), args := #[Operand.tmp 72], argTypes := #[109] }, none⟩,
  .one ⟨some 74, Op.call { callee := Callee.value (Operand.func 66), args := #[Operand.tmp 73], argTypes := #[23] }, none⟩,
  .one ⟨some 6, Op.assign (Operand.tmp 74), none⟩]
def label_Valid_L : MCode := (.seq (.reg 0 label_Valid_R0 false) (.seq (.reg 1 label_Valid_R1 false) (.seq (.seq (.reg 2 label_Valid_R2 false) (.cond (Operand.tmp 25) (.seq (.reg 3 label_Valid_R3 false) .ret) .skip)) (.seq (.reg 4 label_Valid_R4 false) (.seq (.seq (.reg 5 label_Valid_R5 false) (.block 0 label_Valid_B0)) (.seq (.reg 17 label_Valid_R17 false) .ret))))))
def label_Valid_ks : Nat → List Nat := fun i => match i with
  | _ => []
theorem label_Valid_hl : Tryz.f26.body.map light = some label_Valid_L.flat := by kernel_rfl
theorem label_Valid_hk : label_Valid_L.ok = true := by kernel_rfl
theorem label_Valid_hb : Tryz.f26.body.map (codeB 75 label_Valid_ks) = some true := by kernel_rfl
theorem label_Valid_hr : Tryz.f26.results.toList = [ResultVar.tmp 6] := rfl
theorem label_Valid_hn : fnB Tryz.prog 26 = true := by kernel_rfl
theorem label_Valid_pu {args : List V} {st : List SO} {res : V} (an : Ann) (ha : args.length ≤ 75) (hres : noRef res = true) (h : wpM ⟨Tryz.prog, GW, 75, st.length⟩ an label_Valid_ks label_Valid_L (argE args 0) st (EndsP ⟨Tryz.prog, GW, 75, st.length⟩ [ResultVar.tmp 6] res st)) : FnOK Tryz.prog GW 26 args st res st :=
  fn_pure Tryz.func26 label_Valid_hr label_Valid_hl label_Valid_hk label_Valid_hb rfl label_Valid_hn an ha hres h
/-! agora/label.Of -/
def label_Of_R0 : List Itm := [.one ⟨some 6, Op.assign (Operand.const (Value.slice none 0 0)), none⟩]
def label_Of_R1 : List Itm := [.one ⟨some 16, Op.makeMap 115 none, none⟩,
  .one ⟨some 7, Op.assign (Operand.tmp 16), none⟩]
def label_Of_R2 : List Itm := [.one ⟨some 17, Op.makeMap 116 none, none⟩,
  .one ⟨some 8, Op.assign (Operand.tmp 17), none⟩]
def label_Of_R3 : List Itm := [.one ⟨some 18, Op.move (Operand.tmp 1), none⟩,
  .one ⟨some 19, Op.call { callee := Callee.builtin Builtin.len, args := #[Operand.tmp 18], argTypes := #[23] }, none⟩,
  .one ⟨some 20, Op.move (Operand.const (Value.int IntKind.i64 0)), none⟩]
def label_Of_R4 : List Itm := [.one ⟨some 21, Op.binOp BinOp.lss 3 (Operand.tmp 20) (Operand.tmp 19) 3, none⟩]
def label_Of_R5 : List Itm := [.one ⟨some 22, Op.indexAddr 23 (Operand.tmp 18) (Operand.tmp 20), none⟩,
  .one ⟨some 23, Op.load 9 (Operand.tmp 22), none⟩,
  .one ⟨some 10, Op.assign (Operand.tmp 23), none⟩]
def label_Of_R6 : List Itm := [.one ⟨some 24, Op.move (Operand.tmp 7), none⟩,
  .one ⟨some 25, Op.move (Operand.tmp 10), none⟩,
  .one ⟨some 26, Op.lookup 115 (Operand.tmp 24) (Operand.tmp 25) false, none⟩]
def label_Of_R7 : List Itm := [.one ⟨some 27, Op.move (Operand.tmp 7), none⟩,
  .one ⟨some 28, Op.move (Operand.tmp 10), none⟩,
  .one ⟨none, Op.mapUpdate 115 (Operand.tmp 27) (Operand.tmp 28) (Operand.const (Value.bool true)), none⟩]
def label_Of_R8 : List Itm := [.one ⟨some 29, Op.move (Operand.tmp 0), none⟩,
  .one ⟨some 30, Op.move (Operand.tmp 10), none⟩,
  .one ⟨some 31, Op.move (Operand.tmp 2), none⟩,
  .one ⟨some 32, Op.call { callee := Callee.value (Operand.func 26), args := #[Operand.tmp 29, Operand.tmp 30, Operand.tmp 31], argTypes := #[22, 9, 9] }, none⟩,
  .one ⟨some 33, Op.call { callee := Callee.builtin Builtin.len, args := #[Operand.tmp 32], argTypes := #[23] }, none⟩,
  .one ⟨some 34, Op.move (Operand.const (Value.int IntKind.i64 0)), none⟩]
def label_Of_R9 : List Itm := [.one ⟨some 35, Op.binOp BinOp.lss 3 (Operand.tmp 34) (Operand.tmp 33) 3, none⟩]
def label_Of_R10 : List Itm := [.one ⟨some 36, Op.indexAddr 23 (Operand.tmp 32) (Operand.tmp 34), none⟩,
  .one ⟨some 37, Op.load 9 (Operand.tmp 36), none⟩,
  .one ⟨some 12, Op.assign (Operand.tmp 37), none⟩]
def label_Of_R11 : List Itm := [.one ⟨some 38, Op.move (Operand.tmp 8), none⟩,
  .one ⟨some 39, Op.move (Operand.tmp 12), none⟩,
  .one ⟨some 40, Op.lookup 116 (Operand.tmp 38) (Operand.tmp 39) false, none⟩,
  .one ⟨some 41, Op.binOp BinOp.add 3 (Operand.tmp 40) (Operand.const (Value.int IntKind.i64 1)) 3, none⟩,
  .one ⟨none, Op.mapUpdate 116 (Operand.tmp 38) (Operand.tmp 39) (Operand.tmp 41), none⟩]
def label_Of_B3 : MCode := (.seq (.reg 10 label_Of_R10 false) (.reg 11 label_Of_R11 false))
def label_Of_R12 : List Itm := [.one ⟨some 42, Op.binOp BinOp.add 3 (Operand.tmp 34) (Operand.const (Value.int IntKind.i64 1)) 3, none⟩,
  .one ⟨some 34, Op.move (Operand.tmp 42), none⟩]
def label_Of_W1 : MCode := (.seq (.reg 9 label_Of_R9 false) (.seq (.cond (Operand.tmp 35) .skip (.exit 2)) (.seq (.block 3 label_Of_B3) (.reg 12 label_Of_R12 false))))
def label_Of_B2 : MCode := (.loop label_Of_W1)
def label_Of_B1 : MCode := (.seq (.reg 5 label_Of_R5 false) (.seq (.seq (.reg 6 label_Of_R6 false) (.cond (Operand.tmp 26) (.exit 1) .skip)) (.seq (.reg 7 label_Of_R7 false) (.seq (.reg 8 label_Of_R8 false) (.block 2 label_Of_B2)))))
def label_Of_R13 : List Itm := [.one ⟨some 43, Op.binOp BinOp.add 3 (Operand.tmp 20) (Operand.const (Value.int IntKind.i64 1)) 3, none⟩,
  .one ⟨some 20, Op.move (Operand.tmp 43), none⟩]
def label_Of_W2 : MCode := (.seq (.reg 4 label_Of_R4 false) (.seq (.cond (Operand.tmp 21) .skip (.exit 0)) (.seq (.block 1 label_Of_B1) (.reg 13 label_Of_R13 false))))
def label_Of_B0 : MCode := (.loop label_Of_W2)
def label_Of_R14 : List Itm := [.one ⟨some 13, Op.assign (Operand.const (Value.slice none 0 0)), none⟩]
def label_Of_R15 : List Itm := [.one ⟨some 44, Op.move (Operand.tmp 8), none⟩,
  .one ⟨some 45, Op.call { callee := Callee.value (Operand.func 65), args := #[Operand.tmp 44], argTypes := #[116] }, none⟩,
  .one ⟨some 46, Op.call { callee := Callee.value (Operand.func 58), args := #[Operand.tmp 45], argTypes := #[109] }, none⟩,
  .one ⟨some 47, Op.call { callee := Callee.builtin Builtin.len, args := #[Operand.tmp 46], argTypes := #[23] }, none⟩,
  .one ⟨some 48, Op.move (Operand.const (Value.int IntKind.i64 0)), none⟩]
def label_Of_R16 : List Itm := [.one ⟨some 49, Op.binOp BinOp.lss 3 (Operand.tmp 48) (Operand.tmp 47) 3, none⟩]
def label_Of_R17 : List Itm := [.one ⟨some 50, Op.indexAddr 23 (Operand.tmp 46) (Operand.tmp 48), none⟩,
  .one ⟨some 51, Op.load 9 (Operand.tmp 50), none⟩,
  .one ⟨some 15, Op.assign (Operand.tmp 51), none⟩]
def label_Of_R18 : List Itm := [.one ⟨some 52, Op.move (Operand.tmp 13), none⟩,
  .one ⟨some 53, Op.move (Operand.tmp 15), none⟩,
  .one ⟨some 54, Op.move (Operand.tmp 8), none⟩,
  .one ⟨some 55, Op.move (Operand.tmp 15), none⟩,
  .one ⟨some 56, Op.lookup 116 (Operand.tmp 54) (Operand.tmp 55) false, none⟩,
  .one ⟨some 57, Op.build 55 #[(0, Operand.tmp 53), (1, Operand.tmp 56)], none⟩,
  .one ⟨some 58, Op.buildSlice 50 1 #[(0, Operand.tmp 57)], none⟩,
  .one ⟨some 59, Op.call { callee := Callee.builtin Builtin.append, args := #[Operand.tmp 52, Operand.tmp 58], argTypes := #[50, 50] }, none⟩,
  .one ⟨some 13, Op.assign (Operand.tmp 59), none⟩]
def label_Of_B5 : MCode := (.seq (.reg 17 label_Of_R17 false) (.reg 18 label_Of_R18 false))
def label_Of_R19 : List Itm := [.one ⟨some 60, Op.binOp BinOp.add 3 (Operand.tmp 48) (Operand.const (Value.int IntKind.i64 1)) 3, none⟩,
  .one ⟨some 48, Op.move (Operand.tmp 60), none⟩]
def label_Of_W3 : MCode := (.seq (.reg 16 label_Of_R16 false) (.seq (.cond (Operand.tmp 49) .skip (.exit 4)) (.seq (.block 5 label_Of_B5) (.reg 19 label_Of_R19 false))))
def label_Of_B4 : MCode := (.loop label_Of_W3)
def label_Of_R20 : List Itm := [.one ⟨some 61, Op.move (Operand.tmp 13), none⟩,
  .one ⟨some 6, Op.assign (Operand.tmp 61), none⟩]
def label_Of_L : MCode := (.seq (.reg 0 label_Of_R0 false) (.seq (.reg 1 label_Of_R1 false) (.seq (.reg 2 label_Of_R2 false) (.seq (.seq (.reg 3 label_Of_R3 false) (.block 0 label_Of_B0)) (.seq (.reg 14 label_Of_R14 false) (.seq (.seq (.reg 15 label_Of_R15 false) (.block 4 label_Of_B4)) (.seq (.reg 20 label_Of_R20 false) .ret)))))))
def label_Of_ks : Nat → List Nat := fun i => match i with
  | _ => []
theorem label_Of_hl : Tryz.f24.body.map light = some label_Of_L.flat := by kernel_rfl
theorem label_Of_hk : label_Of_L.ok = true := by kernel_rfl
theorem label_Of_hb : Tryz.f24.body.map (codeB 62 label_Of_ks) = some true := by kernel_rfl
theorem label_Of_hr : Tryz.f24.results.toList = [ResultVar.tmp 6] := rfl
theorem label_Of_hn : fnB Tryz.prog 24 = true := by kernel_rfl
theorem label_Of_pu {args : List V} {st : List SO} {res : V} (an : Ann) (ha : args.length ≤ 62) (hres : noRef res = true) (h : wpM ⟨Tryz.prog, GW, 62, st.length⟩ an label_Of_ks label_Of_L (argE args 0) st (EndsP ⟨Tryz.prog, GW, 62, st.length⟩ [ResultVar.tmp 6] res st)) : FnOK Tryz.prog GW 24 args st res st :=
  fn_pure Tryz.func24 label_Of_hr label_Of_hl label_Of_hk label_Of_hb rfl label_Of_hn an ha hres h
/-! agora/agoraref34.Same -/
def agoraref34_Same_R0 : List Itm := [.one ⟨some 4, Op.assign (Operand.const (Value.bool false)), none⟩]
def agoraref34_Same_R1 : List Itm := [.one ⟨some 6, Op.move (Operand.tmp 0), none⟩,
  .one ⟨some 7, Op.call { callee := Callee.builtin Builtin.len, args := #[Operand.tmp 6], argTypes := #[50] }, none⟩,
  .one ⟨some 8, Op.move (Operand.tmp 1), none⟩,
  .one ⟨some 9, Op.call { callee := Callee.builtin Builtin.len, args := #[Operand.tmp 8], argTypes := #[50] }, none⟩,
  .one ⟨some 10, Op.binOp BinOp.neq 3 (Operand.tmp 7) (Operand.tmp 9) 3, none⟩]
def agoraref34_Same_R2 : List Itm := [.one ⟨some 4, Op.assign (Operand.const (Value.bool false)), none⟩]
def agoraref34_Same_R3 : List Itm := [.one ⟨some 5, Op.assign (Operand.const (Value.int IntKind.i64 0)), none⟩]
def agoraref34_Same_R4 : List Itm := [.one ⟨some 11, Op.move (Operand.tmp 5), none⟩,
  .one ⟨some 12, Op.move (Operand.tmp 0), none⟩,
  .one ⟨some 13, Op.call { callee := Callee.builtin Builtin.len, args := #[Operand.tmp 12], argTypes := #[50] }, none⟩,
  .one ⟨some 14, Op.binOp BinOp.lss 3 (Operand.tmp 11) (Operand.tmp 13) 3, none⟩]
def agoraref34_Same_R6 : List Itm := [.one ⟨some 17, Op.move (Operand.tmp 0), none⟩,
  .one ⟨some 18, Op.move (Operand.tmp 5), none⟩,
  .one ⟨some 19, Op.indexAddr 50 (Operand.tmp 17) (Operand.tmp 18), none⟩,
  .one ⟨some 20, Op.load 55 (Operand.tmp 19), none⟩,
  .one ⟨some 21, Op.move (Operand.tmp 1), none⟩,
  .one ⟨some 22, Op.move (Operand.tmp 5), none⟩,
  .one ⟨some 23, Op.indexAddr 50 (Operand.tmp 21) (Operand.tmp 22), none⟩,
  .one ⟨some 24, Op.load 55 (Operand.tmp 23), none⟩,
  .one ⟨some 25, Op.binOp BinOp.neq 55 (Operand.tmp 20) (Operand.tmp 24) 55, none⟩]
def agoraref34_Same_R7 : List Itm := [.one ⟨some 4, Op.assign (Operand.const (Value.bool false)), none⟩]
def agoraref34_Same_B1 : MCode := (.seq (.reg 6 agoraref34_Same_R6 true) (.cond (Operand.tmp 25) (.seq (.reg 7 agoraref34_Same_R7 false) .ret) .skip))
def agoraref34_Same_R5 : List Itm := [.one ⟨some 15, Op.move (Operand.tmp 5), none⟩,
  .one ⟨some 16, Op.binOp BinOp.add 3 (Operand.tmp 15) (Operand.const (Value.int IntKind.i64 1)) 3, none⟩,
  .one ⟨some 5, Op.assign (Operand.tmp 16), none⟩]
def agoraref34_Same_W1 : MCode := (.seq (.seq (.reg 4 agoraref34_Same_R4 false) (.cond (Operand.tmp 14) .skip (.exit 0))) (.seq (.block 1 agoraref34_Same_B1) (.reg 5 agoraref34_Same_R5 false)))
def agoraref34_Same_B0 : MCode := (.loop agoraref34_Same_W1)
def agoraref34_Same_R8 : List Itm := [.one ⟨some 4, Op.assign (Operand.const (Value.bool true)), none⟩]
def agoraref34_Same_L : MCode := (.seq (.reg 0 agoraref34_Same_R0 false) (.seq (.seq (.reg 1 agoraref34_Same_R1 false) (.cond (Operand.tmp 10) (.seq (.reg 2 agoraref34_Same_R2 false) .ret) .skip)) (.seq (.seq (.reg 3 agoraref34_Same_R3 false) (.block 0 agoraref34_Same_B0)) (.seq (.reg 8 agoraref34_Same_R8 false) .ret))))
def agoraref34_Same_ks : Nat → List Nat := fun i => match i with
  | 6 => [0, 0, 0, 0, 0, 0, 0, 0, 0]
  | _ => []
theorem agoraref34_Same_hl : Tryz.f25.body.map light = some agoraref34_Same_L.flat := by kernel_rfl
theorem agoraref34_Same_hk : agoraref34_Same_L.ok = true := by kernel_rfl
theorem agoraref34_Same_hb : Tryz.f25.body.map (codeB 26 agoraref34_Same_ks) = some true := by kernel_rfl
theorem agoraref34_Same_hr : Tryz.f25.results.toList = [ResultVar.tmp 4] := rfl
theorem agoraref34_Same_hn : fnB Tryz.prog 25 = true := by kernel_rfl
theorem agoraref34_Same_pu {args : List V} {st : List SO} {res : V} (an : Ann) (ha : args.length ≤ 26) (hres : noRef res = true) (h : wpM ⟨Tryz.prog, GW, 26, st.length⟩ an agoraref34_Same_ks agoraref34_Same_L (argE args 0) st (EndsP ⟨Tryz.prog, GW, 26, st.length⟩ [ResultVar.tmp 4] res st)) : FnOK Tryz.prog GW 25 args st res st :=
  fn_pure Tryz.func25 agoraref34_Same_hr agoraref34_Same_hl agoraref34_Same_hk agoraref34_Same_hb rfl agoraref34_Same_hn an ha hres h
/-! agora/agoraref21.Same -/
def agoraref21_Same_R0 : List Itm := [.one ⟨some 4, Op.assign (Operand.const (Value.bool false)), none⟩]
def agoraref21_Same_R1 : List Itm := [.one ⟨some 6, Op.move (Operand.tmp 0), none⟩,
  .one ⟨some 7, Op.call { callee := Callee.builtin Builtin.len, args := #[Operand.tmp 6], argTypes := #[23] }, none⟩,
  .one ⟨some 8, Op.move (Operand.tmp 1), none⟩,
  .one ⟨some 9, Op.call { callee := Callee.builtin Builtin.len, args := #[Operand.tmp 8], argTypes := #[23] }, none⟩,
  .one ⟨some 10, Op.binOp BinOp.neq 3 (Operand.tmp 7) (Operand.tmp 9) 3, none⟩]
def agoraref21_Same_R2 : List Itm := [.one ⟨some 4, Op.assign (Operand.const (Value.bool false)), none⟩]
def agoraref21_Same_R3 : List Itm := [.one ⟨some 5, Op.assign (Operand.const (Value.int IntKind.i64 0)), none⟩]
def agoraref21_Same_R4 : List Itm := [.one ⟨some 11, Op.move (Operand.tmp 5), none⟩,
  .one ⟨some 12, Op.move (Operand.tmp 0), none⟩,
  .one ⟨some 13, Op.call { callee := Callee.builtin Builtin.len, args := #[Operand.tmp 12], argTypes := #[23] }, none⟩,
  .one ⟨some 14, Op.binOp BinOp.lss 3 (Operand.tmp 11) (Operand.tmp 13) 3, none⟩]
def agoraref21_Same_R6 : List Itm := [.one ⟨some 17, Op.move (Operand.tmp 0), none⟩,
  .one ⟨some 18, Op.move (Operand.tmp 5), none⟩,
  .one ⟨some 19, Op.indexAddr 23 (Operand.tmp 17) (Operand.tmp 18), none⟩,
  .one ⟨some 20, Op.load 9 (Operand.tmp 19), none⟩,
  .one ⟨some 21, Op.move (Operand.tmp 1), none⟩,
  .one ⟨some 22, Op.move (Operand.tmp 5), none⟩,
  .one ⟨some 23, Op.indexAddr 23 (Operand.tmp 21) (Operand.tmp 22), none⟩,
  .one ⟨some 24, Op.load 9 (Operand.tmp 23), none⟩,
  .one ⟨some 25, Op.binOp BinOp.neq 9 (Operand.tmp 20) (Operand.tmp 24) 9, none⟩]
def agoraref21_Same_R7 : List Itm := [.one ⟨some 4, Op.assign (Operand.const (Value.bool false)), none⟩]
def agoraref21_Same_B1 : MCode := (.seq (.reg 6 agoraref21_Same_R6 true) (.cond (Operand.tmp 25) (.seq (.reg 7 agoraref21_Same_R7 false) .ret) .skip))
def agoraref21_Same_R5 : List Itm := [.one ⟨some 15, Op.move (Operand.tmp 5), none⟩,
  .one ⟨some 16, Op.binOp BinOp.add 3 (Operand.tmp 15) (Operand.const (Value.int IntKind.i64 1)) 3, none⟩,
  .one ⟨some 5, Op.assign (Operand.tmp 16), none⟩]
def agoraref21_Same_W1 : MCode := (.seq (.seq (.reg 4 agoraref21_Same_R4 false) (.cond (Operand.tmp 14) .skip (.exit 0))) (.seq (.block 1 agoraref21_Same_B1) (.reg 5 agoraref21_Same_R5 false)))
def agoraref21_Same_B0 : MCode := (.loop agoraref21_Same_W1)
def agoraref21_Same_R8 : List Itm := [.one ⟨some 4, Op.assign (Operand.const (Value.bool true)), none⟩]
def agoraref21_Same_L : MCode := (.seq (.reg 0 agoraref21_Same_R0 false) (.seq (.seq (.reg 1 agoraref21_Same_R1 false) (.cond (Operand.tmp 10) (.seq (.reg 2 agoraref21_Same_R2 false) .ret) .skip)) (.seq (.seq (.reg 3 agoraref21_Same_R3 false) (.block 0 agoraref21_Same_B0)) (.seq (.reg 8 agoraref21_Same_R8 false) .ret))))
def agoraref21_Same_ks : Nat → List Nat := fun i => match i with
  | 6 => [0, 0, 0, 0, 0, 0, 0, 0, 0]
  | _ => []
theorem agoraref21_Same_hl : Tryz.f34.body.map light = some agoraref21_Same_L.flat := by kernel_rfl
theorem agoraref21_Same_hk : agoraref21_Same_L.ok = true := by kernel_rfl
theorem agoraref21_Same_hb : Tryz.f34.body.map (codeB 26 agoraref21_Same_ks) = some true := by kernel_rfl
theorem agoraref21_Same_hr : Tryz.f34.results.toList = [ResultVar.tmp 4] := rfl
theorem agoraref21_Same_hn : fnB Tryz.prog 34 = true := by kernel_rfl
theorem agoraref21_Same_pu {args : List V} {st : List SO} {res : V} (an : Ann) (ha : args.length ≤ 26) (hres : noRef res = true) (h : wpM ⟨Tryz.prog, GW, 26, st.length⟩ an agoraref21_Same_ks agoraref21_Same_L (argE args 0) st (EndsP ⟨Tryz.prog, GW, 26, st.length⟩ [ResultVar.tmp 4] res st)) : FnOK Tryz.prog GW 34 args st res st :=
  fn_pure Tryz.func34 agoraref21_Same_hr agoraref21_Same_hl agoraref21_Same_hk agoraref21_Same_hb rfl agoraref21_Same_hn an ha hres h
/-! slices.ContainsFunc[list of agora/api.Act,agora/api.Act] -/
def slices_ContainsFunc_Lapi_Act_api_Act_R0 : List Itm := [.one ⟨some 4, Op.assign (Operand.const (Value.bool false)), none⟩]
def slices_ContainsFunc_Lapi_Act_api_Act_R1 : List Itm := [.one ⟨some 5, Op.move (Operand.tmp 0), none⟩,
  .one ⟨some 6, Op.move (Operand.tmp 1), none⟩,
  .one ⟨some 7, Op.call { callee := Callee.value (Operand.func 82), args := #[Operand.tmp 5, Operand.tmp 6], argTypes := #[37, 151] }, none⟩,
  .one ⟨some 8, Op.binOp BinOp.geq 3 (Operand.tmp 7) (Operand.const (Value.int IntKind.i64 0)) 3, none⟩,
  .one ⟨some 4, Op.assign (Operand.tmp 8), none⟩]
def slices_ContainsFunc_Lapi_Act_api_Act_L : MCode := (.seq (.reg 0 slices_ContainsFunc_Lapi_Act_api_Act_R0 false) (.seq (.reg 1 slices_ContainsFunc_Lapi_Act_api_Act_R1 false) .ret))
def slices_ContainsFunc_Lapi_Act_api_Act_ks : Nat → List Nat := fun i => match i with
  | _ => []
theorem slices_ContainsFunc_Lapi_Act_api_Act_hl : Tryz.f103.body.map light = some slices_ContainsFunc_Lapi_Act_api_Act_L.flat := by kernel_rfl
theorem slices_ContainsFunc_Lapi_Act_api_Act_hk : slices_ContainsFunc_Lapi_Act_api_Act_L.ok = true := by kernel_rfl
theorem slices_ContainsFunc_Lapi_Act_api_Act_hb : Tryz.f103.body.map (codeB 9 slices_ContainsFunc_Lapi_Act_api_Act_ks) = some true := by kernel_rfl
theorem slices_ContainsFunc_Lapi_Act_api_Act_hr : Tryz.f103.results.toList = [ResultVar.tmp 4] := rfl
theorem slices_ContainsFunc_Lapi_Act_api_Act_hn : fnB Tryz.prog 103 = true := by kernel_rfl
theorem slices_ContainsFunc_Lapi_Act_api_Act_pu {args : List V} {st : List SO} {res : V} (an : Ann) (ha : args.length ≤ 9) (hres : noRef res = true) (h : wpM ⟨Tryz.prog, GW, 9, st.length⟩ an slices_ContainsFunc_Lapi_Act_api_Act_ks slices_ContainsFunc_Lapi_Act_api_Act_L (argE args 0) st (EndsP ⟨Tryz.prog, GW, 9, st.length⟩ [ResultVar.tmp 4] res st)) : FnOK Tryz.prog GW 103 args st res st :=
  fn_pure Tryz.func103 slices_ContainsFunc_Lapi_Act_api_Act_hr slices_ContainsFunc_Lapi_Act_api_Act_hl slices_ContainsFunc_Lapi_Act_api_Act_hk slices_ContainsFunc_Lapi_Act_api_Act_hb rfl slices_ContainsFunc_Lapi_Act_api_Act_hn an ha hres h
/-! agora/label.Reports$1 -/
def label_Reports_1_R0 : List Itm := [.one ⟨some 2, Op.box 49 (Operand.tmp 0), none⟩,
  .one ⟨some 3, Op.assign (Operand.const (Value.bool false)), none⟩]
def label_Reports_1_R1 : List Itm := [.one ⟨some 4, Op.fieldAddr 49 (Operand.tmp 2) 3, none⟩,
  .one ⟨some 5, Op.load 3 (Operand.tmp 4), none⟩,
  .one ⟨some 6, Op.binOp BinOp.eql 3 (Operand.tmp 5) (Operand.const (Value.int IntKind.i64 12)) 3, none⟩,
  .one ⟨some 7, Op.move (Operand.tmp 6), none⟩,
  .blk 3 true [.one ⟨some 8, Op.fieldAddr 49 (Operand.tmp 2) 5, some (3, true)⟩,
  .one ⟨some 9, Op.load 9 (Operand.tmp 8), some (3, true)⟩,
  .one ⟨some 10, Op.load 9 (Operand.tmp 1), some (3, true)⟩,
  .one ⟨some 11, Op.binOp BinOp.eql 9 (Operand.tmp 9) (Operand.tmp 10) 9, some (3, true)⟩] ⟨some 12, Op.pick (Operand.tmp 7) (Operand.tmp 11) (Operand.const (Value.bool false)), none⟩,
  .one ⟨some 3, Op.assign (Operand.tmp 12), none⟩]
def label_Reports_1_L : MCode := (.seq (.reg 0 label_Reports_1_R0 false) (.seq (.reg 1 label_Reports_1_R1 false) .ret))
def label_Reports_1_ks : Nat → List Nat := fun i => match i with
  | _ => []
theorem label_Reports_1_hl : Tryz.f104.body.map light = some label_Reports_1_L.flat := by kernel_rfl
theorem label_Reports_1_hk : label_Reports_1_L.ok = true := by kernel_rfl
theorem label_Reports_1_hb : Tryz.f104.body.map (codeB 13 label_Reports_1_ks) = some true := by kernel_rfl
theorem label_Reports_1_hr : Tryz.f104.results.toList = [ResultVar.tmp 3] := rfl
theorem label_Reports_1_hn : fnB Tryz.prog 104 = true := by kernel_rfl
theorem label_Reports_1_pu {args : List V} {st : List SO} {res : V} (an : Ann) (ha : args.length ≤ 13) (hres : noRef res = true) (h : wpM ⟨Tryz.prog, GW, 13, st.length⟩ an label_Reports_1_ks label_Reports_1_L (argE args 0) st (EndsP ⟨Tryz.prog, GW, 13, st.length⟩ [ResultVar.tmp 3] res st)) : FnOK Tryz.prog GW 104 args st res st :=
  fn_pure Tryz.func104 label_Reports_1_hr label_Reports_1_hl label_Reports_1_hk label_Reports_1_hb rfl label_Reports_1_hn an ha hres h
/-! agora/label.Reports -/
def label_Reports_R0 : List Itm := [.one ⟨some 3, Op.box 9 (Operand.tmp 1), none⟩,
  .one ⟨some 4, Op.assign (Operand.const (Value.int IntKind.i64 0)), none⟩]
def label_Reports_R1 : List Itm := [.one ⟨some 8, Op.makeMap 115 none, none⟩,
  .one ⟨some 5, Op.assign (Operand.tmp 8), none⟩]
def label_Reports_R2 : List Itm := [.one ⟨some 9, Op.move (Operand.tmp 0), none⟩,
  .one ⟨some 10, Op.call { callee := Callee.builtin Builtin.len, args := #[Operand.tmp 9], argTypes := #[22] }, none⟩,
  .one ⟨some 11, Op.move (Operand.const (Value.int IntKind.i64 0)), none⟩]
def label_Reports_R3 : List Itm := [.one ⟨some 12, Op.binOp BinOp.lss 3 (Operand.tmp 11) (Operand.tmp 10) 3, none⟩]
def label_Reports_R4 : List Itm := [.one ⟨some 13, Op.indexAddr 22 (Operand.tmp 9) (Operand.tmp 11), none⟩,
  .one ⟨some 14, Op.load 40 (Operand.tmp 13), none⟩,
  .one ⟨some 7, Op.alloc 40, none⟩,
  .one ⟨none, Op.store 40 (Operand.tmp 7) (Operand.tmp 14), none⟩]
def label_Reports_R5 : List Itm := [.one ⟨some 15, Op.load 9 (Operand.tmp 3), none⟩,
  .one ⟨some 16, Op.binOp BinOp.neq 9 (Operand.tmp 15) (Operand.const (Value.string { data := #[] })) 9, none⟩,
  .one ⟨some 17, Op.move (Operand.tmp 16), none⟩,
  .blk 2 true [.one ⟨some 18, Op.fieldAddr 40 (Operand.tmp 7) 1, some (2, true)⟩,
  .one ⟨some 19, Op.load 37 (Operand.tmp 18), some (2, true)⟩,
  .one ⟨some 20, Op.makeFunc (Fn.func 104) #[] #[Operand.tmp 3], some (2, true)⟩,
  .one ⟨some 21, Op.call { callee := Callee.value (Operand.func 103), args := #[Operand.tmp 19, Operand.tmp 20], argTypes := #[37, 151] }, some (2, true)⟩] ⟨some 22, Op.pick (Operand.tmp 17) (Operand.tmp 21) (Operand.const (Value.bool false)), none⟩]
def label_Reports_R6 : List Itm := [.one ⟨some 23, Op.move (Operand.tmp 5), none⟩,
  .one ⟨some 24, Op.fieldAddr 40 (Operand.tmp 7) 0, none⟩,
  .one ⟨some 25, Op.load 9 (Operand.tmp 24), none⟩,
  .one ⟨none, Op.mapUpdate 115 (Operand.tmp 23) (Operand.tmp 25) (Operand.const (Value.bool true)), none⟩]
def label_Reports_B1 : MCode := (.seq (.reg 4 label_Reports_R4 false) (.seq (.reg 5 label_Reports_R5 false) (.cond (Operand.tmp 22) (.reg 6 label_Reports_R6 false) .skip)))
def label_Reports_R7 : List Itm := [.one ⟨some 26, Op.binOp BinOp.add 3 (Operand.tmp 11) (Operand.const (Value.int IntKind.i64 1)) 3, none⟩,
  .one ⟨some 11, Op.move (Operand.tmp 26), none⟩]
def label_Reports_W1 : MCode := (.seq (.reg 3 label_Reports_R3 false) (.seq (.cond (Operand.tmp 12) .skip (.exit 0)) (.seq (.block 1 label_Reports_B1) (.reg 7 label_Reports_R7 false))))
def label_Reports_B0 : MCode := (.loop label_Reports_W1)
def label_Reports_R8 : List Itm := [.one ⟨some 27, Op.move (Operand.tmp 5), none⟩,
  .one ⟨some 28, Op.call { callee := Callee.builtin Builtin.len, args := #[Operand.tmp 27], argTypes := #[115] }, none⟩,
  .one ⟨some 4, Op.assign (Operand.tmp 28), none⟩]
def label_Reports_L : MCode := (.seq (.reg 0 label_Reports_R0 false) (.seq (.reg 1 label_Reports_R1 false) (.seq (.seq (.reg 2 label_Reports_R2 false) (.block 0 label_Reports_B0)) (.seq (.reg 8 label_Reports_R8 false) .ret))))
def label_Reports_ks : Nat → List Nat := fun i => match i with
  | _ => []
theorem label_Reports_hl : Tryz.f64.body.map light = some label_Reports_L.flat := by kernel_rfl
theorem label_Reports_hk : label_Reports_L.ok = true := by kernel_rfl
theorem label_Reports_hb : Tryz.f64.body.map (codeB 29 label_Reports_ks) = some true := by kernel_rfl
theorem label_Reports_hr : Tryz.f64.results.toList = [ResultVar.tmp 4] := rfl
theorem label_Reports_hn : fnB Tryz.prog 64 = true := by kernel_rfl
theorem label_Reports_pu {args : List V} {st : List SO} {res : V} (an : Ann) (ha : args.length ≤ 29) (hres : noRef res = true) (h : wpM ⟨Tryz.prog, GW, 29, st.length⟩ an label_Reports_ks label_Reports_L (argE args 0) st (EndsP ⟨Tryz.prog, GW, 29, st.length⟩ [ResultVar.tmp 4] res st)) : FnOK Tryz.prog GW 64 args st res st :=
  fn_pure Tryz.func64 label_Reports_hr label_Reports_hl label_Reports_hk label_Reports_hb rfl label_Reports_hn an ha hres h
/-! agora/agoralaw34.small -/
def agoralaw34_small_R0 : List Itm := [.one ⟨some 0, Op.assign (Operand.const (Value.bool false)), none⟩]
def agoralaw34_small_R1 : List Itm := [.one ⟨some 1, Op.assign (Operand.const (Value.string { data := #[48, 48, 48, 48, 48, 48, 48, 48, 48, 48, 48, 48, 48, 48, 97, 49] })), none⟩]
def agoralaw34_small_R2 : List Itm := [.one ⟨some 2, Op.assign (Operand.const (Value.string { data := #[48, 48, 48, 48, 48, 48, 48, 48, 48, 48, 48, 48, 48, 48, 98, 50] })), none⟩]
def agoralaw34_small_R3 : List Itm := [.one ⟨some 5, Op.move (Operand.tmp 1), none⟩,
  .one ⟨some 6, Op.move (Operand.tmp 2), none⟩,
  .one ⟨some 7, Op.build 49 #[(3, Operand.const (Value.int IntKind.i64 17)), (6, Operand.tmp 6), (10, Operand.const (Value.string { data := #[115, 112, 97, 109] }))], none⟩,
  .one ⟨some 8, Op.move (Operand.tmp 2), none⟩,
  .one ⟨some 9, Op.build 49 #[(3, Operand.const (Value.int IntKind.i64 17)), (6, Operand.tmp 8), (10, Operand.const (Value.string { data := #[98, 111, 116] }))], none⟩,
  .one ⟨some 10, Op.build 49 #[(3, Operand.const (Value.int IntKind.i64 12)), (5, Operand.const (Value.string { data := #[120] }))], none⟩,
  .one ⟨some 11, Op.buildSlice 37 3 #[(0, Operand.tmp 7), (1, Operand.tmp 9), (2, Operand.tmp 10)], none⟩,
  .one ⟨some 12, Op.build 40 #[(0, Operand.tmp 5), (1, Operand.tmp 11)], none⟩,
  .one ⟨some 3, Op.alloc 40, none⟩,
  .one ⟨none, Op.store 40 (Operand.tmp 3) (Operand.tmp 12), none⟩]
def agoralaw34_small_R4 : List Itm := [.one ⟨some 13, Op.load 40 (Operand.tmp 3), none⟩,
  .one ⟨some 14, Op.buildSlice 22 1 #[(0, Operand.tmp 13)], none⟩,
  .one ⟨some 15, Op.move (Operand.tmp 1), none⟩,
  .one ⟨some 16, Op.move (Operand.tmp 1), none⟩,
  .one ⟨some 17, Op.buildSlice 23 2 #[(0, Operand.tmp 15), (1, Operand.tmp 16)], none⟩,
  .one ⟨some 18, Op.move (Operand.tmp 2), none⟩,
  .one ⟨some 19, Op.call { callee := Callee.value (Operand.func 24), args := #[Operand.tmp 14, Operand.tmp 17, Operand.tmp 18], argTypes := #[22, 23, 9] }, none⟩,
  .one ⟨some 4, Op.assign (Operand.tmp 19), none⟩]
def agoralaw34_small_R5 : List Itm := [.one ⟨some 20, Op.move (Operand.tmp 1), none⟩,
  .one ⟨some 21, Op.move (Operand.tmp 2), none⟩,
  .one ⟨some 22, Op.call { callee := Callee.value (Operand.func 26), args := #[Operand.const (Value.slice none 0 0), Operand.tmp 20, Operand.tmp 21], argTypes := #[22, 9, 9] }, none⟩,
  .one ⟨some 23, Op.call { callee := Callee.builtin Builtin.len, args := #[Operand.tmp 22], argTypes := #[23] }, none⟩,
  .one ⟨some 24, Op.binOp BinOp.eql 3 (Operand.tmp 23) (Operand.const (Value.int IntKind.i64 0)) 3, none⟩,
  .one ⟨some 25, Op.move (Operand.tmp 24), none⟩,
  .blk 5 true [.one ⟨some 26, Op.move (Operand.tmp 1), some (5, true)⟩,
  .one ⟨some 27, Op.buildSlice 23 1 #[(0, Operand.tmp 26)], some (5, true)⟩,
  .one ⟨some 28, Op.move (Operand.tmp 2), some (5, true)⟩,
  .one ⟨some 29, Op.call { callee := Callee.value (Operand.func 24), args := #[Operand.const (Value.slice none 0 0), Operand.tmp 27, Operand.tmp 28], argTypes := #[22, 23, 9] }, some (5, true)⟩,
  .one ⟨some 30, Op.call { callee := Callee.builtin Builtin.len, args := #[Operand.tmp 29], argTypes := #[50] }, some (5, true)⟩,
  .one ⟨some 31, Op.binOp BinOp.eql 3 (Operand.tmp 30) (Operand.const (Value.int IntKind.i64 0)) 3, some (5, true)⟩] ⟨some 32, Op.pick (Operand.tmp 25) (Operand.tmp 31) (Operand.const (Value.bool false)), none⟩,
  .one ⟨some 33, Op.move (Operand.tmp 32), none⟩,
  .blk 13 true [.one ⟨some 34, Op.call { callee := Callee.value (Operand.func 64), args := #[Operand.const (Value.slice none 0 0), Operand.const (Value.string { data := #[120] })], argTypes := #[22, 9] }, some (13, true)⟩,
  .one ⟨some 35, Op.binOp BinOp.eql 3 (Operand.tmp 34) (Operand.const (Value.int IntKind.i64 0)) 3, some (13, true)⟩] ⟨some 36, Op.pick (Operand.tmp 33) (Operand.tmp 35) (Operand.const (Value.bool false)), none⟩,
  .one ⟨some 37, Op.move (Operand.tmp 36), none⟩,
  .blk 17 true [.one ⟨some 38, Op.load 40 (Operand.tmp 3), some (17, true)⟩,
  .one ⟨some 39, Op.buildSlice 22 1 #[(0, Operand.tmp 38)], some (17, true)⟩,
  .one ⟨some 40, Op.move (Operand.tmp 1), some (17, true)⟩,
  .one ⟨some 41, Op.move (Operand.tmp 2), some (17, true)⟩,
  .one ⟨some 42, Op.call { callee := Callee.value (Operand.func 26), args := #[Operand.tmp 39, Operand.tmp 40, Operand.tmp 41], argTypes := #[22, 9, 9] }, some (17, true)⟩,
  .one ⟨some 43, Op.buildSlice 23 2 #[(0, Operand.const (Value.string { data := #[98, 111, 116] })), (1, Operand.const (Value.string { data := #[115, 112, 97, 109] }))], some (17, true)⟩,
  .one ⟨some 44, Op.call { callee := Callee.value (Operand.func 34), args := #[Operand.tmp 42, Operand.tmp 43], argTypes := #[23, 23] }, some (17, true)⟩] ⟨some 45, Op.pick (Operand.tmp 37) (Operand.tmp 44) (Operand.const (Value.bool false)), none⟩,
  .one ⟨some 46, Op.move (Operand.tmp 45), none⟩,
  .blk 26 true [.one ⟨some 47, Op.move (Operand.tmp 4), some (26, true)⟩,
  .one ⟨some 48, Op.build 55 #[(0, Operand.const (Value.string { data := #[98, 111, 116] })), (1, Operand.const (Value.int IntKind.i64 1))], some (26, true)⟩,
  .one ⟨some 49, Op.build 55 #[(0, Operand.const (Value.string { data := #[115, 112, 97, 109] })), (1, Operand.const (Value.int IntKind.i64 1))], some (26, true)⟩,
  .one ⟨some 50, Op.buildSlice 50 2 #[(0, Operand.tmp 48), (1, Operand.tmp 49)], some (26, true)⟩,
  .one ⟨some 51, Op.call { callee := Callee.value (Operand.func 25), args := #[Operand.tmp 47, Operand.tmp 50], argTypes := #[50, 50] }, some (26, true)⟩] ⟨some 52, Op.pick (Operand.tmp 46) (Operand.tmp 51) (Operand.const (Value.bool false)), none⟩,
  .one ⟨some 53, Op.move (Operand.tmp 52), none⟩,
  .blk 33 true [.one ⟨some 54, Op.load 40 (Operand.tmp 3), some (33, true)⟩,
  .one ⟨some 55, Op.load 40 (Operand.tmp 3), some (33, true)⟩,
  .one ⟨some 56, Op.buildSlice 22 2 #[(0, Operand.tmp 54), (1, Operand.tmp 55)], some (33, true)⟩,
  .one ⟨some 57, Op.call { callee := Callee.value (Operand.func 64), args := #[Operand.tmp 56, Operand.const (Value.string { data := #[120] })], argTypes := #[22, 9] }, some (33, true)⟩,
  .one ⟨some 58, Op.binOp BinOp.eql 3 (Operand.tmp 57) (Operand.const (Value.int IntKind.i64 1)) 3, some (33, true)⟩] ⟨some 59, Op.pick (Operand.tmp 53) (Operand.tmp 58) (Operand.const (Value.bool false)), none⟩,
  .one ⟨some 60, Op.move (Operand.tmp 59), none⟩,
  .blk 40 true [.one ⟨some 61, Op.load 40 (Operand.tmp 3), some (40, true)⟩,
  .one ⟨some 62, Op.buildSlice 22 1 #[(0, Operand.tmp 61)], some (40, true)⟩,
  .one ⟨some 63, Op.call { callee := Callee.value (Operand.func 64), args := #[Operand.tmp 62, Operand.const (Value.string { data := #[] })], argTypes := #[22, 9] }, some (40, true)⟩,
  .one ⟨some 64, Op.binOp BinOp.eql 3 (Operand.tmp 63) (Operand.const (Value.int IntKind.i64 0)) 3, some (40, true)⟩] ⟨some 65, Op.pick (Operand.tmp 60) (Operand.tmp 64) (Operand.const (Value.bool false)), none⟩,
  .one ⟨some 0, Op.assign (Operand.tmp 65), none⟩]
def agoralaw34_small_L : MCode := (.seq (.reg 0 agoralaw34_small_R0 false) (.seq (.reg 1 agoralaw34_small_R1 false) (.seq (.reg 2 agoralaw34_small_R2 false) (.seq (.reg 3 agoralaw34_small_R3 false) (.seq (.reg 4 agoralaw34_small_R4 false) (.seq (.reg 5 agoralaw34_small_R5 false) .ret))))))
def agoralaw34_small_ks : Nat → List Nat := fun i => match i with
  | _ => []
theorem agoralaw34_small_hl : Tryz.f22.body.map light = some agoralaw34_small_L.flat := by kernel_rfl
theorem agoralaw34_small_hk : agoralaw34_small_L.ok = true := by kernel_rfl
theorem agoralaw34_small_hb : Tryz.f22.body.map (codeB 66 agoralaw34_small_ks) = some true := by kernel_rfl
theorem agoralaw34_small_hr : Tryz.f22.results.toList = [ResultVar.tmp 0] := rfl
theorem agoralaw34_small_hn : fnB Tryz.prog 22 = true := by kernel_rfl
theorem agoralaw34_small_pu {args : List V} {st : List SO} {res : V} (an : Ann) (ha : args.length ≤ 66) (hres : noRef res = true) (h : wpM ⟨Tryz.prog, GW, 66, st.length⟩ an agoralaw34_small_ks agoralaw34_small_L (argE args 0) st (EndsP ⟨Tryz.prog, GW, 66, st.length⟩ [ResultVar.tmp 0] res st)) : FnOK Tryz.prog GW 22 args st res st :=
  fn_pure Tryz.func22 agoralaw34_small_hr agoralaw34_small_hl agoralaw34_small_hk agoralaw34_small_hb rfl agoralaw34_small_hn an ha hres h
/-! agora/agoralaw34.few -/
def agoralaw34_few_R0 : List Itm := [.one ⟨some 2, Op.assign (Operand.const (Value.bool false)), none⟩]
def agoralaw34_few_R1 : List Itm := [.one ⟨some 6, Op.move (Operand.tmp 0), none⟩,
  .one ⟨some 7, Op.call { callee := Callee.builtin Builtin.len, args := #[Operand.tmp 6], argTypes := #[22] }, none⟩,
  .one ⟨some 8, Op.binOp BinOp.gtr 3 (Operand.tmp 7) (Operand.const (Value.int IntKind.i64 6)) 3, none⟩]
def agoralaw34_few_R2 : List Itm := [.one ⟨some 2, Op.assign (Operand.const (Value.bool false)), none⟩]
def agoralaw34_few_R3 : List Itm := [.one ⟨some 3, Op.assign (Operand.const (Value.int IntKind.i64 0)), none⟩]
def agoralaw34_few_R4 : List Itm := [.one ⟨some 9, Op.move (Operand.tmp 3), none⟩,
  .one ⟨some 10, Op.move (Operand.tmp 0), none⟩,
  .one ⟨some 11, Op.call { callee := Callee.builtin Builtin.len, args := #[Operand.tmp 10], argTypes := #[22] }, none⟩,
  .one ⟨some 12, Op.binOp BinOp.lss 3 (Operand.tmp 9) (Operand.tmp 11) 3, none⟩]
def agoralaw34_few_R6 : List Itm := [.one ⟨some 15, Op.move (Operand.tmp 0), none⟩,
  .one ⟨some 16, Op.move (Operand.tmp 3), none⟩,
  .one ⟨some 17, Op.indexAddr 22 (Operand.tmp 15) (Operand.tmp 16), none⟩,
  .one ⟨some 18, Op.fieldAddr 40 (Operand.tmp 17) 1, none⟩,
  .one ⟨some 19, Op.load 37 (Operand.tmp 18), none⟩,
  .one ⟨some 20, Op.call { callee := Callee.builtin Builtin.len, args := #[Operand.tmp 19], argTypes := #[37] }, none⟩,
  .one ⟨some 21, Op.binOp BinOp.gtr 3 (Operand.tmp 20) (Operand.const (Value.int IntKind.i64 24)) 3, none⟩]
def agoralaw34_few_R7 : List Itm := [.one ⟨some 2, Op.assign (Operand.const (Value.bool false)), none⟩]
def agoralaw34_few_R8 : List Itm := [.one ⟨some 4, Op.assign (Operand.const (Value.int IntKind.i64 0)), none⟩]
def agoralaw34_few_R9 : List Itm := [.one ⟨some 22, Op.move (Operand.tmp 4), none⟩,
  .one ⟨some 23, Op.move (Operand.tmp 0), none⟩,
  .one ⟨some 24, Op.move (Operand.tmp 3), none⟩,
  .one ⟨some 25, Op.indexAddr 22 (Operand.tmp 23) (Operand.tmp 24), none⟩,
  .one ⟨some 26, Op.fieldAddr 40 (Operand.tmp 25) 1, none⟩,
  .one ⟨some 27, Op.load 37 (Operand.tmp 26), none⟩,
  .one ⟨some 28, Op.call { callee := Callee.builtin Builtin.len, args := #[Operand.tmp 27], argTypes := #[37] }, none⟩,
  .one ⟨some 29, Op.binOp BinOp.lss 3 (Operand.tmp 22) (Operand.tmp 28) 3, none⟩]
def agoralaw34_few_R11 : List Itm := [.one ⟨some 32, Op.move (Operand.tmp 0), none⟩,
  .one ⟨some 33, Op.move (Operand.tmp 3), none⟩,
  .one ⟨some 34, Op.indexAddr 22 (Operand.tmp 32) (Operand.tmp 33), none⟩,
  .one ⟨some 35, Op.fieldAddr 40 (Operand.tmp 34) 1, none⟩,
  .one ⟨some 36, Op.load 37 (Operand.tmp 35), none⟩,
  .one ⟨some 37, Op.move (Operand.tmp 4), none⟩,
  .one ⟨some 38, Op.indexAddr 37 (Operand.tmp 36) (Operand.tmp 37), none⟩,
  .one ⟨some 39, Op.load 49 (Operand.tmp 38), none⟩,
  .one ⟨some 5, Op.alloc 49, none⟩,
  .one ⟨none, Op.store 49 (Operand.tmp 5) (Operand.tmp 39), none⟩]
def agoralaw34_few_R12 : List Itm := [.one ⟨some 40, Op.fieldAddr 49 (Operand.tmp 5) 9, none⟩,
  .one ⟨some 41, Op.load 23 (Operand.tmp 40), none⟩,
  .one ⟨some 42, Op.call { callee := Callee.builtin Builtin.len, args := #[Operand.tmp 41], argTypes := #[23] }, none⟩,
  .one ⟨some 43, Op.binOp BinOp.gtr 3 (Operand.tmp 42) (Operand.const (Value.int IntKind.i64 8)) 3, none⟩,
  .one ⟨some 44, Op.move (Operand.tmp 43), none⟩,
  .blk 4 false [.one ⟨some 45, Op.fieldAddr 49 (Operand.tmp 5) 13, some (4, false)⟩,
  .one ⟨some 46, Op.load 45 (Operand.tmp 45), some (4, false)⟩,
  .one ⟨some 47, Op.call { callee := Callee.builtin Builtin.len, args := #[Operand.tmp 46], argTypes := #[45] }, some (4, false)⟩,
  .one ⟨some 48, Op.binOp BinOp.gtr 3 (Operand.tmp 47) (Operand.const (Value.int IntKind.i64 8)) 3, some (4, false)⟩] ⟨some 49, Op.pick (Operand.tmp 44) (Operand.const (Value.bool true)) (Operand.tmp 48), none⟩,
  .one ⟨some 50, Op.move (Operand.tmp 49), none⟩,
  .blk 10 false [.one ⟨some 51, Op.fieldAddr 49 (Operand.tmp 5) 10, some (10, false)⟩,
  .one ⟨some 52, Op.load 9 (Operand.tmp 51), some (10, false)⟩,
  .one ⟨some 53, Op.call { callee := Callee.builtin Builtin.len, args := #[Operand.tmp 52], argTypes := #[9] }, some (10, false)⟩,
  .one ⟨some 54, Op.binOp BinOp.gtr 3 (Operand.tmp 53) (Operand.const (Value.int IntKind.i64 600)) 3, some (10, false)⟩] ⟨some 55, Op.pick (Operand.tmp 50) (Operand.const (Value.bool true)) (Operand.tmp 54), none⟩,
  .one ⟨some 56, Op.move (Operand.tmp 55), none⟩,
  .blk 16 false [.one ⟨some 57, Op.fieldAddr 49 (Operand.tmp 5) 11, some (16, false)⟩,
  .one ⟨some 58, Op.fieldAddr 44 (Operand.tmp 57) 1, some (16, false)⟩,
  .one ⟨some 59, Op.load 9 (Operand.tmp 58), some (16, false)⟩,
  .one ⟨some 60, Op.call { callee := Callee.builtin Builtin.len, args := #[Operand.tmp 59], argTypes := #[9] }, some (16, false)⟩,
  .one ⟨some 61, Op.binOp BinOp.gtr 3 (Operand.tmp 60) (Operand.const (Value.int IntKind.i64 600)) 3, some (16, false)⟩] ⟨some 62, Op.pick (Operand.tmp 56) (Operand.const (Value.bool true)) (Operand.tmp 61), none⟩]
def agoralaw34_few_R13 : List Itm := [.one ⟨some 2, Op.assign (Operand.const (Value.bool false)), none⟩]
def agoralaw34_few_B3 : MCode := (.seq (.reg 11 agoralaw34_few_R11 false) (.seq (.reg 12 agoralaw34_few_R12 false) (.cond (Operand.tmp 62) (.seq (.reg 13 agoralaw34_few_R13 false) .ret) .skip)))
def agoralaw34_few_R10 : List Itm := [.one ⟨some 30, Op.move (Operand.tmp 4), none⟩,
  .one ⟨some 31, Op.binOp BinOp.add 3 (Operand.tmp 30) (Operand.const (Value.int IntKind.i64 1)) 3, none⟩,
  .one ⟨some 4, Op.assign (Operand.tmp 31), none⟩]
def agoralaw34_few_W1 : MCode := (.seq (.seq (.reg 9 agoralaw34_few_R9 false) (.cond (Operand.tmp 29) .skip (.exit 2))) (.seq (.block 3 agoralaw34_few_B3) (.reg 10 agoralaw34_few_R10 false)))
def agoralaw34_few_B2 : MCode := (.loop agoralaw34_few_W1)
def agoralaw34_few_B1 : MCode := (.seq (.seq (.reg 6 agoralaw34_few_R6 false) (.cond (Operand.tmp 21) (.seq (.reg 7 agoralaw34_few_R7 false) .ret) .skip)) (.seq (.reg 8 agoralaw34_few_R8 false) (.block 2 agoralaw34_few_B2)))
def agoralaw34_few_R5 : List Itm := [.one ⟨some 13, Op.move (Operand.tmp 3), none⟩,
  .one ⟨some 14, Op.binOp BinOp.add 3 (Operand.tmp 13) (Operand.const (Value.int IntKind.i64 1)) 3, none⟩,
  .one ⟨some 3, Op.assign (Operand.tmp 14), none⟩]
def agoralaw34_few_W2 : MCode := (.seq (.seq (.reg 4 agoralaw34_few_R4 false) (.cond (Operand.tmp 12) .skip (.exit 0))) (.seq (.block 1 agoralaw34_few_B1) (.reg 5 agoralaw34_few_R5 false)))
def agoralaw34_few_B0 : MCode := (.loop agoralaw34_few_W2)
def agoralaw34_few_R14 : List Itm := [.one ⟨some 2, Op.assign (Operand.const (Value.bool true)), none⟩]
def agoralaw34_few_L : MCode := (.seq (.reg 0 agoralaw34_few_R0 false) (.seq (.seq (.reg 1 agoralaw34_few_R1 false) (.cond (Operand.tmp 8) (.seq (.reg 2 agoralaw34_few_R2 false) .ret) .skip)) (.seq (.seq (.reg 3 agoralaw34_few_R3 false) (.block 0 agoralaw34_few_B0)) (.seq (.reg 14 agoralaw34_few_R14 false) .ret))))
def agoralaw34_few_ks : Nat → List Nat := fun i => match i with
  | _ => []
theorem agoralaw34_few_hl : Tryz.f23.body.map light = some agoralaw34_few_L.flat := by kernel_rfl
theorem agoralaw34_few_hk : agoralaw34_few_L.ok = true := by kernel_rfl
theorem agoralaw34_few_hb : Tryz.f23.body.map (codeB 63 agoralaw34_few_ks) = some true := by kernel_rfl
theorem agoralaw34_few_hr : Tryz.f23.results.toList = [ResultVar.tmp 2] := rfl
theorem agoralaw34_few_hn : fnB Tryz.prog 23 = true := by kernel_rfl
theorem agoralaw34_few_pu {args : List V} {st : List SO} {res : V} (an : Ann) (ha : args.length ≤ 63) (hres : noRef res = true) (h : wpM ⟨Tryz.prog, GW, 63, st.length⟩ an agoralaw34_few_ks agoralaw34_few_L (argE args 0) st (EndsP ⟨Tryz.prog, GW, 63, st.length⟩ [ResultVar.tmp 2] res st)) : FnOK Tryz.prog GW 23 args st res st :=
  fn_pure Tryz.func23 agoralaw34_few_hr agoralaw34_few_hl agoralaw34_few_hk agoralaw34_few_hb rfl agoralaw34_few_hn an ha hres h
/-! maps.Values[map[int]string,int,string] -/
def maps_Values_map_int_string_int_string_R0 : List Itm := [.one ⟨some 1, Op.box 118 (Operand.tmp 0), none⟩,
  .one ⟨some 2, Op.assign (Operand.const Value.nilFunc), none⟩]
def maps_Values_map_int_string_int_string_R1 : List Itm := [.one ⟨some 3, Op.makeFunc (Fn.func 106) #[] #[Operand.tmp 1], none⟩,
  .one ⟨some 2, Op.assign (Operand.tmp 3), none⟩]
def maps_Values_map_int_string_int_string_L : MCode := (.seq (.reg 0 maps_Values_map_int_string_int_string_R0 false) (.seq (.reg 1 maps_Values_map_int_string_int_string_R1 false) .ret))
def maps_Values_map_int_string_int_string_ks : Nat → List Nat := fun i => match i with
  | _ => []
theorem maps_Values_map_int_string_int_string_hl : Tryz.f67.body.map light = some maps_Values_map_int_string_int_string_L.flat := by kernel_rfl
theorem maps_Values_map_int_string_int_string_hk : maps_Values_map_int_string_int_string_L.ok = true := by kernel_rfl
theorem maps_Values_map_int_string_int_string_hb : Tryz.f67.body.map (codeB 4 maps_Values_map_int_string_int_string_ks) = some true := by kernel_rfl
theorem maps_Values_map_int_string_int_string_hr : Tryz.f67.results.toList = [ResultVar.tmp 2] := rfl
theorem maps_Values_map_int_string_int_string_hn : fnB Tryz.prog 67 = true := by kernel_rfl
theorem maps_Values_map_int_string_int_string_in {args : List V} {st st' : List SO} {res : V} (an : Ann) (ha : args.length ≤ 4) (h : StOk st → wpM ⟨Tryz.prog, GW, 4, st.length⟩ an maps_Values_map_int_string_int_string_ks maps_Values_map_int_string_int_string_L (argE args 0) st (EndsX ⟨Tryz.prog, GW, 4, st.length⟩ [ResultVar.tmp 2] res st')) : FnOK Tryz.prog GW 67 args st res st' :=
  fn_full Tryz.func67 maps_Values_map_int_string_int_string_hr maps_Values_map_int_string_int_string_hl maps_Values_map_int_string_int_string_hk maps_Values_map_int_string_int_string_hb rfl maps_Values_map_int_string_int_string_hn an ha h
end Go.Proofs.YthkmfboffnhkaaaGreatDoor
