/-
  The light code of functions: printed by wip/tools/gen.py.
-/
import Derived.Test.YthkmfboffnhkaaaGreatDoorTY
namespace Go.Proofs.YthkmfboffnhkaaaGreatDoor
open Go Go.L1
set_option linter.all false
set_option maxRecDepth 100000
/-! agora/agoralaw37.ListsExpires -/
def agoralaw37_ListsExpires_R0 : List Itm := [.one ⟨some 8, Op.assign (Operand.const (Value.bool false)), none⟩]
def agoralaw37_ListsExpires_R1 : List Itm := [.one ⟨some 17, Op.call { callee := Callee.value (Operand.func 15), args := #[], argTypes := #[] }, none⟩,
  .one ⟨some 9, Op.assign (Operand.tmp 17), none⟩]
def agoralaw37_ListsExpires_R2 : List Itm := [.one ⟨some 18, Op.move (Operand.tmp 0), none⟩,
  .one ⟨some 19, Op.call { callee := Callee.value (Operand.func 16), args := #[Operand.tmp 18], argTypes := #[22] }, none⟩,
  .one ⟨some 20, Op.unOp UnOp.not 4 (Operand.tmp 19), none⟩,
  .one ⟨some 21, Op.move (Operand.tmp 20), none⟩,
  .blk 3 false [.one ⟨some 22, Op.move (Operand.tmp 1), some (3, false)⟩,
  .one ⟨some 23, Op.call { callee := Callee.builtin Builtin.len, args := #[Operand.tmp 22], argTypes := #[23] }, some (3, false)⟩,
  .one ⟨some 24, Op.binOp BinOp.gtr 3 (Operand.tmp 23) (Operand.const (Value.int IntKind.i64 8)) 3, some (3, false)⟩] ⟨some 25, Op.pick (Operand.tmp 21) (Operand.const (Value.bool true)) (Operand.tmp 24), none⟩,
  .one ⟨some 26, Op.move (Operand.tmp 25), none⟩,
  .blk 8 false [.one ⟨some 27, Op.move (Operand.tmp 3), some (8, false)⟩,
  .one ⟨some 28, Op.move (Operand.tmp 2), some (8, false)⟩,
  .one ⟨some 29, Op.binOp BinOp.lss 3 (Operand.tmp 27) (Operand.tmp 28) 3, some (8, false)⟩] ⟨some 30, Op.pick (Operand.tmp 26) (Operand.const (Value.bool true)) (Operand.tmp 29), none⟩]
def agoralaw37_ListsExpires_R3 : List Itm := [.one ⟨some 31, Op.move (Operand.tmp 9), none⟩,
  .one ⟨some 8, Op.assign (Operand.tmp 31), none⟩]
def agoralaw37_ListsExpires_R4 : List Itm := [.one ⟨some 32, Op.move (Operand.tmp 0), none⟩,
  .one ⟨some 33, Op.move (Operand.tmp 1), none⟩,
  .one ⟨some 34, Op.move (Operand.tmp 2), none⟩,
  .one ⟨some 35, Op.call { callee := Callee.value (Operand.func 17), args := #[Operand.tmp 32, Operand.tmp 33, Operand.tmp 34], argTypes := #[22, 23, 3] }, none⟩,
  .one ⟨some 10, Op.assign (Operand.tmp 35), none⟩]
def agoralaw37_ListsExpires_R5 : List Itm := [.one ⟨some 36, Op.move (Operand.tmp 0), none⟩,
  .one ⟨some 37, Op.move (Operand.tmp 1), none⟩,
  .one ⟨some 38, Op.move (Operand.tmp 3), none⟩,
  .one ⟨some 39, Op.call { callee := Callee.value (Operand.func 17), args := #[Operand.tmp 36, Operand.tmp 37, Operand.tmp 38], argTypes := #[22, 23, 3] }, none⟩,
  .one ⟨some 11, Op.assign (Operand.tmp 39), none⟩]
def agoralaw37_ListsExpires_R6 : List Itm := [.one ⟨some 12, Op.assign (Operand.const (Value.int IntKind.i64 0)), none⟩]
def agoralaw37_ListsExpires_R7 : List Itm := [.one ⟨some 40, Op.move (Operand.tmp 12), none⟩,
  .one ⟨some 41, Op.move (Operand.tmp 10), none⟩,
  .one ⟨some 42, Op.call { callee := Callee.builtin Builtin.len, args := #[Operand.tmp 41], argTypes := #[26] }, none⟩,
  .one ⟨some 43, Op.binOp BinOp.lss 3 (Operand.tmp 40) (Operand.tmp 42) 3, none⟩]
def agoralaw37_ListsExpires_R9 : List Itm := [.one ⟨some 47, Op.move (Operand.tmp 11), none⟩,
  .one ⟨some 48, Op.move (Operand.tmp 10), none⟩,
  .one ⟨some 49, Op.move (Operand.tmp 12), none⟩,
  .one ⟨some 50, Op.indexAddr 26 (Operand.tmp 48) (Operand.tmp 49), none⟩,
  .one ⟨some 51, Op.fieldAddr 30 (Operand.tmp 50) 0, none⟩,
  .one ⟨some 52, Op.load 9 (Operand.tmp 51), none⟩,
  .one ⟨some 53, Op.call { callee := Callee.value (Operand.func 19), args := #[Operand.tmp 47, Operand.tmp 52], argTypes := #[26, 9] }, none⟩,
  .one ⟨some 46, Op.move (Operand.tmp 53), none⟩,
  .one ⟨some 54, Op.extract (Operand.tmp 46) 0, none⟩,
  .one ⟨some 55, Op.extract (Operand.tmp 46) 1, none⟩,
  .one ⟨some 13, Op.alloc 30, none⟩,
  .one ⟨none, Op.store 30 (Operand.tmp 13) (Operand.tmp 54), none⟩,
  .one ⟨some 14, Op.assign (Operand.tmp 55), none⟩]
def agoralaw37_ListsExpires_R10 : List Itm := [.one ⟨some 57, Op.move (Operand.tmp 0), none⟩,
  .one ⟨some 58, Op.move (Operand.tmp 1), none⟩,
  .one ⟨some 59, Op.move (Operand.tmp 10), none⟩,
  .one ⟨some 60, Op.move (Operand.tmp 12), none⟩,
  .one ⟨some 61, Op.indexAddr 26 (Operand.tmp 59) (Operand.tmp 60), none⟩,
  .one ⟨some 62, Op.fieldAddr 30 (Operand.tmp 61) 3, none⟩,
  .one ⟨some 63, Op.load 3 (Operand.tmp 62), none⟩,
  .one ⟨some 64, Op.call { callee := Callee.value (Operand.func 17), args := #[Operand.tmp 57, Operand.tmp 58, Operand.tmp 63], argTypes := #[22, 23, 3] }, none⟩,
  .one ⟨some 65, Op.move (Operand.tmp 10), none⟩,
  .one ⟨some 66, Op.move (Operand.tmp 12), none⟩,
  .one ⟨some 67, Op.indexAddr 26 (Operand.tmp 65) (Operand.tmp 66), none⟩,
  .one ⟨some 68, Op.fieldAddr 30 (Operand.tmp 67) 0, none⟩,
  .one ⟨some 69, Op.load 9 (Operand.tmp 68), none⟩,
  .one ⟨some 70, Op.call { callee := Callee.value (Operand.func 19), args := #[Operand.tmp 64, Operand.tmp 69], argTypes := #[26, 9] }, none⟩,
  .one ⟨some 56, Op.move (Operand.tmp 70), none⟩,
  .one ⟨some 71, Op.extract (Operand.tmp 56) 0, none⟩,
  .one ⟨some 72, Op.extract (Operand.tmp 56) 1, none⟩,
  .one ⟨some 15, Op.alloc 30, none⟩,
  .one ⟨none, Op.store 30 (Operand.tmp 15) (Operand.tmp 71), none⟩,
  .one ⟨some 16, Op.assign (Operand.tmp 72), none⟩]
def agoralaw37_ListsExpires_R11 : List Itm := [.one ⟨some 73, Op.move (Operand.tmp 14), none⟩,
  .one ⟨some 74, Op.move (Operand.tmp 10), none⟩,
  .one ⟨some 75, Op.move (Operand.tmp 12), none⟩,
  .one ⟨some 76, Op.indexAddr 26 (Operand.tmp 74) (Operand.tmp 75), none⟩,
  .one ⟨some 77, Op.fieldAddr 30 (Operand.tmp 76) 3, none⟩,
  .one ⟨some 78, Op.load 3 (Operand.tmp 77), none⟩,
  .one ⟨some 79, Op.move (Operand.tmp 3), none⟩,
  .one ⟨some 80, Op.binOp BinOp.gtr 3 (Operand.tmp 78) (Operand.tmp 79) 3, none⟩,
  .one ⟨some 81, Op.binOp BinOp.neq 4 (Operand.tmp 73) (Operand.tmp 80) 4, none⟩,
  .one ⟨some 82, Op.move (Operand.tmp 81), none⟩,
  .blk 9 false [.one ⟨some 83, Op.move (Operand.tmp 14), some (9, false)⟩,
  .one ⟨some 84, Op.move (Operand.tmp 83), some (9, false)⟩,
  .blk 11 true [.one ⟨some 85, Op.load 30 (Operand.tmp 13), some (11, true)⟩,
  .one ⟨some 86, Op.move (Operand.tmp 10), some (11, true)⟩,
  .one ⟨some 87, Op.move (Operand.tmp 12), some (11, true)⟩,
  .one ⟨some 88, Op.indexAddr 26 (Operand.tmp 86) (Operand.tmp 87), some (11, true)⟩,
  .one ⟨some 89, Op.load 30 (Operand.tmp 88), some (11, true)⟩,
  .one ⟨some 90, Op.binOp BinOp.neq 30 (Operand.tmp 85) (Operand.tmp 89) 30, some (11, true)⟩] ⟨some 91, Op.pick (Operand.tmp 84) (Operand.tmp 90) (Operand.const (Value.bool false)), some (9, false)⟩] ⟨some 92, Op.pick (Operand.tmp 82) (Operand.const (Value.bool true)) (Operand.tmp 91), none⟩,
  .one ⟨some 93, Op.move (Operand.tmp 92), none⟩,
  .blk 20 false [.one ⟨some 94, Op.move (Operand.tmp 16), some (20, false)⟩] ⟨some 95, Op.pick (Operand.tmp 93) (Operand.const (Value.bool true)) (Operand.tmp 94), none⟩]
def agoralaw37_ListsExpires_R12 : List Itm := [.one ⟨some 8, Op.assign (Operand.const (Value.bool false)), none⟩]
def agoralaw37_ListsExpires_B1 : MCode := (.seq (.reg 9 agoralaw37_ListsExpires_R9 false) (.seq (.reg 10 agoralaw37_ListsExpires_R10 true) (.seq (.reg 11 agoralaw37_ListsExpires_R11 true) (.cond (Operand.tmp 95) (.seq (.reg 12 agoralaw37_ListsExpires_R12 false) .ret) .skip))))
def agoralaw37_ListsExpires_R8 : List Itm := [.one ⟨some 44, Op.move (Operand.tmp 12), none⟩,
  .one ⟨some 45, Op.binOp BinOp.add 3 (Operand.tmp 44) (Operand.const (Value.int IntKind.i64 1)) 3, none⟩,
  .one ⟨some 12, Op.assign (Operand.tmp 45), none⟩]
def agoralaw37_ListsExpires_W1 : MCode := (.seq (.seq (.reg 7 agoralaw37_ListsExpires_R7 false) (.cond (Operand.tmp 43) .skip (.exit 0))) (.seq (.block 1 agoralaw37_ListsExpires_B1) (.reg 8 agoralaw37_ListsExpires_R8 false)))
def agoralaw37_ListsExpires_B0 : MCode := (.loop agoralaw37_ListsExpires_W1)
def agoralaw37_ListsExpires_R13 : List Itm := [.one ⟨some 96, Op.move (Operand.tmp 9), none⟩,
  .one ⟨some 97, Op.move (Operand.tmp 96), none⟩,
  .blk 1 true [.one ⟨some 98, Op.move (Operand.tmp 11), some (1, true)⟩,
  .one ⟨some 99, Op.call { callee := Callee.builtin Builtin.len, args := #[Operand.tmp 98], argTypes := #[26] }, some (1, true)⟩,
  .one ⟨some 100, Op.move (Operand.tmp 10), some (1, true)⟩,
  .one ⟨some 101, Op.call { callee := Callee.builtin Builtin.len, args := #[Operand.tmp 100], argTypes := #[26] }, some (1, true)⟩,
  .one ⟨some 102, Op.binOp BinOp.leq 3 (Operand.tmp 99) (Operand.tmp 101) 3, some (1, true)⟩] ⟨some 103, Op.pick (Operand.tmp 97) (Operand.tmp 102) (Operand.const (Value.bool false)), none⟩,
  .one ⟨some 8, Op.assign (Operand.tmp 103), none⟩]
def agoralaw37_ListsExpires_L : MCode := (.seq (.reg 0 agoralaw37_ListsExpires_R0 false) (.seq (.reg 1 agoralaw37_ListsExpires_R1 false) (.seq (.seq (.reg 2 agoralaw37_ListsExpires_R2 false) (.cond (Operand.tmp 30) (.seq (.reg 3 agoralaw37_ListsExpires_R3 false) .ret) .skip)) (.seq (.reg 4 agoralaw37_ListsExpires_R4 false) (.seq (.reg 5 agoralaw37_ListsExpires_R5 false) (.seq (.seq (.reg 6 agoralaw37_ListsExpires_R6 false) (.block 0 agoralaw37_ListsExpires_B0)) (.seq (.reg 13 agoralaw37_ListsExpires_R13 false) .ret)))))))
def agoralaw37_ListsExpires_ks : Nat → List Nat := fun i => match i with
  | 10 => [0, 0, 0, 0, 0, 0, 0, 0, 0, 0, 0, 0, 0, 0, 0, 0, 0, 0, 3, 0]
  | 11 => [0, 0, 0, 0, 0, 0, 0, 0, 0, 0, 0, 0, 0, 0, 0, 0, 0, 0, 0, 0, 0, 0, 0]
  | _ => []
theorem agoralaw37_ListsExpires_hl : Tryz.f4.body.map light = some agoralaw37_ListsExpires_L.flat := by kernel_rfl
theorem agoralaw37_ListsExpires_hk : agoralaw37_ListsExpires_L.ok = true := by kernel_rfl
theorem agoralaw37_ListsExpires_hb : Tryz.f4.body.map (codeB 104 agoralaw37_ListsExpires_ks) = some true := by kernel_rfl
theorem agoralaw37_ListsExpires_hr : Tryz.f4.results.toList = [ResultVar.tmp 8] := rfl
theorem agoralaw37_ListsExpires_hn : fnB Tryz.prog 4 = true := by kernel_rfl
theorem agoralaw37_ListsExpires_pu {args : List V} {st : List SO} {res : V} (an : Ann) (ha : args.length ≤ 104) (hres : noRef res = true) (h : wpM ⟨Tryz.prog, GW, 104, st.length⟩ an agoralaw37_ListsExpires_ks agoralaw37_ListsExpires_L (argE args 0) st (EndsP ⟨Tryz.prog, GW, 104, st.length⟩ [ResultVar.tmp 8] res st)) : FnOK Tryz.prog GW 4 args st res st :=
  fn_pure Tryz.func4 agoralaw37_ListsExpires_hr agoralaw37_ListsExpires_hl agoralaw37_ListsExpires_hk agoralaw37_ListsExpires_hb rfl agoralaw37_ListsExpires_hn an ha hres h
end Go.Proofs.YthkmfboffnhkaaaGreatDoor
