/-
  The light code of functions: printed by wip/tools/gen.py.
-/
import Derived.Test.YthkmfboffnhkaaaGreatDoorTY
namespace Go.Proofs.YthkmfboffnhkaaaGreatDoor
open Go Go.L1
set_option linter.all false
set_option maxRecDepth 100000
/-! agora/lists.entries -/
def lists_entries_R0 : List Itm := [.one ⟨some 4, Op.assign (Operand.const (Value.map none)), none⟩]
def lists_entries_R1 : List Itm := [.one ⟨some 13, Op.move (Operand.tmp 0), none⟩,
  .one ⟨some 14, Op.move (Operand.tmp 1), none⟩,
  .one ⟨some 15, Op.call { callee := Callee.value (Operand.func 21), args := #[Operand.tmp 13, Operand.tmp 14], argTypes := #[22, 9] }, none⟩,
  .one ⟨some 12, Op.move (Operand.tmp 15), none⟩,
  .one ⟨some 16, Op.extract (Operand.tmp 12) 0, none⟩,
  .one ⟨some 17, Op.extract (Operand.tmp 12) 1, none⟩,
  .one ⟨some 5, Op.alloc 40, none⟩,
  .one ⟨none, Op.store 40 (Operand.tmp 5) (Operand.tmp 16), none⟩,
  .one ⟨some 6, Op.assign (Operand.tmp 17), none⟩]
def lists_entries_R2 : List Itm := [.one ⟨some 18, Op.makeMap 97 none, none⟩,
  .one ⟨some 7, Op.assign (Operand.tmp 18), none⟩]
def lists_entries_R3 : List Itm := [.one ⟨some 19, Op.fieldAddr 40 (Operand.tmp 5) 1, none⟩,
  .one ⟨some 20, Op.load 37 (Operand.tmp 19), none⟩,
  .one ⟨some 21, Op.call { callee := Callee.builtin Builtin.len, args := #[Operand.tmp 20], argTypes := #[37] }, none⟩,
  .one ⟨some 22, Op.move (Operand.const (Value.int IntKind.i64 0)), none⟩]
def lists_entries_R4 : List Itm := [.one ⟨some 23, Op.binOp BinOp.lss 3 (Operand.tmp 22) (Operand.tmp 21) 3, none⟩]
def lists_entries_R5 : List Itm := [.one ⟨some 24, Op.move (Operand.tmp 22), none⟩,
  .one ⟨some 25, Op.indexAddr 37 (Operand.tmp 20) (Operand.tmp 22), none⟩,
  .one ⟨some 26, Op.load 49 (Operand.tmp 25), none⟩,
  .one ⟨some 9, Op.alloc 49, none⟩,
  .one ⟨some 8, Op.assign (Operand.tmp 24), none⟩,
  .one ⟨none, Op.store 49 (Operand.tmp 9) (Operand.tmp 26), none⟩]
def lists_entries_R6 : List Itm := [.one ⟨some 27, Op.fieldAddr 49 (Operand.tmp 9) 3, none⟩,
  .one ⟨some 28, Op.load 3 (Operand.tmp 27), none⟩]
def lists_entries_R7 : List Itm := [.one ⟨some 30, Op.binOp BinOp.eql 3 (Operand.tmp 28) (Operand.const (Value.int IntKind.i64 23)) 3, none⟩,
  .one ⟨some 29, Op.assign (Operand.tmp 30), none⟩]
def lists_entries_R8 : List Itm := [.one ⟨some 31, Op.move (Operand.tmp 7), none⟩,
  .one ⟨some 32, Op.move (Operand.tmp 8), none⟩,
  .one ⟨some 33, Op.fieldAddr 49 (Operand.tmp 9) 6, none⟩,
  .one ⟨some 34, Op.load 9 (Operand.tmp 33), none⟩,
  .one ⟨some 35, Op.fieldAddr 49 (Operand.tmp 9) 10, none⟩,
  .one ⟨some 36, Op.load 9 (Operand.tmp 35), none⟩,
  .one ⟨some 37, Op.move (Operand.tmp 1), none⟩,
  .one ⟨some 38, Op.fieldAddr 49 (Operand.tmp 9) 14, none⟩,
  .one ⟨some 39, Op.load 3 (Operand.tmp 38), none⟩,
  .one ⟨some 40, Op.build 30 #[(0, Operand.tmp 34), (1, Operand.tmp 36), (2, Operand.tmp 37), (3, Operand.tmp 39)], none⟩,
  .one ⟨some 41, Op.move (Operand.tmp 8), none⟩,
  .one ⟨some 42, Op.build 104 #[(0, Operand.tmp 40), (1, Operand.tmp 41)], none⟩,
  .one ⟨none, Op.mapUpdate 97 (Operand.tmp 31) (Operand.tmp 32) (Operand.tmp 42), none⟩]
def lists_entries_R9 : List Itm := [.one ⟨some 44, Op.binOp BinOp.eql 3 (Operand.tmp 28) (Operand.const (Value.int IntKind.i64 6)) 3, none⟩,
  .one ⟨some 43, Op.assign (Operand.tmp 44), none⟩]
def lists_entries_R10 : List Itm := [.one ⟨some 46, Op.load 40 (Operand.tmp 5), none⟩,
  .one ⟨some 47, Op.fieldAddr 49 (Operand.tmp 9) 5, none⟩,
  .one ⟨some 48, Op.load 9 (Operand.tmp 47), none⟩,
  .one ⟨some 49, Op.call { callee := Callee.value (Operand.func 45), args := #[Operand.tmp 46, Operand.tmp 48], argTypes := #[40, 9] }, none⟩,
  .one ⟨some 45, Op.move (Operand.tmp 49), none⟩,
  .one ⟨some 50, Op.extract (Operand.tmp 45) 0, none⟩,
  .one ⟨some 51, Op.extract (Operand.tmp 45) 1, none⟩,
  .one ⟨some 10, Op.assign (Operand.tmp 50), none⟩,
  .one ⟨some 11, Op.assign (Operand.tmp 51), none⟩]
def lists_entries_R11 : List Itm := [.one ⟨some 52, Op.move (Operand.tmp 11), none⟩,
  .one ⟨some 53, Op.move (Operand.tmp 52), none⟩,
  .blk 1 true [.one ⟨some 54, Op.move (Operand.tmp 10), some (1, true)⟩,
  .one ⟨some 55, Op.move (Operand.tmp 8), some (1, true)⟩,
  .one ⟨some 56, Op.binOp BinOp.lss 3 (Operand.tmp 54) (Operand.tmp 55) 3, some (1, true)⟩] ⟨some 57, Op.pick (Operand.tmp 53) (Operand.tmp 56) (Operand.const (Value.bool false)), none⟩]
def lists_entries_R12 : List Itm := [.one ⟨some 58, Op.move (Operand.tmp 7), none⟩,
  .one ⟨some 59, Op.move (Operand.tmp 10), none⟩,
  .one ⟨none, Op.call { callee := Callee.builtin Builtin.delete, args := #[Operand.tmp 58, Operand.tmp 59], argTypes := #[97, 3] }, none⟩]
def lists_entries_B2 : MCode := (.seq (.reg 7 lists_entries_R7 false) (.cond (Operand.tmp 29) (.reg 8 lists_entries_R8 false) (.seq (.reg 9 lists_entries_R9 false) (.cond (Operand.tmp 43) (.seq (.reg 10 lists_entries_R10 false) (.seq (.reg 11 lists_entries_R11 false) (.cond (Operand.tmp 57) (.reg 12 lists_entries_R12 false) .skip))) .skip))))
def lists_entries_B1 : MCode := (.seq (.reg 5 lists_entries_R5 false) (.seq (.reg 6 lists_entries_R6 false) (.block 2 lists_entries_B2)))
def lists_entries_R13 : List Itm := [.one ⟨some 60, Op.binOp BinOp.add 3 (Operand.tmp 22) (Operand.const (Value.int IntKind.i64 1)) 3, none⟩,
  .one ⟨some 22, Op.move (Operand.tmp 60), none⟩]
def lists_entries_W1 : MCode := (.seq (.reg 4 lists_entries_R4 false) (.seq (.cond (Operand.tmp 23) .skip (.exit 0)) (.seq (.block 1 lists_entries_B1) (.reg 13 lists_entries_R13 false))))
def lists_entries_B0 : MCode := (.loop lists_entries_W1)
def lists_entries_R14 : List Itm := [.one ⟨some 61, Op.move (Operand.tmp 7), none⟩,
  .one ⟨some 4, Op.assign (Operand.tmp 61), none⟩]
def lists_entries_L : MCode := (.seq (.reg 0 lists_entries_R0 false) (.seq (.reg 1 lists_entries_R1 false) (.seq (.reg 2 lists_entries_R2 false) (.seq (.seq (.reg 3 lists_entries_R3 false) (.block 0 lists_entries_B0)) (.seq (.reg 14 lists_entries_R14 false) .ret)))))
def lists_entries_ks : Nat → List Nat := fun i => match i with
  | _ => []
theorem lists_entries_hl : Tryz.f54.body.map light = some lists_entries_L.flat := by kernel_rfl
theorem lists_entries_hk : lists_entries_L.ok = true := by kernel_rfl
theorem lists_entries_hb : Tryz.f54.body.map (codeB 62 lists_entries_ks) = some true := by kernel_rfl
theorem lists_entries_hr : Tryz.f54.results.toList = [ResultVar.tmp 4] := rfl
theorem lists_entries_hn : fnB Tryz.prog 54 = true := by kernel_rfl
theorem lists_entries_in {args : List V} {st st' : List SO} {res : V} (an : Ann) (ha : args.length ≤ 62) (h : StOk st → wpM ⟨Tryz.prog, GW, 62, st.length⟩ an lists_entries_ks lists_entries_L (argE args 0) st (EndsX ⟨Tryz.prog, GW, 62, st.length⟩ [ResultVar.tmp 4] res st')) : FnOK Tryz.prog GW 54 args st res st' :=
  fn_full Tryz.func54 lists_entries_hr lists_entries_hl lists_entries_hk lists_entries_hb rfl lists_entries_hn an ha h
/-! (agora/lists.entry).against -/
def lists_entry_against_R0 : List Itm := [.one ⟨some 2, Op.box 104 (Operand.tmp 0), none⟩,
  .one ⟨some 3, Op.box 104 (Operand.tmp 1), none⟩,
  .one ⟨some 4, Op.assign (Operand.const (Value.int IntKind.i64 0)), none⟩]
def lists_entry_against_R1 : List Itm := [.one ⟨some 5, Op.fieldAddr 104 (Operand.tmp 2) 0, none⟩,
  .one ⟨some 6, Op.fieldAddr 30 (Operand.tmp 5) 3, none⟩,
  .one ⟨some 7, Op.load 3 (Operand.tmp 6), none⟩,
  .one ⟨some 8, Op.fieldAddr 104 (Operand.tmp 3) 0, none⟩,
  .one ⟨some 9, Op.fieldAddr 30 (Operand.tmp 8) 3, none⟩,
  .one ⟨some 10, Op.load 3 (Operand.tmp 9), none⟩,
  .one ⟨some 11, Op.call { callee := Callee.value (Operand.func 100), args := #[Operand.tmp 7, Operand.tmp 10], argTypes := #[3, 3] }, none⟩,
  .one ⟨some 12, Op.fieldAddr 104 (Operand.tmp 3) 0, none⟩,
  .one ⟨some 13, Op.fieldAddr 30 (Operand.tmp 12) 2, none⟩,
  .one ⟨some 14, Op.load 9 (Operand.tmp 13), none⟩,
  .one ⟨some 15, Op.fieldAddr 104 (Operand.tmp 2) 0, none⟩,
  .one ⟨some 16, Op.fieldAddr 30 (Operand.tmp 15) 2, none⟩,
  .one ⟨some 17, Op.load 9 (Operand.tmp 16), none⟩,
  .one ⟨some 18, Op.call { callee := Callee.value (Operand.func 95), args := #[Operand.tmp 14, Operand.tmp 17], argTypes := #[9, 9] }, none⟩,
  .one ⟨some 19, Op.fieldAddr 104 (Operand.tmp 2) 1, none⟩,
  .one ⟨some 20, Op.load 3 (Operand.tmp 19), none⟩,
  .one ⟨some 21, Op.fieldAddr 104 (Operand.tmp 3) 1, none⟩,
  .one ⟨some 22, Op.load 3 (Operand.tmp 21), none⟩,
  .one ⟨some 23, Op.call { callee := Callee.value (Operand.func 100), args := #[Operand.tmp 20, Operand.tmp 22], argTypes := #[3, 3] }, none⟩,
  .one ⟨some 24, Op.buildSlice 84 3 #[(0, Operand.tmp 11), (1, Operand.tmp 18), (2, Operand.tmp 23)], none⟩,
  .one ⟨some 25, Op.call { callee := Callee.value (Operand.func 99), args := #[Operand.tmp 24], argTypes := #[84] }, none⟩,
  .one ⟨some 4, Op.assign (Operand.tmp 25), none⟩]
def lists_entry_against_L : MCode := (.seq (.reg 0 lists_entry_against_R0 false) (.seq (.reg 1 lists_entry_against_R1 true) .ret))
def lists_entry_against_ks : Nat → List Nat := fun i => match i with
  | 1 => [0, 0, 0, 0, 0, 0, 0, 0, 0, 0, 0, 0, 0, 0, 0, 0, 0, 0, 0, 0, 0, 0]
  | _ => []
theorem lists_entry_against_hl : Tryz.f57.body.map light = some lists_entry_against_L.flat := by kernel_rfl
theorem lists_entry_against_hk : lists_entry_against_L.ok = true := by kernel_rfl
theorem lists_entry_against_hb : Tryz.f57.body.map (codeB 26 lists_entry_against_ks) = some true := by kernel_rfl
theorem lists_entry_against_hr : Tryz.f57.results.toList = [ResultVar.tmp 4] := rfl
theorem lists_entry_against_hn : fnB Tryz.prog 57 = true := by kernel_rfl
theorem lists_entry_against_pu {args : List V} {st : List SO} {res : V} (an : Ann) (ha : args.length ≤ 26) (hres : noRef res = true) (h : wpM ⟨Tryz.prog, GW, 26, st.length⟩ an lists_entry_against_ks lists_entry_against_L (argE args 0) st (EndsP ⟨Tryz.prog, GW, 26, st.length⟩ [ResultVar.tmp 4] res st)) : FnOK Tryz.prog GW 57 args st res st :=
  fn_pure Tryz.func57 lists_entry_against_hr lists_entry_against_hl lists_entry_against_hk lists_entry_against_hb rfl lists_entry_against_hn an ha hres h
/-! cmp.Compare[string] -/
def cmp_Compare_string_R0 : List Itm := [.one ⟨some 4, Op.assign (Operand.const (Value.int IntKind.i64 0)), none⟩]
def cmp_Compare_string_R1 : List Itm := [.one ⟨some 7, Op.move (Operand.tmp 0), none⟩,
  .one ⟨some 8, Op.call { callee := Callee.value (Operand.func 133), args := #[Operand.tmp 7], argTypes := #[9] }, none⟩,
  .one ⟨some 5, Op.assign (Operand.tmp 8), none⟩]
def cmp_Compare_string_R2 : List Itm := [.one ⟨some 9, Op.move (Operand.tmp 1), none⟩,
  .one ⟨some 10, Op.call { callee := Callee.value (Operand.func 133), args := #[Operand.tmp 9], argTypes := #[9] }, none⟩,
  .one ⟨some 6, Op.assign (Operand.tmp 10), none⟩]
def cmp_Compare_string_R3 : List Itm := [.one ⟨some 11, Op.move (Operand.tmp 5), none⟩]
def cmp_Compare_string_R4 : List Itm := [.one ⟨some 12, Op.move (Operand.tmp 6), none⟩]
def cmp_Compare_string_R5 : List Itm := [.one ⟨some 4, Op.assign (Operand.const (Value.int IntKind.i64 0)), none⟩]
def cmp_Compare_string_R6 : List Itm := [.one ⟨some 4, Op.assign (Operand.const (Value.int IntKind.i64 (-1))), none⟩]
def cmp_Compare_string_R7 : List Itm := [.one ⟨some 13, Op.move (Operand.tmp 6), none⟩]
def cmp_Compare_string_R8 : List Itm := [.one ⟨some 4, Op.assign (Operand.const (Value.int IntKind.i64 1)), none⟩]
def cmp_Compare_string_R9 : List Itm := [.one ⟨some 14, Op.move (Operand.tmp 0), none⟩,
  .one ⟨some 15, Op.move (Operand.tmp 1), none⟩,
  .one ⟨some 16, Op.binOp BinOp.lss 9 (Operand.tmp 14) (Operand.tmp 15) 9, none⟩]
def cmp_Compare_string_R10 : List Itm := [.one ⟨some 4, Op.assign (Operand.const (Value.int IntKind.i64 (-1))), none⟩]
def cmp_Compare_string_R11 : List Itm := [.one ⟨some 17, Op.move (Operand.tmp 0), none⟩,
  .one ⟨some 18, Op.move (Operand.tmp 1), none⟩,
  .one ⟨some 19, Op.binOp BinOp.gtr 9 (Operand.tmp 17) (Operand.tmp 18) 9, none⟩]
def cmp_Compare_string_R12 : List Itm := [.one ⟨some 4, Op.assign (Operand.const (Value.int IntKind.i64 1)), none⟩]
def cmp_Compare_string_R13 : List Itm := [.one ⟨some 4, Op.assign (Operand.const (Value.int IntKind.i64 0)), none⟩]
def cmp_Compare_string_L : MCode := (.seq (.reg 0 cmp_Compare_string_R0 false) (.seq (.reg 1 cmp_Compare_string_R1 false) (.seq (.reg 2 cmp_Compare_string_R2 false) (.seq (.seq (.reg 3 cmp_Compare_string_R3 false) (.cond (Operand.tmp 11) (.seq (.seq (.reg 4 cmp_Compare_string_R4 false) (.cond (Operand.tmp 12) (.seq (.reg 5 cmp_Compare_string_R5 false) .ret) .skip)) (.seq (.reg 6 cmp_Compare_string_R6 false) .ret)) .skip)) (.seq (.seq (.reg 7 cmp_Compare_string_R7 false) (.cond (Operand.tmp 13) (.seq (.reg 8 cmp_Compare_string_R8 false) .ret) .skip)) (.seq (.seq (.reg 9 cmp_Compare_string_R9 false) (.cond (Operand.tmp 16) (.seq (.reg 10 cmp_Compare_string_R10 false) .ret) .skip)) (.seq (.seq (.reg 11 cmp_Compare_string_R11 false) (.cond (Operand.tmp 19) (.seq (.reg 12 cmp_Compare_string_R12 false) .ret) .skip)) (.seq (.reg 13 cmp_Compare_string_R13 false) .ret))))))))
def cmp_Compare_string_ks : Nat → List Nat := fun i => match i with
  | _ => []
theorem cmp_Compare_string_hl : Tryz.f95.body.map light = some cmp_Compare_string_L.flat := by kernel_rfl
theorem cmp_Compare_string_hk : cmp_Compare_string_L.ok = true := by kernel_rfl
theorem cmp_Compare_string_hb : Tryz.f95.body.map (codeB 20 cmp_Compare_string_ks) = some true := by kernel_rfl
theorem cmp_Compare_string_hr : Tryz.f95.results.toList = [ResultVar.tmp 4] := rfl
theorem cmp_Compare_string_hn : fnB Tryz.prog 95 = true := by kernel_rfl
theorem cmp_Compare_string_pu {args : List V} {st : List SO} {res : V} (an : Ann) (ha : args.length ≤ 20) (hres : noRef res = true) (h : wpM ⟨Tryz.prog, GW, 20, st.length⟩ an cmp_Compare_string_ks cmp_Compare_string_L (argE args 0) st (EndsP ⟨Tryz.prog, GW, 20, st.length⟩ [ResultVar.tmp 4] res st)) : FnOK Tryz.prog GW 95 args st res st :=
  fn_pure Tryz.func95 cmp_Compare_string_hr cmp_Compare_string_hl cmp_Compare_string_hk cmp_Compare_string_hb rfl cmp_Compare_string_hn an ha hres h
/-! cmp.Or[int] -/
def cmp_Or_int_R0 : List Itm := [.one ⟨some 2, Op.assign (Operand.const (Value.int IntKind.i64 0)), none⟩]
def cmp_Or_int_R1 : List Itm := [.one ⟨some 3, Op.assign (Operand.const (Value.int IntKind.i64 0)), none⟩]
def cmp_Or_int_R2 : List Itm := [.one ⟨some 6, Op.move (Operand.tmp 0), none⟩,
  .one ⟨some 7, Op.call { callee := Callee.builtin Builtin.len, args := #[Operand.tmp 6], argTypes := #[84] }, none⟩,
  .one ⟨some 8, Op.move (Operand.const (Value.int IntKind.i64 0)), none⟩]
def cmp_Or_int_R3 : List Itm := [.one ⟨some 9, Op.binOp BinOp.lss 3 (Operand.tmp 8) (Operand.tmp 7) 3, none⟩]
def cmp_Or_int_R4 : List Itm := [.one ⟨some 10, Op.indexAddr 84 (Operand.tmp 6) (Operand.tmp 8), none⟩,
  .one ⟨some 11, Op.load 3 (Operand.tmp 10), none⟩,
  .one ⟨some 5, Op.assign (Operand.tmp 11), none⟩]
def cmp_Or_int_R5 : List Itm := [.one ⟨some 12, Op.move (Operand.tmp 5), none⟩,
  .one ⟨some 13, Op.move (Operand.tmp 3), none⟩,
  .one ⟨some 14, Op.binOp BinOp.neq 3 (Operand.tmp 12) (Operand.tmp 13) 3, none⟩]
def cmp_Or_int_R6 : List Itm := [.one ⟨some 15, Op.move (Operand.tmp 5), none⟩,
  .one ⟨some 2, Op.assign (Operand.tmp 15), none⟩]
def cmp_Or_int_B1 : MCode := (.seq (.reg 4 cmp_Or_int_R4 false) (.seq (.reg 5 cmp_Or_int_R5 false) (.cond (Operand.tmp 14) (.seq (.reg 6 cmp_Or_int_R6 false) .ret) .skip)))
def cmp_Or_int_R7 : List Itm := [.one ⟨some 16, Op.binOp BinOp.add 3 (Operand.tmp 8) (Operand.const (Value.int IntKind.i64 1)) 3, none⟩,
  .one ⟨some 8, Op.move (Operand.tmp 16), none⟩]
def cmp_Or_int_W1 : MCode := (.seq (.reg 3 cmp_Or_int_R3 false) (.seq (.cond (Operand.tmp 9) .skip (.exit 0)) (.seq (.block 1 cmp_Or_int_B1) (.reg 7 cmp_Or_int_R7 false))))
def cmp_Or_int_B0 : MCode := (.loop cmp_Or_int_W1)
def cmp_Or_int_R8 : List Itm := [.one ⟨some 17, Op.move (Operand.tmp 3), none⟩,
  .one ⟨some 2, Op.assign (Operand.tmp 17), none⟩]
def cmp_Or_int_L : MCode := (.seq (.reg 0 cmp_Or_int_R0 false) (.seq (.reg 1 cmp_Or_int_R1 false) (.seq (.seq (.reg 2 cmp_Or_int_R2 false) (.block 0 cmp_Or_int_B0)) (.seq (.reg 8 cmp_Or_int_R8 false) .ret))))
def cmp_Or_int_ks : Nat → List Nat := fun i => match i with
  | _ => []
theorem cmp_Or_int_hl : Tryz.f99.body.map light = some cmp_Or_int_L.flat := by kernel_rfl
theorem cmp_Or_int_hk : cmp_Or_int_L.ok = true := by kernel_rfl
theorem cmp_Or_int_hb : Tryz.f99.body.map (codeB 18 cmp_Or_int_ks) = some true := by kernel_rfl
theorem cmp_Or_int_hr : Tryz.f99.results.toList = [ResultVar.tmp 2] := rfl
theorem cmp_Or_int_hn : fnB Tryz.prog 99 = true := by kernel_rfl
theorem cmp_Or_int_pu {args : List V} {st : List SO} {res : V} (an : Ann) (ha : args.length ≤ 18) (hres : noRef res = true) (h : wpM ⟨Tryz.prog, GW, 18, st.length⟩ an cmp_Or_int_ks cmp_Or_int_L (argE args 0) st (EndsP ⟨Tryz.prog, GW, 18, st.length⟩ [ResultVar.tmp 2] res st)) : FnOK Tryz.prog GW 99 args st res st :=
  fn_pure Tryz.func99 cmp_Or_int_hr cmp_Or_int_hl cmp_Or_int_hk cmp_Or_int_hb rfl cmp_Or_int_hn an ha hres h
/-! cmp.Compare[int] -/
def cmp_Compare_int_R0 : List Itm := [.one ⟨some 4, Op.assign (Operand.const (Value.int IntKind.i64 0)), none⟩]
def cmp_Compare_int_R1 : List Itm := [.one ⟨some 7, Op.move (Operand.tmp 0), none⟩,
  .one ⟨some 8, Op.call { callee := Callee.value (Operand.func 136), args := #[Operand.tmp 7], argTypes := #[3] }, none⟩,
  .one ⟨some 5, Op.assign (Operand.tmp 8), none⟩]
def cmp_Compare_int_R2 : List Itm := [.one ⟨some 9, Op.move (Operand.tmp 1), none⟩,
  .one ⟨some 10, Op.call { callee := Callee.value (Operand.func 136), args := #[Operand.tmp 9], argTypes := #[3] }, none⟩,
  .one ⟨some 6, Op.assign (Operand.tmp 10), none⟩]
def cmp_Compare_int_R3 : List Itm := [.one ⟨some 11, Op.move (Operand.tmp 5), none⟩]
def cmp_Compare_int_R4 : List Itm := [.one ⟨some 12, Op.move (Operand.tmp 6), none⟩]
def cmp_Compare_int_R5 : List Itm := [.one ⟨some 4, Op.assign (Operand.const (Value.int IntKind.i64 0)), none⟩]
def cmp_Compare_int_R6 : List Itm := [.one ⟨some 4, Op.assign (Operand.const (Value.int IntKind.i64 (-1))), none⟩]
def cmp_Compare_int_R7 : List Itm := [.one ⟨some 13, Op.move (Operand.tmp 6), none⟩]
def cmp_Compare_int_R8 : List Itm := [.one ⟨some 4, Op.assign (Operand.const (Value.int IntKind.i64 1)), none⟩]
def cmp_Compare_int_R9 : List Itm := [.one ⟨some 14, Op.move (Operand.tmp 0), none⟩,
  .one ⟨some 15, Op.move (Operand.tmp 1), none⟩,
  .one ⟨some 16, Op.binOp BinOp.lss 3 (Operand.tmp 14) (Operand.tmp 15) 3, none⟩]
def cmp_Compare_int_R10 : List Itm := [.one ⟨some 4, Op.assign (Operand.const (Value.int IntKind.i64 (-1))), none⟩]
def cmp_Compare_int_R11 : List Itm := [.one ⟨some 17, Op.move (Operand.tmp 0), none⟩,
  .one ⟨some 18, Op.move (Operand.tmp 1), none⟩,
  .one ⟨some 19, Op.binOp BinOp.gtr 3 (Operand.tmp 17) (Operand.tmp 18) 3, none⟩]
def cmp_Compare_int_R12 : List Itm := [.one ⟨some 4, Op.assign (Operand.const (Value.int IntKind.i64 1)), none⟩]
def cmp_Compare_int_R13 : List Itm := [.one ⟨some 4, Op.assign (Operand.const (Value.int IntKind.i64 0)), none⟩]
def cmp_Compare_int_L : MCode := (.seq (.reg 0 cmp_Compare_int_R0 false) (.seq (.reg 1 cmp_Compare_int_R1 false) (.seq (.reg 2 cmp_Compare_int_R2 false) (.seq (.seq (.reg 3 cmp_Compare_int_R3 false) (.cond (Operand.tmp 11) (.seq (.seq (.reg 4 cmp_Compare_int_R4 false) (.cond (Operand.tmp 12) (.seq (.reg 5 cmp_Compare_int_R5 false) .ret) .skip)) (.seq (.reg 6 cmp_Compare_int_R6 false) .ret)) .skip)) (.seq (.seq (.reg 7 cmp_Compare_int_R7 false) (.cond (Operand.tmp 13) (.seq (.reg 8 cmp_Compare_int_R8 false) .ret) .skip)) (.seq (.seq (.reg 9 cmp_Compare_int_R9 false) (.cond (Operand.tmp 16) (.seq (.reg 10 cmp_Compare_int_R10 false) .ret) .skip)) (.seq (.seq (.reg 11 cmp_Compare_int_R11 false) (.cond (Operand.tmp 19) (.seq (.reg 12 cmp_Compare_int_R12 false) .ret) .skip)) (.seq (.reg 13 cmp_Compare_int_R13 false) .ret))))))))
def cmp_Compare_int_ks : Nat → List Nat := fun i => match i with
  | _ => []
theorem cmp_Compare_int_hl : Tryz.f100.body.map light = some cmp_Compare_int_L.flat := by kernel_rfl
theorem cmp_Compare_int_hk : cmp_Compare_int_L.ok = true := by kernel_rfl
theorem cmp_Compare_int_hb : Tryz.f100.body.map (codeB 20 cmp_Compare_int_ks) = some true := by kernel_rfl
theorem cmp_Compare_int_hr : Tryz.f100.results.toList = [ResultVar.tmp 4] := rfl
theorem cmp_Compare_int_hn : fnB Tryz.prog 100 = true := by kernel_rfl
theorem cmp_Compare_int_pu {args : List V} {st : List SO} {res : V} (an : Ann) (ha : args.length ≤ 20) (hres : noRef res = true) (h : wpM ⟨Tryz.prog, GW, 20, st.length⟩ an cmp_Compare_int_ks cmp_Compare_int_L (argE args 0) st (EndsP ⟨Tryz.prog, GW, 20, st.length⟩ [ResultVar.tmp 4] res st)) : FnOK Tryz.prog GW 100 args st res st :=
  fn_pure Tryz.func100 cmp_Compare_int_hr cmp_Compare_int_hl cmp_Compare_int_hk cmp_Compare_int_hb rfl cmp_Compare_int_hn an ha hres h
/-! cmp.isNaN[int] -/
def cmp_isNaN_int_R0 : List Itm := [.one ⟨some 2, Op.assign (Operand.const (Value.bool false)), none⟩]
def cmp_isNaN_int_R1 : List Itm := [.one ⟨some 3, Op.move (Operand.tmp 0), none⟩,
  .one ⟨some 4, Op.move (Operand.tmp 0), none⟩,
  .one ⟨some 5, Op.binOp BinOp.neq 3 (Operand.tmp 3) (Operand.tmp 4) 3, none⟩,
  .one ⟨some 2, Op.assign (Operand.tmp 5), none⟩]
def cmp_isNaN_int_L : MCode := (.seq (.reg 0 cmp_isNaN_int_R0 false) (.seq (.reg 1 cmp_isNaN_int_R1 false) .ret))
def cmp_isNaN_int_ks : Nat → List Nat := fun i => match i with
  | _ => []
theorem cmp_isNaN_int_hl : Tryz.f136.body.map light = some cmp_isNaN_int_L.flat := by kernel_rfl
theorem cmp_isNaN_int_hk : cmp_isNaN_int_L.ok = true := by kernel_rfl
theorem cmp_isNaN_int_hb : Tryz.f136.body.map (codeB 6 cmp_isNaN_int_ks) = some true := by kernel_rfl
theorem cmp_isNaN_int_hr : Tryz.f136.results.toList = [ResultVar.tmp 2] := rfl
theorem cmp_isNaN_int_hn : fnB Tryz.prog 136 = true := by kernel_rfl
theorem cmp_isNaN_int_pu {args : List V} {st : List SO} {res : V} (an : Ann) (ha : args.length ≤ 6) (hres : noRef res = true) (h : wpM ⟨Tryz.prog, GW, 6, st.length⟩ an cmp_isNaN_int_ks cmp_isNaN_int_L (argE args 0) st (EndsP ⟨Tryz.prog, GW, 6, st.length⟩ [ResultVar.tmp 2] res st)) : FnOK Tryz.prog GW 136 args st res st :=
  fn_pure Tryz.func136 cmp_isNaN_int_hr cmp_isNaN_int_hl cmp_isNaN_int_hk cmp_isNaN_int_hb rfl cmp_isNaN_int_hn an ha hres h
/-! cmp.isNaN[string] -/
def cmp_isNaN_string_R0 : List Itm := [.one ⟨some 2, Op.assign (Operand.const (Value.bool false)), none⟩]
def cmp_isNaN_string_R1 : List Itm := [.one ⟨some 3, Op.move (Operand.tmp 0), none⟩,
  .one ⟨some 4, Op.move (Operand.tmp 0), none⟩,
  .one ⟨some 5, Op.binOp BinOp.neq 9 (Operand.tmp 3) (Operand.tmp 4) 9, none⟩,
  .one ⟨some 2, Op.assign (Operand.tmp 5), none⟩]
def cmp_isNaN_string_L : MCode := (.seq (.reg 0 cmp_isNaN_string_R0 false) (.seq (.reg 1 cmp_isNaN_string_R1 false) .ret))
def cmp_isNaN_string_ks : Nat → List Nat := fun i => match i with
  | _ => []
theorem cmp_isNaN_string_hl : Tryz.f133.body.map light = some cmp_isNaN_string_L.flat := by kernel_rfl
theorem cmp_isNaN_string_hk : cmp_isNaN_string_L.ok = true := by kernel_rfl
theorem cmp_isNaN_string_hb : Tryz.f133.body.map (codeB 6 cmp_isNaN_string_ks) = some true := by kernel_rfl
theorem cmp_isNaN_string_hr : Tryz.f133.results.toList = [ResultVar.tmp 2] := rfl
theorem cmp_isNaN_string_hn : fnB Tryz.prog 133 = true := by kernel_rfl
theorem cmp_isNaN_string_pu {args : List V} {st : List SO} {res : V} (an : Ann) (ha : args.length ≤ 6) (hres : noRef res = true) (h : wpM ⟨Tryz.prog, GW, 6, st.length⟩ an cmp_isNaN_string_ks cmp_isNaN_string_L (argE args 0) st (EndsP ⟨Tryz.prog, GW, 6, st.length⟩ [ResultVar.tmp 2] res st)) : FnOK Tryz.prog GW 133 args st res st :=
  fn_pure Tryz.func133 cmp_isNaN_string_hr cmp_isNaN_string_hl cmp_isNaN_string_hk cmp_isNaN_string_hb rfl cmp_isNaN_string_hn an ha hres h
/-! agora/lists.Of -/
def lists_Of_R0 : List Itm := [.one ⟨some 6, Op.assign (Operand.const (Value.slice none 0 0)), none⟩]
def lists_Of_R1 : List Itm := [.one ⟨some 19, Op.makeMap 96 none, none⟩,
  .one ⟨some 7, Op.assign (Operand.tmp 19), none⟩]
def lists_Of_R2 : List Itm := [.one ⟨some 20, Op.move (Operand.tmp 1), none⟩,
  .one ⟨some 21, Op.call { callee := Callee.builtin Builtin.len, args := #[Operand.tmp 20], argTypes := #[23] }, none⟩,
  .one ⟨some 22, Op.move (Operand.const (Value.int IntKind.i64 0)), none⟩]
def lists_Of_R3 : List Itm := [.one ⟨some 23, Op.binOp BinOp.lss 3 (Operand.tmp 22) (Operand.tmp 21) 3, none⟩]
def lists_Of_R4 : List Itm := [.one ⟨some 24, Op.indexAddr 23 (Operand.tmp 20) (Operand.tmp 22), none⟩,
  .one ⟨some 25, Op.load 9 (Operand.tmp 24), none⟩,
  .one ⟨some 9, Op.assign (Operand.tmp 25), none⟩]
def lists_Of_R5 : List Itm := [.one ⟨some 26, Op.move (Operand.tmp 0), none⟩,
  .one ⟨some 27, Op.move (Operand.tmp 9), none⟩,
  .one ⟨some 28, Op.call { callee := Callee.value (Operand.func 54), args := #[Operand.tmp 26, Operand.tmp 27], argTypes := #[22, 9] }, none⟩,
  .one ⟨some 10, Op.assign (Operand.tmp 28), none⟩]
def lists_Of_R6 : List Itm := [.one ⟨some 29, Op.move (Operand.tmp 10), none⟩,
  .one ⟨some 30, Op.call { callee := Callee.value (Operand.func 56), args := #[Operand.tmp 29], argTypes := #[97] }, none⟩,
  .one ⟨some 31, Op.call { callee := Callee.value (Operand.func 55), args := #[Operand.tmp 30], argTypes := #[101] }, none⟩,
  .one ⟨some 32, Op.call { callee := Callee.builtin Builtin.len, args := #[Operand.tmp 31], argTypes := #[84] }, none⟩,
  .one ⟨some 33, Op.move (Operand.const (Value.int IntKind.i64 0)), none⟩]
def lists_Of_R7 : List Itm := [.one ⟨some 34, Op.binOp BinOp.lss 3 (Operand.tmp 33) (Operand.tmp 32) 3, none⟩]
def lists_Of_R8 : List Itm := [.one ⟨some 35, Op.indexAddr 84 (Operand.tmp 31) (Operand.tmp 33), none⟩,
  .one ⟨some 36, Op.load 3 (Operand.tmp 35), none⟩,
  .one ⟨some 12, Op.assign (Operand.tmp 36), none⟩]
def lists_Of_R9 : List Itm := [.one ⟨some 37, Op.move (Operand.tmp 10), none⟩,
  .one ⟨some 38, Op.move (Operand.tmp 12), none⟩,
  .one ⟨some 39, Op.lookup 97 (Operand.tmp 37) (Operand.tmp 38) false, none⟩,
  .one ⟨some 13, Op.alloc 104, none⟩,
  .one ⟨none, Op.store 104 (Operand.tmp 13) (Operand.tmp 39), none⟩]
def lists_Of_R10 : List Itm := [.one ⟨some 41, Op.move (Operand.tmp 7), none⟩,
  .one ⟨some 42, Op.fieldAddr 104 (Operand.tmp 13) 0, none⟩,
  .one ⟨some 43, Op.fieldAddr 30 (Operand.tmp 42) 0, none⟩,
  .one ⟨some 44, Op.load 9 (Operand.tmp 43), none⟩,
  .one ⟨some 45, Op.lookup 96 (Operand.tmp 41) (Operand.tmp 44) true, none⟩,
  .one ⟨some 40, Op.move (Operand.tmp 45), none⟩,
  .one ⟨some 46, Op.extract (Operand.tmp 40) 0, none⟩,
  .one ⟨some 47, Op.extract (Operand.tmp 40) 1, none⟩,
  .one ⟨some 14, Op.alloc 104, none⟩,
  .one ⟨none, Op.store 104 (Operand.tmp 14) (Operand.tmp 46), none⟩,
  .one ⟨some 15, Op.assign (Operand.tmp 47), none⟩]
def lists_Of_R11 : List Itm := [.one ⟨some 48, Op.fieldAddr 104 (Operand.tmp 13) 0, none⟩,
  .one ⟨some 49, Op.fieldAddr 30 (Operand.tmp 48) 3, none⟩,
  .one ⟨some 50, Op.load 3 (Operand.tmp 49), none⟩,
  .one ⟨some 51, Op.move (Operand.tmp 2), none⟩,
  .one ⟨some 52, Op.binOp BinOp.gtr 3 (Operand.tmp 50) (Operand.tmp 51) 3, none⟩,
  .one ⟨some 53, Op.move (Operand.tmp 52), none⟩,
  .blk 5 true [.one ⟨some 54, Op.move (Operand.tmp 15), some (5, true)⟩,
  .one ⟨some 55, Op.unOp UnOp.not 4 (Operand.tmp 54), some (5, true)⟩,
  .one ⟨some 56, Op.move (Operand.tmp 55), some (5, true)⟩,
  .blk 8 false [.one ⟨some 57, Op.load 104 (Operand.tmp 14), some (8, false)⟩,
  .one ⟨some 58, Op.load 104 (Operand.tmp 13), some (8, false)⟩,
  .one ⟨some 59, Op.binOp BinOp.neq 104 (Operand.tmp 57) (Operand.tmp 58) 104, some (8, false)⟩,
  .one ⟨some 60, Op.move (Operand.tmp 59), some (8, false)⟩,
  .blk 12 true [.one ⟨some 61, Op.load 104 (Operand.tmp 13), some (12, true)⟩,
  .one ⟨some 62, Op.load 104 (Operand.tmp 14), some (12, true)⟩,
  .one ⟨some 63, Op.call { callee := Callee.value (Operand.func 57), args := #[Operand.tmp 61, Operand.tmp 62], argTypes := #[104, 104] }, some (12, true)⟩,
  .one ⟨some 64, Op.binOp BinOp.gtr 3 (Operand.tmp 63) (Operand.const (Value.int IntKind.i64 0)) 3, some (12, true)⟩] ⟨some 65, Op.pick (Operand.tmp 60) (Operand.tmp 64) (Operand.const (Value.bool false)), some (8, false)⟩] ⟨some 66, Op.pick (Operand.tmp 56) (Operand.const (Value.bool true)) (Operand.tmp 65), some (5, true)⟩] ⟨some 67, Op.pick (Operand.tmp 53) (Operand.tmp 66) (Operand.const (Value.bool false)), none⟩]
def lists_Of_R12 : List Itm := [.one ⟨some 68, Op.move (Operand.tmp 7), none⟩,
  .one ⟨some 69, Op.fieldAddr 104 (Operand.tmp 13) 0, none⟩,
  .one ⟨some 70, Op.fieldAddr 30 (Operand.tmp 69) 0, none⟩,
  .one ⟨some 71, Op.load 9 (Operand.tmp 70), none⟩,
  .one ⟨some 72, Op.load 104 (Operand.tmp 13), none⟩,
  .one ⟨none, Op.mapUpdate 96 (Operand.tmp 68) (Operand.tmp 71) (Operand.tmp 72), none⟩]
def lists_Of_B3 : MCode := (.seq (.reg 8 lists_Of_R8 false) (.seq (.reg 9 lists_Of_R9 false) (.seq (.reg 10 lists_Of_R10 false) (.seq (.reg 11 lists_Of_R11 false) (.cond (Operand.tmp 67) (.reg 12 lists_Of_R12 false) .skip)))))
def lists_Of_R13 : List Itm := [.one ⟨some 73, Op.binOp BinOp.add 3 (Operand.tmp 33) (Operand.const (Value.int IntKind.i64 1)) 3, none⟩,
  .one ⟨some 33, Op.move (Operand.tmp 73), none⟩]
def lists_Of_W1 : MCode := (.seq (.reg 7 lists_Of_R7 false) (.seq (.cond (Operand.tmp 34) .skip (.exit 2)) (.seq (.block 3 lists_Of_B3) (.reg 13 lists_Of_R13 false))))
def lists_Of_B2 : MCode := (.loop lists_Of_W1)
def lists_Of_B1 : MCode := (.seq (.reg 4 lists_Of_R4 false) (.seq (.reg 5 lists_Of_R5 false) (.seq (.reg 6 lists_Of_R6 false) (.block 2 lists_Of_B2))))
def lists_Of_R14 : List Itm := [.one ⟨some 74, Op.binOp BinOp.add 3 (Operand.tmp 22) (Operand.const (Value.int IntKind.i64 1)) 3, none⟩,
  .one ⟨some 22, Op.move (Operand.tmp 74), none⟩]
def lists_Of_W2 : MCode := (.seq (.reg 3 lists_Of_R3 false) (.seq (.cond (Operand.tmp 23) .skip (.exit 0)) (.seq (.block 1 lists_Of_B1) (.reg 14 lists_Of_R14 false))))
def lists_Of_B0 : MCode := (.loop lists_Of_W2)
def lists_Of_R15 : List Itm := [.one ⟨some 16, Op.assign (Operand.const (Value.slice none 0 0)), none⟩]
def lists_Of_R16 : List Itm := [.one ⟨some 75, Op.move (Operand.tmp 7), none⟩,
  .one ⟨some 76, Op.call { callee := Callee.value (Operand.func 59), args := #[Operand.tmp 75], argTypes := #[96] }, none⟩,
  .one ⟨some 77, Op.call { callee := Callee.value (Operand.func 58), args := #[Operand.tmp 76], argTypes := #[109] }, none⟩,
  .one ⟨some 78, Op.call { callee := Callee.builtin Builtin.len, args := #[Operand.tmp 77], argTypes := #[23] }, none⟩,
  .one ⟨some 79, Op.move (Operand.const (Value.int IntKind.i64 0)), none⟩]
def lists_Of_R17 : List Itm := [.one ⟨some 80, Op.binOp BinOp.lss 3 (Operand.tmp 79) (Operand.tmp 78) 3, none⟩]
def lists_Of_R18 : List Itm := [.one ⟨some 81, Op.indexAddr 23 (Operand.tmp 77) (Operand.tmp 79), none⟩,
  .one ⟨some 82, Op.load 9 (Operand.tmp 81), none⟩,
  .one ⟨some 18, Op.assign (Operand.tmp 82), none⟩]
def lists_Of_R19 : List Itm := [.one ⟨some 83, Op.move (Operand.tmp 16), none⟩,
  .one ⟨some 84, Op.move (Operand.tmp 7), none⟩,
  .one ⟨some 85, Op.move (Operand.tmp 18), none⟩,
  .one ⟨some 86, Op.lookup 96 (Operand.tmp 84) (Operand.tmp 85) false, none⟩,
  .one ⟨some 87, Op.field 104 (Operand.tmp 86) 0, none⟩,
  .one ⟨some 88, Op.buildSlice 26 1 #[(0, Operand.tmp 87)], none⟩,
  .one ⟨some 89, Op.call { callee := Callee.builtin Builtin.append, args := #[Operand.tmp 83, Operand.tmp 88], argTypes := #[26, 26] }, none⟩,
  .one ⟨some 16, Op.assign (Operand.tmp 89), none⟩]
def lists_Of_B5 : MCode := (.seq (.reg 18 lists_Of_R18 false) (.reg 19 lists_Of_R19 false))
def lists_Of_R20 : List Itm := [.one ⟨some 90, Op.binOp BinOp.add 3 (Operand.tmp 79) (Operand.const (Value.int IntKind.i64 1)) 3, none⟩,
  .one ⟨some 79, Op.move (Operand.tmp 90), none⟩]
def lists_Of_W3 : MCode := (.seq (.reg 17 lists_Of_R17 false) (.seq (.cond (Operand.tmp 80) .skip (.exit 4)) (.seq (.block 5 lists_Of_B5) (.reg 20 lists_Of_R20 false))))
def lists_Of_B4 : MCode := (.loop lists_Of_W3)
def lists_Of_R21 : List Itm := [.one ⟨some 91, Op.move (Operand.tmp 16), none⟩,
  .one ⟨some 6, Op.assign (Operand.tmp 91), none⟩]
def lists_Of_L : MCode := (.seq (.reg 0 lists_Of_R0 false) (.seq (.reg 1 lists_Of_R1 false) (.seq (.seq (.reg 2 lists_Of_R2 false) (.block 0 lists_Of_B0)) (.seq (.reg 15 lists_Of_R15 false) (.seq (.seq (.reg 16 lists_Of_R16 false) (.block 4 lists_Of_B4)) (.seq (.reg 21 lists_Of_R21 false) .ret))))))
def lists_Of_ks : Nat → List Nat := fun i => match i with
  | _ => []
theorem lists_Of_hl : Tryz.f17.body.map light = some lists_Of_L.flat := by kernel_rfl
theorem lists_Of_hk : lists_Of_L.ok = true := by kernel_rfl
theorem lists_Of_hb : Tryz.f17.body.map (codeB 92 lists_Of_ks) = some true := by kernel_rfl
theorem lists_Of_hr : Tryz.f17.results.toList = [ResultVar.tmp 6] := rfl
theorem lists_Of_hn : fnB Tryz.prog 17 = true := by kernel_rfl
theorem lists_Of_pu {args : List V} {st : List SO} {res : V} (an : Ann) (ha : args.length ≤ 92) (hres : noRef res = true) (h : wpM ⟨Tryz.prog, GW, 92, st.length⟩ an lists_Of_ks lists_Of_L (argE args 0) st (EndsP ⟨Tryz.prog, GW, 92, st.length⟩ [ResultVar.tmp 6] res st)) : FnOK Tryz.prog GW 17 args st res st :=
  fn_pure Tryz.func17 lists_Of_hr lists_Of_hl lists_Of_hk lists_Of_hb rfl lists_Of_hn an ha hres h
/-! agora/agoraref37.Same -/
def agoraref37_Same_R0 : List Itm := [.one ⟨some 4, Op.assign (Operand.const (Value.bool false)), none⟩]
def agoraref37_Same_R1 : List Itm := [.one ⟨some 6, Op.move (Operand.tmp 0), none⟩,
  .one ⟨some 7, Op.call { callee := Callee.builtin Builtin.len, args := #[Operand.tmp 6], argTypes := #[26] }, none⟩,
  .one ⟨some 8, Op.move (Operand.tmp 1), none⟩,
  .one ⟨some 9, Op.call { callee := Callee.builtin Builtin.len, args := #[Operand.tmp 8], argTypes := #[26] }, none⟩,
  .one ⟨some 10, Op.binOp BinOp.neq 3 (Operand.tmp 7) (Operand.tmp 9) 3, none⟩]
def agoraref37_Same_R2 : List Itm := [.one ⟨some 4, Op.assign (Operand.const (Value.bool false)), none⟩]
def agoraref37_Same_R3 : List Itm := [.one ⟨some 5, Op.assign (Operand.const (Value.int IntKind.i64 0)), none⟩]
def agoraref37_Same_R4 : List Itm := [.one ⟨some 11, Op.move (Operand.tmp 5), none⟩,
  .one ⟨some 12, Op.move (Operand.tmp 0), none⟩,
  .one ⟨some 13, Op.call { callee := Callee.builtin Builtin.len, args := #[Operand.tmp 12], argTypes := #[26] }, none⟩,
  .one ⟨some 14, Op.binOp BinOp.lss 3 (Operand.tmp 11) (Operand.tmp 13) 3, none⟩]
def agoraref37_Same_R6 : List Itm := [.one ⟨some 17, Op.move (Operand.tmp 0), none⟩,
  .one ⟨some 18, Op.move (Operand.tmp 5), none⟩,
  .one ⟨some 19, Op.indexAddr 26 (Operand.tmp 17) (Operand.tmp 18), none⟩,
  .one ⟨some 20, Op.load 30 (Operand.tmp 19), none⟩,
  .one ⟨some 21, Op.move (Operand.tmp 1), none⟩,
  .one ⟨some 22, Op.move (Operand.tmp 5), none⟩,
  .one ⟨some 23, Op.indexAddr 26 (Operand.tmp 21) (Operand.tmp 22), none⟩,
  .one ⟨some 24, Op.load 30 (Operand.tmp 23), none⟩,
  .one ⟨some 25, Op.binOp BinOp.neq 30 (Operand.tmp 20) (Operand.tmp 24) 30, none⟩]
def agoraref37_Same_R7 : List Itm := [.one ⟨some 4, Op.assign (Operand.const (Value.bool false)), none⟩]
def agoraref37_Same_B1 : MCode := (.seq (.reg 6 agoraref37_Same_R6 true) (.cond (Operand.tmp 25) (.seq (.reg 7 agoraref37_Same_R7 false) .ret) .skip))
def agoraref37_Same_R5 : List Itm := [.one ⟨some 15, Op.move (Operand.tmp 5), none⟩,
  .one ⟨some 16, Op.binOp BinOp.add 3 (Operand.tmp 15) (Operand.const (Value.int IntKind.i64 1)) 3, none⟩,
  .one ⟨some 5, Op.assign (Operand.tmp 16), none⟩]
def agoraref37_Same_W1 : MCode := (.seq (.seq (.reg 4 agoraref37_Same_R4 false) (.cond (Operand.tmp 14) .skip (.exit 0))) (.seq (.block 1 agoraref37_Same_B1) (.reg 5 agoraref37_Same_R5 false)))
def agoraref37_Same_B0 : MCode := (.loop agoraref37_Same_W1)
def agoraref37_Same_R8 : List Itm := [.one ⟨some 4, Op.assign (Operand.const (Value.bool true)), none⟩]
def agoraref37_Same_L : MCode := (.seq (.reg 0 agoraref37_Same_R0 false) (.seq (.seq (.reg 1 agoraref37_Same_R1 false) (.cond (Operand.tmp 10) (.seq (.reg 2 agoraref37_Same_R2 false) .ret) .skip)) (.seq (.seq (.reg 3 agoraref37_Same_R3 false) (.block 0 agoraref37_Same_B0)) (.seq (.reg 8 agoraref37_Same_R8 false) .ret))))
def agoraref37_Same_ks : Nat → List Nat := fun i => match i with
  | 6 => [0, 0, 0, 0, 0, 0, 0, 0, 0]
  | _ => []
theorem agoraref37_Same_hl : Tryz.f18.body.map light = some agoraref37_Same_L.flat := by kernel_rfl
theorem agoraref37_Same_hk : agoraref37_Same_L.ok = true := by kernel_rfl
theorem agoraref37_Same_hb : Tryz.f18.body.map (codeB 26 agoraref37_Same_ks) = some true := by kernel_rfl
theorem agoraref37_Same_hr : Tryz.f18.results.toList = [ResultVar.tmp 4] := rfl
theorem agoraref37_Same_hn : fnB Tryz.prog 18 = true := by kernel_rfl
theorem agoraref37_Same_pu {args : List V} {st : List SO} {res : V} (an : Ann) (ha : args.length ≤ 26) (hres : noRef res = true) (h : wpM ⟨Tryz.prog, GW, 26, st.length⟩ an agoraref37_Same_ks agoraref37_Same_L (argE args 0) st (EndsP ⟨Tryz.prog, GW, 26, st.length⟩ [ResultVar.tmp 4] res st)) : FnOK Tryz.prog GW 18 args st res st :=
  fn_pure Tryz.func18 agoraref37_Same_hr agoraref37_Same_hl agoraref37_Same_hk agoraref37_Same_hb rfl agoraref37_Same_hn an ha hres h
/-! slices.IndexFunc[list of agora/api.Listing,agora/api.Listing] -/
def slices_IndexFunc_Lapi_Listing_api_Listing_R0 : List Itm := [.one ⟨some 4, Op.assign (Operand.const (Value.int IntKind.i64 0)), none⟩]
def slices_IndexFunc_Lapi_Listing_api_Listing_R1 : List Itm := [.one ⟨some 6, Op.move (Operand.tmp 0), none⟩,
  .one ⟨some 7, Op.call { callee := Callee.builtin Builtin.len, args := #[Operand.tmp 6], argTypes := #[26] }, none⟩,
  .one ⟨some 8, Op.move (Operand.const (Value.int IntKind.i64 0)), none⟩]
def slices_IndexFunc_Lapi_Listing_api_Listing_R2 : List Itm := [.one ⟨some 9, Op.binOp BinOp.lss 3 (Operand.tmp 8) (Operand.tmp 7) 3, none⟩]
def slices_IndexFunc_Lapi_Listing_api_Listing_R3 : List Itm := [.one ⟨some 10, Op.move (Operand.tmp 8), none⟩,
  .one ⟨some 5, Op.assign (Operand.tmp 10), none⟩]
def slices_IndexFunc_Lapi_Listing_api_Listing_R4 : List Itm := [.one ⟨some 11, Op.move (Operand.tmp 1), none⟩,
  .one ⟨some 12, Op.move (Operand.tmp 0), none⟩,
  .one ⟨some 13, Op.move (Operand.tmp 5), none⟩,
  .one ⟨some 14, Op.indexAddr 26 (Operand.tmp 12) (Operand.tmp 13), none⟩,
  .one ⟨some 15, Op.load 30 (Operand.tmp 14), none⟩,
  .one ⟨some 16, Op.call { callee := Callee.value (Operand.tmp 11), args := #[Operand.tmp 15], argTypes := #[30] }, none⟩]
def slices_IndexFunc_Lapi_Listing_api_Listing_R5 : List Itm := [.one ⟨some 17, Op.move (Operand.tmp 5), none⟩,
  .one ⟨some 4, Op.assign (Operand.tmp 17), none⟩]
def slices_IndexFunc_Lapi_Listing_api_Listing_B1 : MCode := (.seq (.reg 3 slices_IndexFunc_Lapi_Listing_api_Listing_R3 false) (.seq (.reg 4 slices_IndexFunc_Lapi_Listing_api_Listing_R4 false) (.cond (Operand.tmp 16) (.seq (.reg 5 slices_IndexFunc_Lapi_Listing_api_Listing_R5 false) .ret) .skip)))
def slices_IndexFunc_Lapi_Listing_api_Listing_R6 : List Itm := [.one ⟨some 18, Op.binOp BinOp.add 3 (Operand.tmp 8) (Operand.const (Value.int IntKind.i64 1)) 3, none⟩,
  .one ⟨some 8, Op.move (Operand.tmp 18), none⟩]
def slices_IndexFunc_Lapi_Listing_api_Listing_W1 : MCode := (.seq (.reg 2 slices_IndexFunc_Lapi_Listing_api_Listing_R2 false) (.seq (.cond (Operand.tmp 9) .skip (.exit 0)) (.seq (.block 1 slices_IndexFunc_Lapi_Listing_api_Listing_B1) (.reg 6 slices_IndexFunc_Lapi_Listing_api_Listing_R6 false))))
def slices_IndexFunc_Lapi_Listing_api_Listing_B0 : MCode := (.loop slices_IndexFunc_Lapi_Listing_api_Listing_W1)
def slices_IndexFunc_Lapi_Listing_api_Listing_R7 : List Itm := [.one ⟨some 4, Op.assign (Operand.const (Value.int IntKind.i64 (-1))), none⟩]
def slices_IndexFunc_Lapi_Listing_api_Listing_L : MCode := (.seq (.reg 0 slices_IndexFunc_Lapi_Listing_api_Listing_R0 false) (.seq (.seq (.reg 1 slices_IndexFunc_Lapi_Listing_api_Listing_R1 false) (.block 0 slices_IndexFunc_Lapi_Listing_api_Listing_B0)) (.seq (.reg 7 slices_IndexFunc_Lapi_Listing_api_Listing_R7 false) .ret)))
def slices_IndexFunc_Lapi_Listing_api_Listing_ks : Nat → List Nat := fun i => match i with
  | _ => []
theorem slices_IndexFunc_Lapi_Listing_api_Listing_hl : Tryz.f60.body.map light = some slices_IndexFunc_Lapi_Listing_api_Listing_L.flat := by kernel_rfl
theorem slices_IndexFunc_Lapi_Listing_api_Listing_hk : slices_IndexFunc_Lapi_Listing_api_Listing_L.ok = true := by kernel_rfl
theorem slices_IndexFunc_Lapi_Listing_api_Listing_hb : Tryz.f60.body.map (codeB 19 slices_IndexFunc_Lapi_Listing_api_Listing_ks) = some true := by kernel_rfl
theorem slices_IndexFunc_Lapi_Listing_api_Listing_hr : Tryz.f60.results.toList = [ResultVar.tmp 4] := rfl
theorem slices_IndexFunc_Lapi_Listing_api_Listing_hn : fnB Tryz.prog 60 = true := by kernel_rfl
theorem slices_IndexFunc_Lapi_Listing_api_Listing_pu {args : List V} {st : List SO} {res : V} (an : Ann) (ha : args.length ≤ 19) (hres : noRef res = true) (h : wpM ⟨Tryz.prog, GW, 19, st.length⟩ an slices_IndexFunc_Lapi_Listing_api_Listing_ks slices_IndexFunc_Lapi_Listing_api_Listing_L (argE args 0) st (EndsP ⟨Tryz.prog, GW, 19, st.length⟩ [ResultVar.tmp 4] res st)) : FnOK Tryz.prog GW 60 args st res st :=
  fn_pure Tryz.func60 slices_IndexFunc_Lapi_Listing_api_Listing_hr slices_IndexFunc_Lapi_Listing_api_Listing_hl slices_IndexFunc_Lapi_Listing_api_Listing_hk slices_IndexFunc_Lapi_Listing_api_Listing_hb rfl slices_IndexFunc_Lapi_Listing_api_Listing_hn an ha hres h
/-! agora/lists.Has$1 -/
def lists_Has_1_R0 : List Itm := [.one ⟨some 2, Op.box 30 (Operand.tmp 0), none⟩,
  .one ⟨some 3, Op.assign (Operand.const (Value.bool false)), none⟩]
def lists_Has_1_R1 : List Itm := [.one ⟨some 4, Op.fieldAddr 30 (Operand.tmp 2) 0, none⟩,
  .one ⟨some 5, Op.load 9 (Operand.tmp 4), none⟩,
  .one ⟨some 6, Op.load 9 (Operand.tmp 1), none⟩,
  .one ⟨some 7, Op.binOp BinOp.eql 9 (Operand.tmp 5) (Operand.tmp 6) 9, none⟩,
  .one ⟨some 3, Op.assign (Operand.tmp 7), none⟩]
def lists_Has_1_L : MCode := (.seq (.reg 0 lists_Has_1_R0 false) (.seq (.reg 1 lists_Has_1_R1 false) .ret))
def lists_Has_1_ks : Nat → List Nat := fun i => match i with
  | _ => []
theorem lists_Has_1_hl : Tryz.f61.body.map light = some lists_Has_1_L.flat := by kernel_rfl
theorem lists_Has_1_hk : lists_Has_1_L.ok = true := by kernel_rfl
theorem lists_Has_1_hb : Tryz.f61.body.map (codeB 8 lists_Has_1_ks) = some true := by kernel_rfl
theorem lists_Has_1_hr : Tryz.f61.results.toList = [ResultVar.tmp 3] := rfl
theorem lists_Has_1_hn : fnB Tryz.prog 61 = true := by kernel_rfl
theorem lists_Has_1_pu {args : List V} {st : List SO} {res : V} (an : Ann) (ha : args.length ≤ 8) (hres : noRef res = true) (h : wpM ⟨Tryz.prog, GW, 8, st.length⟩ an lists_Has_1_ks lists_Has_1_L (argE args 0) st (EndsP ⟨Tryz.prog, GW, 8, st.length⟩ [ResultVar.tmp 3] res st)) : FnOK Tryz.prog GW 61 args st res st :=
  fn_pure Tryz.func61 lists_Has_1_hr lists_Has_1_hl lists_Has_1_hk lists_Has_1_hb rfl lists_Has_1_hn an ha hres h
/-! agora/lists.Has -/
def lists_Has_R0 : List Itm := [.one ⟨some 3, Op.box 9 (Operand.tmp 1), none⟩,
  .one ⟨some 4, Op.alloc 30, none⟩,
  .one ⟨some 5, Op.assign (Operand.const (Value.bool false)), none⟩]
def lists_Has_R1 : List Itm := [.one ⟨some 7, Op.move (Operand.tmp 0), none⟩,
  .one ⟨some 8, Op.makeFunc (Fn.func 61) #[] #[Operand.tmp 3], none⟩,
  .one ⟨some 9, Op.call { callee := Callee.value (Operand.func 60), args := #[Operand.tmp 7, Operand.tmp 8], argTypes := #[26, 112] }, none⟩,
  .one ⟨some 6, Op.assign (Operand.tmp 9), none⟩]
def lists_Has_R2 : List Itm := [.one ⟨some 10, Op.move (Operand.tmp 6), none⟩,
  .one ⟨some 11, Op.binOp BinOp.geq 3 (Operand.tmp 10) (Operand.const (Value.int IntKind.i64 0)) 3, none⟩]
def lists_Has_R3 : List Itm := [.one ⟨some 12, Op.move (Operand.tmp 0), none⟩,
  .one ⟨some 13, Op.move (Operand.tmp 6), none⟩,
  .one ⟨some 14, Op.indexAddr 26 (Operand.tmp 12) (Operand.tmp 13), none⟩,
  .one ⟨some 15, Op.load 30 (Operand.tmp 14), none⟩,
  .one ⟨none, Op.store 30 (Operand.tmp 4) (Operand.tmp 15), none⟩,
  .one ⟨some 5, Op.assign (Operand.const (Value.bool true)), none⟩]
def lists_Has_R4 : List Itm := [.one ⟨some 16, Op.build 30 #[], none⟩,
  .one ⟨none, Op.store 30 (Operand.tmp 4) (Operand.tmp 16), none⟩,
  .one ⟨some 5, Op.assign (Operand.const (Value.bool false)), none⟩]
def lists_Has_L : MCode := (.seq (.reg 0 lists_Has_R0 false) (.seq (.seq (.reg 1 lists_Has_R1 false) (.seq (.reg 2 lists_Has_R2 false) (.cond (Operand.tmp 11) (.seq (.reg 3 lists_Has_R3 false) .ret) .skip))) (.seq (.reg 4 lists_Has_R4 false) .ret)))
def lists_Has_ks : Nat → List Nat := fun i => match i with
  | _ => []
theorem lists_Has_hl : Tryz.f19.body.map light = some lists_Has_L.flat := by kernel_rfl
theorem lists_Has_hk : lists_Has_L.ok = true := by kernel_rfl
theorem lists_Has_hb : Tryz.f19.body.map (codeB 17 lists_Has_ks) = some true := by kernel_rfl
theorem lists_Has_hr : Tryz.f19.results.toList = [ResultVar.cell 4 30, ResultVar.tmp 5] := rfl
theorem lists_Has_hn : fnB Tryz.prog 19 = true := by kernel_rfl
theorem lists_Has_pu {args : List V} {st : List SO} {res : V} (an : Ann) (ha : args.length ≤ 17) (hres : noRef res = true) (h : wpM ⟨Tryz.prog, GW, 17, st.length⟩ an lists_Has_ks lists_Has_L (argE args 0) st (EndsP ⟨Tryz.prog, GW, 17, st.length⟩ [ResultVar.cell 4 30, ResultVar.tmp 5] res st)) : FnOK Tryz.prog GW 19 args st res st :=
  fn_pure Tryz.func19 lists_Has_hr lists_Has_hl lists_Has_hk lists_Has_hb rfl lists_Has_hn an ha hres h
/-! agora/agoralaw37.small -/
def agoralaw37_small_R0 : List Itm := [.one ⟨some 0, Op.assign (Operand.const (Value.bool false)), none⟩]
def agoralaw37_small_R1 : List Itm := [.one ⟨some 1, Op.assign (Operand.const (Value.string { data := #[48, 48, 48, 48, 48, 48, 48, 48, 48, 48, 48, 48, 48, 48, 97, 49] })), none⟩]
def agoralaw37_small_R2 : List Itm := [.one ⟨some 2, Op.assign (Operand.const (Value.string { data := #[48, 48, 48, 48, 48, 48, 48, 48, 48, 48, 48, 48, 48, 48, 98, 50] })), none⟩]
def agoralaw37_small_R3 : List Itm := [.one ⟨some 11, Op.move (Operand.tmp 1), none⟩,
  .one ⟨some 12, Op.move (Operand.tmp 2), none⟩,
  .one ⟨some 13, Op.build 49 #[(3, Operand.const (Value.int IntKind.i64 23)), (6, Operand.tmp 12), (10, Operand.const (Value.string { data := #[115, 112, 97, 109] })), (14, Operand.const (Value.int IntKind.i64 9))], none⟩,
  .one ⟨some 14, Op.move (Operand.tmp 2), none⟩,
  .one ⟨some 15, Op.build 49 #[(3, Operand.const (Value.int IntKind.i64 23)), (6, Operand.tmp 14), (10, Operand.const (Value.string { data := #[98, 111, 116] })), (14, Operand.const (Value.int IntKind.i64 9))], none⟩,
  .one ⟨some 16, Op.move (Operand.tmp 1), none⟩,
  .one ⟨some 17, Op.build 49 #[(3, Operand.const (Value.int IntKind.i64 23)), (6, Operand.tmp 16), (10, Operand.const (Value.string { data := #[120] })), (14, Operand.const (Value.int IntKind.i64 5))], none⟩,
  .one ⟨some 18, Op.buildSlice 37 3 #[(0, Operand.tmp 13), (1, Operand.tmp 15), (2, Operand.tmp 17)], none⟩,
  .one ⟨some 19, Op.build 40 #[(0, Operand.tmp 11), (1, Operand.tmp 18)], none⟩,
  .one ⟨some 3, Op.alloc 40, none⟩,
  .one ⟨none, Op.store 40 (Operand.tmp 3) (Operand.tmp 19), none⟩]
def agoralaw37_small_R4 : List Itm := [.one ⟨some 20, Op.load 40 (Operand.tmp 3), none⟩,
  .one ⟨some 21, Op.buildSlice 22 1 #[(0, Operand.tmp 20)], none⟩,
  .one ⟨some 22, Op.move (Operand.tmp 1), none⟩,
  .one ⟨some 23, Op.buildSlice 23 1 #[(0, Operand.tmp 22)], none⟩,
  .one ⟨some 24, Op.call { callee := Callee.value (Operand.func 17), args := #[Operand.tmp 21, Operand.tmp 23, Operand.const (Value.int IntKind.i64 5)], argTypes := #[22, 23, 3] }, none⟩,
  .one ⟨some 4, Op.assign (Operand.tmp 24), none⟩]
def agoralaw37_small_R5 : List Itm := [.one ⟨some 26, Op.move (Operand.tmp 4), none⟩,
  .one ⟨some 27, Op.move (Operand.tmp 2), none⟩,
  .one ⟨some 28, Op.call { callee := Callee.value (Operand.func 19), args := #[Operand.tmp 26, Operand.tmp 27], argTypes := #[26, 9] }, none⟩,
  .one ⟨some 25, Op.move (Operand.tmp 28), none⟩,
  .one ⟨some 29, Op.extract (Operand.tmp 25) 0, none⟩,
  .one ⟨some 30, Op.extract (Operand.tmp 25) 1, none⟩,
  .one ⟨some 5, Op.alloc 30, none⟩,
  .one ⟨none, Op.store 30 (Operand.tmp 5) (Operand.tmp 29), none⟩,
  .one ⟨some 6, Op.assign (Operand.tmp 30), none⟩]
def agoralaw37_small_R6 : List Itm := [.one ⟨some 32, Op.move (Operand.tmp 4), none⟩,
  .one ⟨some 33, Op.move (Operand.tmp 1), none⟩,
  .one ⟨some 34, Op.call { callee := Callee.value (Operand.func 19), args := #[Operand.tmp 32, Operand.tmp 33], argTypes := #[26, 9] }, none⟩,
  .one ⟨some 31, Op.move (Operand.tmp 34), none⟩,
  .one ⟨some 35, Op.extract (Operand.tmp 31) 0, none⟩,
  .one ⟨some 36, Op.extract (Operand.tmp 31) 1, none⟩,
  .one ⟨some 7, Op.alloc 30, none⟩,
  .one ⟨none, Op.store 30 (Operand.tmp 7) (Operand.tmp 35), none⟩,
  .one ⟨some 8, Op.assign (Operand.tmp 36), none⟩]
def agoralaw37_small_R7 : List Itm := [.one ⟨some 38, Op.move (Operand.tmp 2), none⟩,
  .one ⟨some 39, Op.call { callee := Callee.value (Operand.func 19), args := #[Operand.const (Value.slice none 0 0), Operand.tmp 38], argTypes := #[26, 9] }, none⟩,
  .one ⟨some 37, Op.move (Operand.tmp 39), none⟩,
  .one ⟨some 40, Op.extract (Operand.tmp 37) 0, none⟩,
  .one ⟨some 41, Op.extract (Operand.tmp 37) 1, none⟩,
  .one ⟨some 9, Op.alloc 30, none⟩,
  .one ⟨none, Op.store 30 (Operand.tmp 9) (Operand.tmp 40), none⟩,
  .one ⟨some 10, Op.assign (Operand.tmp 41), none⟩]
def agoralaw37_small_R8 : List Itm := [.one ⟨some 42, Op.move (Operand.tmp 1), none⟩,
  .one ⟨some 43, Op.buildSlice 23 1 #[(0, Operand.tmp 42)], none⟩,
  .one ⟨some 44, Op.call { callee := Callee.value (Operand.func 17), args := #[Operand.const (Value.slice none 0 0), Operand.tmp 43, Operand.const (Value.int IntKind.i64 0)], argTypes := #[22, 23, 3] }, none⟩,
  .one ⟨some 45, Op.call { callee := Callee.builtin Builtin.len, args := #[Operand.tmp 44], argTypes := #[26] }, none⟩,
  .one ⟨some 46, Op.binOp BinOp.eql 3 (Operand.tmp 45) (Operand.const (Value.int IntKind.i64 0)) 3, none⟩,
  .one ⟨some 47, Op.move (Operand.tmp 46), none⟩,
  .blk 5 true [.one ⟨some 48, Op.move (Operand.tmp 4), some (5, true)⟩,
  .one ⟨some 49, Op.move (Operand.tmp 2), some (5, true)⟩,
  .one ⟨some 50, Op.move (Operand.tmp 1), some (5, true)⟩,
  .one ⟨some 51, Op.build 30 #[(0, Operand.tmp 49), (1, Operand.const (Value.string { data := #[98, 111, 116] })), (2, Operand.tmp 50), (3, Operand.const (Value.int IntKind.i64 9))], some (5, true)⟩,
  .one ⟨some 52, Op.buildSlice 26 1 #[(0, Operand.tmp 51)], some (5, true)⟩,
  .one ⟨some 53, Op.call { callee := Callee.value (Operand.func 18), args := #[Operand.tmp 48, Operand.tmp 52], argTypes := #[26, 26] }, some (5, true)⟩] ⟨some 54, Op.pick (Operand.tmp 47) (Operand.tmp 53) (Operand.const (Value.bool false)), none⟩,
  .one ⟨some 55, Op.move (Operand.tmp 54), none⟩,
  .blk 13 true [.one ⟨some 56, Op.move (Operand.tmp 6), some (13, true)⟩] ⟨some 57, Op.pick (Operand.tmp 55) (Operand.tmp 56) (Operand.const (Value.bool false)), none⟩,
  .one ⟨some 58, Op.move (Operand.tmp 57), none⟩,
  .blk 16 true [.one ⟨some 59, Op.load 30 (Operand.tmp 5), some (16, true)⟩,
  .one ⟨some 60, Op.move (Operand.tmp 4), some (16, true)⟩,
  .one ⟨some 61, Op.indexAddr 26 (Operand.tmp 60) (Operand.const (Value.int IntKind.i64 0)), some (16, true)⟩,
  .one ⟨some 62, Op.load 30 (Operand.tmp 61), some (16, true)⟩,
  .one ⟨some 63, Op.binOp BinOp.eql 30 (Operand.tmp 59) (Operand.tmp 62) 30, some (16, true)⟩] ⟨some 64, Op.pick (Operand.tmp 58) (Operand.tmp 63) (Operand.const (Value.bool false)), none⟩,
  .one ⟨some 65, Op.move (Operand.tmp 64), none⟩,
  .blk 23 true [.one ⟨some 66, Op.move (Operand.tmp 8), some (23, true)⟩,
  .one ⟨some 67, Op.unOp UnOp.not 4 (Operand.tmp 66), some (23, true)⟩] ⟨some 68, Op.pick (Operand.tmp 65) (Operand.tmp 67) (Operand.const (Value.bool false)), none⟩,
  .one ⟨some 69, Op.move (Operand.tmp 68), none⟩,
  .blk 27 true [.one ⟨some 70, Op.move (Operand.tmp 10), some (27, true)⟩,
  .one ⟨some 71, Op.unOp UnOp.not 4 (Operand.tmp 70), some (27, true)⟩] ⟨some 72, Op.pick (Operand.tmp 69) (Operand.tmp 71) (Operand.const (Value.bool false)), none⟩,
  .one ⟨some 0, Op.assign (Operand.tmp 72), none⟩]
def agoralaw37_small_L : MCode := (.seq (.reg 0 agoralaw37_small_R0 false) (.seq (.reg 1 agoralaw37_small_R1 false) (.seq (.reg 2 agoralaw37_small_R2 false) (.seq (.reg 3 agoralaw37_small_R3 false) (.seq (.reg 4 agoralaw37_small_R4 false) (.seq (.reg 5 agoralaw37_small_R5 false) (.seq (.reg 6 agoralaw37_small_R6 false) (.seq (.reg 7 agoralaw37_small_R7 false) (.seq (.reg 8 agoralaw37_small_R8 true) .ret)))))))))
def agoralaw37_small_ks : Nat → List Nat := fun i => match i with
  | 8 => [0, 0, 0, 0, 0, 0, 0, 0, 0, 0, 0, 0, 0, 0, 0, 0, 0, 0, 0, 0, 0, 0, 0, 0, 0, 0, 0, 0, 0, 0, 0, 0]
  | _ => []
theorem agoralaw37_small_hl : Tryz.f15.body.map light = some agoralaw37_small_L.flat := by kernel_rfl
theorem agoralaw37_small_hk : agoralaw37_small_L.ok = true := by kernel_rfl
theorem agoralaw37_small_hb : Tryz.f15.body.map (codeB 73 agoralaw37_small_ks) = some true := by kernel_rfl
theorem agoralaw37_small_hr : Tryz.f15.results.toList = [ResultVar.tmp 0] := rfl
theorem agoralaw37_small_hn : fnB Tryz.prog 15 = true := by kernel_rfl
theorem agoralaw37_small_pu {args : List V} {st : List SO} {res : V} (an : Ann) (ha : args.length ≤ 73) (hres : noRef res = true) (h : wpM ⟨Tryz.prog, GW, 73, st.length⟩ an agoralaw37_small_ks agoralaw37_small_L (argE args 0) st (EndsP ⟨Tryz.prog, GW, 73, st.length⟩ [ResultVar.tmp 0] res st)) : FnOK Tryz.prog GW 15 args st res st :=
  fn_pure Tryz.func15 agoralaw37_small_hr agoralaw37_small_hl agoralaw37_small_hk agoralaw37_small_hb rfl agoralaw37_small_hn an ha hres h
/-! agora/agoralaw37.few -/
def agoralaw37_few_R0 : List Itm := [.one ⟨some 2, Op.assign (Operand.const (Value.bool false)), none⟩]
def agoralaw37_few_R1 : List Itm := [.one ⟨some 6, Op.move (Operand.tmp 0), none⟩,
  .one ⟨some 7, Op.call { callee := Callee.builtin Builtin.len, args := #[Operand.tmp 6], argTypes := #[22] }, none⟩,
  .one ⟨some 8, Op.binOp BinOp.gtr 3 (Operand.tmp 7) (Operand.const (Value.int IntKind.i64 6)) 3, none⟩]
def agoralaw37_few_R2 : List Itm := [.one ⟨some 2, Op.assign (Operand.const (Value.bool false)), none⟩]
def agoralaw37_few_R3 : List Itm := [.one ⟨some 3, Op.assign (Operand.const (Value.int IntKind.i64 0)), none⟩]
def agoralaw37_few_R4 : List Itm := [.one ⟨some 9, Op.move (Operand.tmp 3), none⟩,
  .one ⟨some 10, Op.move (Operand.tmp 0), none⟩,
  .one ⟨some 11, Op.call { callee := Callee.builtin Builtin.len, args := #[Operand.tmp 10], argTypes := #[22] }, none⟩,
  .one ⟨some 12, Op.binOp BinOp.lss 3 (Operand.tmp 9) (Operand.tmp 11) 3, none⟩]
def agoralaw37_few_R6 : List Itm := [.one ⟨some 15, Op.move (Operand.tmp 0), none⟩,
  .one ⟨some 16, Op.move (Operand.tmp 3), none⟩,
  .one ⟨some 17, Op.indexAddr 22 (Operand.tmp 15) (Operand.tmp 16), none⟩,
  .one ⟨some 18, Op.fieldAddr 40 (Operand.tmp 17) 1, none⟩,
  .one ⟨some 19, Op.load 37 (Operand.tmp 18), none⟩,
  .one ⟨some 20, Op.call { callee := Callee.builtin Builtin.len, args := #[Operand.tmp 19], argTypes := #[37] }, none⟩,
  .one ⟨some 21, Op.binOp BinOp.gtr 3 (Operand.tmp 20) (Operand.const (Value.int IntKind.i64 24)) 3, none⟩]
def agoralaw37_few_R7 : List Itm := [.one ⟨some 2, Op.assign (Operand.const (Value.bool false)), none⟩]
def agoralaw37_few_R8 : List Itm := [.one ⟨some 4, Op.assign (Operand.const (Value.int IntKind.i64 0)), none⟩]
def agoralaw37_few_R9 : List Itm := [.one ⟨some 22, Op.move (Operand.tmp 4), none⟩,
  .one ⟨some 23, Op.move (Operand.tmp 0), none⟩,
  .one ⟨some 24, Op.move (Operand.tmp 3), none⟩,
  .one ⟨some 25, Op.indexAddr 22 (Operand.tmp 23) (Operand.tmp 24), none⟩,
  .one ⟨some 26, Op.fieldAddr 40 (Operand.tmp 25) 1, none⟩,
  .one ⟨some 27, Op.load 37 (Operand.tmp 26), none⟩,
  .one ⟨some 28, Op.call { callee := Callee.builtin Builtin.len, args := #[Operand.tmp 27], argTypes := #[37] }, none⟩,
  .one ⟨some 29, Op.binOp BinOp.lss 3 (Operand.tmp 22) (Operand.tmp 28) 3, none⟩]
def agoralaw37_few_R11 : List Itm := [.one ⟨some 32, Op.move (Operand.tmp 0), none⟩,
  .one ⟨some 33, Op.move (Operand.tmp 3), none⟩,
  .one ⟨some 34, Op.indexAddr 22 (Operand.tmp 32) (Operand.tmp 33), none⟩,
  .one ⟨some 35, Op.fieldAddr 40 (Operand.tmp 34) 1, none⟩,
  .one ⟨some 36, Op.load 37 (Operand.tmp 35), none⟩,
  .one ⟨some 37, Op.move (Operand.tmp 4), none⟩,
  .one ⟨some 38, Op.indexAddr 37 (Operand.tmp 36) (Operand.tmp 37), none⟩,
  .one ⟨some 39, Op.load 49 (Operand.tmp 38), none⟩,
  .one ⟨some 5, Op.alloc 49, none⟩,
  .one ⟨none, Op.store 49 (Operand.tmp 5) (Operand.tmp 39), none⟩]
def agoralaw37_few_R12 : List Itm := [.one ⟨some 40, Op.fieldAddr 49 (Operand.tmp 5) 9, none⟩,
  .one ⟨some 41, Op.load 23 (Operand.tmp 40), none⟩,
  .one ⟨some 42, Op.call { callee := Callee.builtin Builtin.len, args := #[Operand.tmp 41], argTypes := #[23] }, none⟩,
  .one ⟨some 43, Op.binOp BinOp.gtr 3 (Operand.tmp 42) (Operand.const (Value.int IntKind.i64 8)) 3, none⟩,
  .one ⟨some 44, Op.move (Operand.tmp 43), none⟩,
  .blk 4 false [.one ⟨some 45, Op.fieldAddr 49 (Operand.tmp 5) 13, some (4, false)⟩,
  .one ⟨some 46, Op.load 45 (Operand.tmp 45), some (4, false)⟩,
  .one ⟨some 47, Op.call { callee := Callee.builtin Builtin.len, args := #[Operand.tmp 46], argTypes := #[45] }, some (4, false)⟩,
  .one ⟨some 48, Op.binOp BinOp.gtr 3 (Operand.tmp 47) (Operand.const (Value.int IntKind.i64 8)) 3, some (4, false)⟩] ⟨some 49, Op.pick (Operand.tmp 44) (Operand.const (Value.bool true)) (Operand.tmp 48), none⟩,
  .one ⟨some 50, Op.move (Operand.tmp 49), none⟩,
  .blk 10 false [.one ⟨some 51, Op.fieldAddr 49 (Operand.tmp 5) 10, some (10, false)⟩,
  .one ⟨some 52, Op.load 9 (Operand.tmp 51), some (10, false)⟩,
  .one ⟨some 53, Op.call { callee := Callee.builtin Builtin.len, args := #[Operand.tmp 52], argTypes := #[9] }, some (10, false)⟩,
  .one ⟨some 54, Op.binOp BinOp.gtr 3 (Operand.tmp 53) (Operand.const (Value.int IntKind.i64 600)) 3, some (10, false)⟩] ⟨some 55, Op.pick (Operand.tmp 50) (Operand.const (Value.bool true)) (Operand.tmp 54), none⟩,
  .one ⟨some 56, Op.move (Operand.tmp 55), none⟩,
  .blk 16 false [.one ⟨some 57, Op.fieldAddr 49 (Operand.tmp 5) 11, some (16, false)⟩,
  .one ⟨some 58, Op.fieldAddr 44 (Operand.tmp 57) 1, some (16, false)⟩,
  .one ⟨some 59, Op.load 9 (Operand.tmp 58), some (16, false)⟩,
  .one ⟨some 60, Op.call { callee := Callee.builtin Builtin.len, args := #[Operand.tmp 59], argTypes := #[9] }, some (16, false)⟩,
  .one ⟨some 61, Op.binOp BinOp.gtr 3 (Operand.tmp 60) (Operand.const (Value.int IntKind.i64 600)) 3, some (16, false)⟩] ⟨some 62, Op.pick (Operand.tmp 56) (Operand.const (Value.bool true)) (Operand.tmp 61), none⟩]
def agoralaw37_few_R13 : List Itm := [.one ⟨some 2, Op.assign (Operand.const (Value.bool false)), none⟩]
def agoralaw37_few_B3 : MCode := (.seq (.reg 11 agoralaw37_few_R11 false) (.seq (.reg 12 agoralaw37_few_R12 false) (.cond (Operand.tmp 62) (.seq (.reg 13 agoralaw37_few_R13 false) .ret) .skip)))
def agoralaw37_few_R10 : List Itm := [.one ⟨some 30, Op.move (Operand.tmp 4), none⟩,
  .one ⟨some 31, Op.binOp BinOp.add 3 (Operand.tmp 30) (Operand.const (Value.int IntKind.i64 1)) 3, none⟩,
  .one ⟨some 4, Op.assign (Operand.tmp 31), none⟩]
def agoralaw37_few_W1 : MCode := (.seq (.seq (.reg 9 agoralaw37_few_R9 false) (.cond (Operand.tmp 29) .skip (.exit 2))) (.seq (.block 3 agoralaw37_few_B3) (.reg 10 agoralaw37_few_R10 false)))
def agoralaw37_few_B2 : MCode := (.loop agoralaw37_few_W1)
def agoralaw37_few_B1 : MCode := (.seq (.seq (.reg 6 agoralaw37_few_R6 false) (.cond (Operand.tmp 21) (.seq (.reg 7 agoralaw37_few_R7 false) .ret) .skip)) (.seq (.reg 8 agoralaw37_few_R8 false) (.block 2 agoralaw37_few_B2)))
def agoralaw37_few_R5 : List Itm := [.one ⟨some 13, Op.move (Operand.tmp 3), none⟩,
  .one ⟨some 14, Op.binOp BinOp.add 3 (Operand.tmp 13) (Operand.const (Value.int IntKind.i64 1)) 3, none⟩,
  .one ⟨some 3, Op.assign (Operand.tmp 14), none⟩]
def agoralaw37_few_W2 : MCode := (.seq (.seq (.reg 4 agoralaw37_few_R4 false) (.cond (Operand.tmp 12) .skip (.exit 0))) (.seq (.block 1 agoralaw37_few_B1) (.reg 5 agoralaw37_few_R5 false)))
def agoralaw37_few_B0 : MCode := (.loop agoralaw37_few_W2)
def agoralaw37_few_R14 : List Itm := [.one ⟨some 2, Op.assign (Operand.const (Value.bool true)), none⟩]
def agoralaw37_few_L : MCode := (.seq (.reg 0 agoralaw37_few_R0 false) (.seq (.seq (.reg 1 agoralaw37_few_R1 false) (.cond (Operand.tmp 8) (.seq (.reg 2 agoralaw37_few_R2 false) .ret) .skip)) (.seq (.seq (.reg 3 agoralaw37_few_R3 false) (.block 0 agoralaw37_few_B0)) (.seq (.reg 14 agoralaw37_few_R14 false) .ret))))
def agoralaw37_few_ks : Nat → List Nat := fun i => match i with
  | _ => []
theorem agoralaw37_few_hl : Tryz.f16.body.map light = some agoralaw37_few_L.flat := by kernel_rfl
theorem agoralaw37_few_hk : agoralaw37_few_L.ok = true := by kernel_rfl
theorem agoralaw37_few_hb : Tryz.f16.body.map (codeB 63 agoralaw37_few_ks) = some true := by kernel_rfl
theorem agoralaw37_few_hr : Tryz.f16.results.toList = [ResultVar.tmp 2] := rfl
theorem agoralaw37_few_hn : fnB Tryz.prog 16 = true := by kernel_rfl
theorem agoralaw37_few_pu {args : List V} {st : List SO} {res : V} (an : Ann) (ha : args.length ≤ 63) (hres : noRef res = true) (h : wpM ⟨Tryz.prog, GW, 63, st.length⟩ an agoralaw37_few_ks agoralaw37_few_L (argE args 0) st (EndsP ⟨Tryz.prog, GW, 63, st.length⟩ [ResultVar.tmp 2] res st)) : FnOK Tryz.prog GW 16 args st res st :=
  fn_pure Tryz.func16 agoralaw37_few_hr agoralaw37_few_hl agoralaw37_few_hk agoralaw37_few_hb rfl agoralaw37_few_hn an ha hres h
/-! agora/agoraref21.Has -/
def agoraref21_Has_R0 : List Itm := [.one ⟨some 4, Op.assign (Operand.const (Value.bool false)), none⟩]
def agoraref21_Has_R1 : List Itm := [.one ⟨some 5, Op.assign (Operand.const (Value.int IntKind.i64 0)), none⟩]
def agoraref21_Has_R2 : List Itm := [.one ⟨some 6, Op.move (Operand.tmp 5), none⟩,
  .one ⟨some 7, Op.move (Operand.tmp 0), none⟩,
  .one ⟨some 8, Op.call { callee := Callee.builtin Builtin.len, args := #[Operand.tmp 7], argTypes := #[23] }, none⟩,
  .one ⟨some 9, Op.binOp BinOp.lss 3 (Operand.tmp 6) (Operand.tmp 8) 3, none⟩]
def agoraref21_Has_R4 : List Itm := [.one ⟨some 12, Op.move (Operand.tmp 0), none⟩,
  .one ⟨some 13, Op.move (Operand.tmp 5), none⟩,
  .one ⟨some 14, Op.indexAddr 23 (Operand.tmp 12) (Operand.tmp 13), none⟩,
  .one ⟨some 15, Op.load 9 (Operand.tmp 14), none⟩,
  .one ⟨some 16, Op.move (Operand.tmp 1), none⟩,
  .one ⟨some 17, Op.binOp BinOp.eql 9 (Operand.tmp 15) (Operand.tmp 16) 9, none⟩]
def agoraref21_Has_R5 : List Itm := [.one ⟨some 4, Op.assign (Operand.const (Value.bool true)), none⟩]
def agoraref21_Has_B1 : MCode := (.seq (.reg 4 agoraref21_Has_R4 false) (.cond (Operand.tmp 17) (.seq (.reg 5 agoraref21_Has_R5 false) .ret) .skip))
def agoraref21_Has_R3 : List Itm := [.one ⟨some 10, Op.move (Operand.tmp 5), none⟩,
  .one ⟨some 11, Op.binOp BinOp.add 3 (Operand.tmp 10) (Operand.const (Value.int IntKind.i64 1)) 3, none⟩,
  .one ⟨some 5, Op.assign (Operand.tmp 11), none⟩]
def agoraref21_Has_W1 : MCode := (.seq (.seq (.reg 2 agoraref21_Has_R2 false) (.cond (Operand.tmp 9) .skip (.exit 0))) (.seq (.block 1 agoraref21_Has_B1) (.reg 3 agoraref21_Has_R3 false)))
def agoraref21_Has_B0 : MCode := (.loop agoraref21_Has_W1)
def agoraref21_Has_R6 : List Itm := [.one ⟨some 4, Op.assign (Operand.const (Value.bool false)), none⟩]
def agoraref21_Has_L : MCode := (.seq (.reg 0 agoraref21_Has_R0 false) (.seq (.seq (.reg 1 agoraref21_Has_R1 false) (.block 0 agoraref21_Has_B0)) (.seq (.reg 6 agoraref21_Has_R6 false) .ret)))
def agoraref21_Has_ks : Nat → List Nat := fun i => match i with
  | _ => []
theorem agoraref21_Has_hl : Tryz.f20.body.map light = some agoraref21_Has_L.flat := by kernel_rfl
theorem agoraref21_Has_hk : agoraref21_Has_L.ok = true := by kernel_rfl
theorem agoraref21_Has_hb : Tryz.f20.body.map (codeB 18 agoraref21_Has_ks) = some true := by kernel_rfl
theorem agoraref21_Has_hr : Tryz.f20.results.toList = [ResultVar.tmp 4] := rfl
theorem agoraref21_Has_hn : fnB Tryz.prog 20 = true := by kernel_rfl
theorem agoraref21_Has_pu {args : List V} {st : List SO} {res : V} (an : Ann) (ha : args.length ≤ 18) (hres : noRef res = true) (h : wpM ⟨Tryz.prog, GW, 18, st.length⟩ an agoraref21_Has_ks agoraref21_Has_L (argE args 0) st (EndsP ⟨Tryz.prog, GW, 18, st.length⟩ [ResultVar.tmp 4] res st)) : FnOK Tryz.prog GW 20 args st res st :=
  fn_pure Tryz.func20 agoraref21_Has_hr agoraref21_Has_hl agoraref21_Has_hk agoraref21_Has_hb rfl agoraref21_Has_hn an ha hres h
/-! agora/ident.Ids -/
def ident_Ids_R0 : List Itm := [.one ⟨some 2, Op.assign (Operand.const (Value.bool false)), none⟩]
def ident_Ids_R1 : List Itm := [.one ⟨some 5, Op.move (Operand.tmp 0), none⟩,
  .one ⟨some 6, Op.call { callee := Callee.builtin Builtin.len, args := #[Operand.tmp 5], argTypes := #[23] }, none⟩,
  .one ⟨some 7, Op.binOp BinOp.gtr 3 (Operand.tmp 6) (Operand.const (Value.int IntKind.i64 64)) 3, none⟩]
def ident_Ids_R2 : List Itm := [.one ⟨some 2, Op.assign (Operand.const (Value.bool false)), none⟩]
def ident_Ids_R3 : List Itm := [.one ⟨some 8, Op.move (Operand.tmp 0), none⟩,
  .one ⟨some 9, Op.call { callee := Callee.builtin Builtin.len, args := #[Operand.tmp 8], argTypes := #[23] }, none⟩,
  .one ⟨some 10, Op.move (Operand.const (Value.int IntKind.i64 0)), none⟩]
def ident_Ids_R4 : List Itm := [.one ⟨some 11, Op.binOp BinOp.lss 3 (Operand.tmp 10) (Operand.tmp 9) 3, none⟩]
def ident_Ids_R5 : List Itm := [.one ⟨some 12, Op.move (Operand.tmp 10), none⟩,
  .one ⟨some 13, Op.indexAddr 23 (Operand.tmp 8) (Operand.tmp 10), none⟩,
  .one ⟨some 14, Op.load 9 (Operand.tmp 13), none⟩,
  .one ⟨some 3, Op.assign (Operand.tmp 12), none⟩,
  .one ⟨some 4, Op.assign (Operand.tmp 14), none⟩]
def ident_Ids_R6 : List Itm := [.one ⟨some 15, Op.move (Operand.tmp 4), none⟩,
  .one ⟨some 16, Op.call { callee := Callee.value (Operand.func 188), args := #[Operand.tmp 15], argTypes := #[9] }, none⟩,
  .one ⟨some 17, Op.unOp UnOp.not 4 (Operand.tmp 16), none⟩,
  .one ⟨some 18, Op.move (Operand.tmp 17), none⟩,
  .blk 3 false [.one ⟨some 19, Op.move (Operand.tmp 3), some (3, false)⟩,
  .one ⟨some 20, Op.binOp BinOp.gtr 3 (Operand.tmp 19) (Operand.const (Value.int IntKind.i64 0)) 3, some (3, false)⟩,
  .one ⟨some 21, Op.move (Operand.tmp 20), some (3, false)⟩,
  .blk 6 true [.one ⟨some 22, Op.move (Operand.tmp 0), some (6, true)⟩,
  .one ⟨some 23, Op.move (Operand.tmp 3), some (6, true)⟩,
  .one ⟨some 24, Op.binOp BinOp.sub 3 (Operand.tmp 23) (Operand.const (Value.int IntKind.i64 1)) 3, some (6, true)⟩,
  .one ⟨some 25, Op.indexAddr 23 (Operand.tmp 22) (Operand.tmp 24), some (6, true)⟩,
  .one ⟨some 26, Op.load 9 (Operand.tmp 25), some (6, true)⟩,
  .one ⟨some 27, Op.move (Operand.tmp 4), some (6, true)⟩,
  .one ⟨some 28, Op.binOp BinOp.geq 9 (Operand.tmp 26) (Operand.tmp 27) 9, some (6, true)⟩] ⟨some 29, Op.pick (Operand.tmp 21) (Operand.tmp 28) (Operand.const (Value.bool false)), some (3, false)⟩] ⟨some 30, Op.pick (Operand.tmp 18) (Operand.const (Value.bool true)) (Operand.tmp 29), none⟩]
def ident_Ids_R7 : List Itm := [.one ⟨some 2, Op.assign (Operand.const (Value.bool false)), none⟩]
def ident_Ids_B1 : MCode := (.seq (.reg 5 ident_Ids_R5 false) (.seq (.reg 6 ident_Ids_R6 false) (.cond (Operand.tmp 30) (.seq (.reg 7 ident_Ids_R7 false) .ret) .skip)))
def ident_Ids_R8 : List Itm := [.one ⟨some 31, Op.binOp BinOp.add 3 (Operand.tmp 10) (Operand.const (Value.int IntKind.i64 1)) 3, none⟩,
  .one ⟨some 10, Op.move (Operand.tmp 31), none⟩]
def ident_Ids_W1 : MCode := (.seq (.reg 4 ident_Ids_R4 false) (.seq (.cond (Operand.tmp 11) .skip (.exit 0)) (.seq (.block 1 ident_Ids_B1) (.reg 8 ident_Ids_R8 false))))
def ident_Ids_B0 : MCode := (.loop ident_Ids_W1)
def ident_Ids_R9 : List Itm := [.one ⟨some 2, Op.assign (Operand.const (Value.bool true)), none⟩]
def ident_Ids_L : MCode := (.seq (.reg 0 ident_Ids_R0 false) (.seq (.seq (.reg 1 ident_Ids_R1 false) (.cond (Operand.tmp 7) (.seq (.reg 2 ident_Ids_R2 false) .ret) .skip)) (.seq (.seq (.reg 3 ident_Ids_R3 false) (.block 0 ident_Ids_B0)) (.seq (.reg 9 ident_Ids_R9 false) .ret))))
def ident_Ids_ks : Nat → List Nat := fun i => match i with
  | _ => []
theorem ident_Ids_hl : Tryz.f226.body.map light = some ident_Ids_L.flat := by kernel_rfl
theorem ident_Ids_hk : ident_Ids_L.ok = true := by kernel_rfl
theorem ident_Ids_hb : Tryz.f226.body.map (codeB 32 ident_Ids_ks) = some true := by kernel_rfl
theorem ident_Ids_hr : Tryz.f226.results.toList = [ResultVar.tmp 2] := rfl
theorem ident_Ids_hn : fnB Tryz.prog 226 = true := by kernel_rfl
theorem ident_Ids_pu {args : List V} {st : List SO} {res : V} (an : Ann) (ha : args.length ≤ 32) (hres : noRef res = true) (h : wpM ⟨Tryz.prog, GW, 32, st.length⟩ an ident_Ids_ks ident_Ids_L (argE args 0) st (EndsP ⟨Tryz.prog, GW, 32, st.length⟩ [ResultVar.tmp 2] res st)) : FnOK Tryz.prog GW 226 args st res st :=
  fn_pure Tryz.func226 ident_Ids_hr ident_Ids_hl ident_Ids_hk ident_Ids_hb rfl ident_Ids_hn an ha hres h
end Go.Proofs.YthkmfboffnhkaaaGreatDoor
