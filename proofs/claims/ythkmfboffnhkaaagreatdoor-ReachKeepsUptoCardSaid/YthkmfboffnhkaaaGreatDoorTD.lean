/-
  The light code of functions: printed by wip/tools/gen.py.
-/
import Derived.Test.YthkmfboffnhkaaaGreatDoorTY
namespace Go.Proofs.YthkmfboffnhkaaaGreatDoor
open Go Go.L1
set_option linter.all false
set_option maxRecDepth 100000
/-! agora/lists.entries -/
def lists_entries_R0 : List Itm := [.one ⟨some 4, .assign (.const (.map none)), none⟩]
def lists_entries_R1 : List Itm := [.one ⟨some 13, .move (.tmp 0), none⟩,
  .one ⟨some 14, .move (.tmp 1), none⟩,
  .one ⟨some 15, .call ⟨.value (.func 21), #[.tmp 13, .tmp 14], #[22, 9]⟩, none⟩,
  .one ⟨some 12, .move (.tmp 15), none⟩,
  .one ⟨some 16, .extract (.tmp 12) 0, none⟩,
  .one ⟨some 17, .extract (.tmp 12) 1, none⟩,
  .one ⟨some 5, .alloc 40, none⟩,
  .one ⟨none, .store 40 (.tmp 5) (.tmp 16), none⟩,
  .one ⟨some 6, .assign (.tmp 17), none⟩]
def lists_entries_R2 : List Itm := [.one ⟨some 18, .makeMap 97 none, none⟩,
  .one ⟨some 7, .assign (.tmp 18), none⟩]
def lists_entries_R3 : List Itm := [.one ⟨some 19, .fieldAddr 40 (.tmp 5) 1, none⟩,
  .one ⟨some 20, .load 37 (.tmp 19), none⟩,
  .one ⟨some 21, .call ⟨.builtin .len, #[.tmp 20], #[37]⟩, none⟩,
  .one ⟨some 22, .move (.const (.int .i64 0)), none⟩]
def lists_entries_R4 : List Itm := [.one ⟨some 23, .binOp .lss 3 (.tmp 22) (.tmp 21) 3, none⟩]
def lists_entries_R5 : List Itm := [.one ⟨some 24, .move (.tmp 22), none⟩,
  .one ⟨some 25, .indexAddr 37 (.tmp 20) (.tmp 22), none⟩,
  .one ⟨some 26, .load 49 (.tmp 25), none⟩,
  .one ⟨some 9, .alloc 49, none⟩,
  .one ⟨some 8, .assign (.tmp 24), none⟩,
  .one ⟨none, .store 49 (.tmp 9) (.tmp 26), none⟩]
def lists_entries_R6 : List Itm := [.one ⟨some 27, .fieldAddr 49 (.tmp 9) 3, none⟩,
  .one ⟨some 28, .load 3 (.tmp 27), none⟩]
def lists_entries_R7 : List Itm := [.one ⟨some 30, .binOp .eql 3 (.tmp 28) (.const (.int .i64 23)) 3, none⟩,
  .one ⟨some 29, .assign (.tmp 30), none⟩]
def lists_entries_R8 : List Itm := [.one ⟨some 31, .move (.tmp 7), none⟩,
  .one ⟨some 32, .move (.tmp 8), none⟩,
  .one ⟨some 33, .fieldAddr 49 (.tmp 9) 6, none⟩,
  .one ⟨some 34, .load 9 (.tmp 33), none⟩,
  .one ⟨some 35, .fieldAddr 49 (.tmp 9) 10, none⟩,
  .one ⟨some 36, .load 9 (.tmp 35), none⟩,
  .one ⟨some 37, .move (.tmp 1), none⟩,
  .one ⟨some 38, .fieldAddr 49 (.tmp 9) 14, none⟩,
  .one ⟨some 39, .load 3 (.tmp 38), none⟩,
  .one ⟨some 40, .build 30 #[(0, .tmp 34), (1, .tmp 36), (2, .tmp 37), (3, .tmp 39)], none⟩,
  .one ⟨some 41, .move (.tmp 8), none⟩,
  .one ⟨some 42, .build 104 #[(0, .tmp 40), (1, .tmp 41)], none⟩,
  .one ⟨none, .mapUpdate 97 (.tmp 31) (.tmp 32) (.tmp 42), none⟩]
def lists_entries_R9 : List Itm := [.one ⟨some 44, .binOp .eql 3 (.tmp 28) (.const (.int .i64 6)) 3, none⟩,
  .one ⟨some 43, .assign (.tmp 44), none⟩]
def lists_entries_R10 : List Itm := [.one ⟨some 46, .load 40 (.tmp 5), none⟩,
  .one ⟨some 47, .fieldAddr 49 (.tmp 9) 5, none⟩,
  .one ⟨some 48, .load 9 (.tmp 47), none⟩,
  .one ⟨some 49, .call ⟨.value (.func 45), #[.tmp 46, .tmp 48], #[40, 9]⟩, none⟩,
  .one ⟨some 45, .move (.tmp 49), none⟩,
  .one ⟨some 50, .extract (.tmp 45) 0, none⟩,
  .one ⟨some 51, .extract (.tmp 45) 1, none⟩,
  .one ⟨some 10, .assign (.tmp 50), none⟩,
  .one ⟨some 11, .assign (.tmp 51), none⟩]
def lists_entries_R11 : List Itm := [.one ⟨some 52, .move (.tmp 11), none⟩,
  .one ⟨some 53, .move (.tmp 52), none⟩,
  .blk 1 true [.one ⟨some 54, .move (.tmp 10), some (1, true)⟩,
  .one ⟨some 55, .move (.tmp 8), some (1, true)⟩,
  .one ⟨some 56, .binOp .lss 3 (.tmp 54) (.tmp 55) 3, some (1, true)⟩] ⟨some 57, .pick (.tmp 53) (.tmp 56) (.const (.bool false)), none⟩]
def lists_entries_R12 : List Itm := [.one ⟨some 58, .move (.tmp 7), none⟩,
  .one ⟨some 59, .move (.tmp 10), none⟩,
  .one ⟨none, .call ⟨.builtin .delete, #[.tmp 58, .tmp 59], #[97, 3]⟩, none⟩]
def lists_entries_B2 : MCode := (.seq (.reg 7 lists_entries_R7 false) (.cond (.tmp 29) (.reg 8 lists_entries_R8 false) (.seq (.reg 9 lists_entries_R9 false) (.cond (.tmp 43) (.seq (.reg 10 lists_entries_R10 false) (.seq (.reg 11 lists_entries_R11 false) (.cond (.tmp 57) (.reg 12 lists_entries_R12 false) .skip))) .skip))))
def lists_entries_B1 : MCode := (.seq (.reg 5 lists_entries_R5 false) (.seq (.reg 6 lists_entries_R6 false) (.block 2 lists_entries_B2)))
def lists_entries_R13 : List Itm := [.one ⟨some 60, .binOp .add 3 (.tmp 22) (.const (.int .i64 1)) 3, none⟩,
  .one ⟨some 22, .move (.tmp 60), none⟩]
def lists_entries_W1 : MCode := (.seq (.reg 4 lists_entries_R4 false) (.seq (.cond (.tmp 23) .skip (.exit 0)) (.seq (.block 1 lists_entries_B1) (.reg 13 lists_entries_R13 false))))
def lists_entries_B0 : MCode := (.loop lists_entries_W1)
def lists_entries_R14 : List Itm := [.one ⟨some 61, .move (.tmp 7), none⟩,
  .one ⟨some 4, .assign (.tmp 61), none⟩]
def lists_entries_L : MCode := (.seq (.reg 0 lists_entries_R0 false) (.seq (.reg 1 lists_entries_R1 false) (.seq (.reg 2 lists_entries_R2 false) (.seq (.seq (.reg 3 lists_entries_R3 false) (.block 0 lists_entries_B0)) (.seq (.reg 14 lists_entries_R14 false) .ret)))))
def lists_entries_ks : Nat → List Nat := fun i => match i with
  | _ => []
theorem lists_entries_F : FnL Tryz.prog GW 54 62 lists_entries_L [.tmp 4] lists_entries_ks := ⟨⟨_, Tryz.func54, rfl, by kernel_rfl, by kernel_rfl, rfl⟩, by kernel_rfl, by kernel_rfl⟩
/-! (agora/lists.entry).against -/
def lists_entry_against_R0 : List Itm := [.one ⟨some 2, .box 104 (.tmp 0), none⟩,
  .one ⟨some 3, .box 104 (.tmp 1), none⟩,
  .one ⟨some 4, .assign (.const (.int .i64 0)), none⟩]
def lists_entry_against_R1 : List Itm := [.one ⟨some 5, .fieldAddr 104 (.tmp 2) 0, none⟩,
  .one ⟨some 6, .fieldAddr 30 (.tmp 5) 3, none⟩,
  .one ⟨some 7, .load 3 (.tmp 6), none⟩,
  .one ⟨some 8, .fieldAddr 104 (.tmp 3) 0, none⟩,
  .one ⟨some 9, .fieldAddr 30 (.tmp 8) 3, none⟩,
  .one ⟨some 10, .load 3 (.tmp 9), none⟩,
  .one ⟨some 11, .call ⟨.value (.func 100), #[.tmp 7, .tmp 10], #[3, 3]⟩, none⟩,
  .one ⟨some 12, .fieldAddr 104 (.tmp 3) 0, none⟩,
  .one ⟨some 13, .fieldAddr 30 (.tmp 12) 2, none⟩,
  .one ⟨some 14, .load 9 (.tmp 13), none⟩,
  .one ⟨some 15, .fieldAddr 104 (.tmp 2) 0, none⟩,
  .one ⟨some 16, .fieldAddr 30 (.tmp 15) 2, none⟩,
  .one ⟨some 17, .load 9 (.tmp 16), none⟩,
  .one ⟨some 18, .call ⟨.value (.func 95), #[.tmp 14, .tmp 17], #[9, 9]⟩, none⟩,
  .one ⟨some 19, .fieldAddr 104 (.tmp 2) 1, none⟩,
  .one ⟨some 20, .load 3 (.tmp 19), none⟩,
  .one ⟨some 21, .fieldAddr 104 (.tmp 3) 1, none⟩,
  .one ⟨some 22, .load 3 (.tmp 21), none⟩,
  .one ⟨some 23, .call ⟨.value (.func 100), #[.tmp 20, .tmp 22], #[3, 3]⟩, none⟩,
  .one ⟨some 24, .buildSlice 84 3 #[(0, .tmp 11), (1, .tmp 18), (2, .tmp 23)], none⟩,
  .one ⟨some 25, .call ⟨.value (.func 99), #[.tmp 24], #[84]⟩, none⟩,
  .one ⟨some 4, .assign (.tmp 25), none⟩]
def lists_entry_against_L : MCode := (.seq (.reg 0 lists_entry_against_R0 false) (.seq (.reg 1 lists_entry_against_R1 true) .ret))
def lists_entry_against_ks : Nat → List Nat := fun i => match i with
  | 1 => [0, 0, 0, 0, 0, 0, 0, 0, 0, 0, 0, 0, 0, 0, 0, 0, 0, 0, 0, 0, 0, 0]
  | _ => []
theorem lists_entry_against_F : FnL Tryz.prog GW 57 26 lists_entry_against_L [.tmp 4] lists_entry_against_ks := ⟨⟨_, Tryz.func57, rfl, by kernel_rfl, by kernel_rfl, rfl⟩, by kernel_rfl, by kernel_rfl⟩
/-! cmp.Compare[string] -/
def cmp_Compare_string_R0 : List Itm := [.one ⟨some 4, .assign (.const (.int .i64 0)), none⟩]
def cmp_Compare_string_R1 : List Itm := [.one ⟨some 7, .move (.tmp 0), none⟩,
  .one ⟨some 8, .call ⟨.value (.func 133), #[.tmp 7], #[9]⟩, none⟩,
  .one ⟨some 5, .assign (.tmp 8), none⟩]
def cmp_Compare_string_R2 : List Itm := [.one ⟨some 9, .move (.tmp 1), none⟩,
  .one ⟨some 10, .call ⟨.value (.func 133), #[.tmp 9], #[9]⟩, none⟩,
  .one ⟨some 6, .assign (.tmp 10), none⟩]
def cmp_Compare_string_R3 : List Itm := [.one ⟨some 11, .move (.tmp 5), none⟩]
def cmp_Compare_string_R4 : List Itm := [.one ⟨some 12, .move (.tmp 6), none⟩]
def cmp_Compare_string_R5 : List Itm := [.one ⟨some 4, .assign (.const (.int .i64 0)), none⟩]
def cmp_Compare_string_R6 : List Itm := [.one ⟨some 4, .assign (.const (.int .i64 (-1))), none⟩]
def cmp_Compare_string_R7 : List Itm := [.one ⟨some 13, .move (.tmp 6), none⟩]
def cmp_Compare_string_R8 : List Itm := [.one ⟨some 4, .assign (.const (.int .i64 1)), none⟩]
def cmp_Compare_string_R9 : List Itm := [.one ⟨some 14, .move (.tmp 0), none⟩,
  .one ⟨some 15, .move (.tmp 1), none⟩,
  .one ⟨some 16, .binOp .lss 9 (.tmp 14) (.tmp 15) 9, none⟩]
def cmp_Compare_string_R10 : List Itm := [.one ⟨some 4, .assign (.const (.int .i64 (-1))), none⟩]
def cmp_Compare_string_R11 : List Itm := [.one ⟨some 17, .move (.tmp 0), none⟩,
  .one ⟨some 18, .move (.tmp 1), none⟩,
  .one ⟨some 19, .binOp .gtr 9 (.tmp 17) (.tmp 18) 9, none⟩]
def cmp_Compare_string_R12 : List Itm := [.one ⟨some 4, .assign (.const (.int .i64 1)), none⟩]
def cmp_Compare_string_R13 : List Itm := [.one ⟨some 4, .assign (.const (.int .i64 0)), none⟩]
def cmp_Compare_string_L : MCode := (.seq (.reg 0 cmp_Compare_string_R0 false) (.seq (.reg 1 cmp_Compare_string_R1 false) (.seq (.reg 2 cmp_Compare_string_R2 false) (.seq (.seq (.reg 3 cmp_Compare_string_R3 false) (.cond (.tmp 11) (.seq (.seq (.reg 4 cmp_Compare_string_R4 false) (.cond (.tmp 12) (.seq (.reg 5 cmp_Compare_string_R5 false) .ret) .skip)) (.seq (.reg 6 cmp_Compare_string_R6 false) .ret)) .skip)) (.seq (.seq (.reg 7 cmp_Compare_string_R7 false) (.cond (.tmp 13) (.seq (.reg 8 cmp_Compare_string_R8 false) .ret) .skip)) (.seq (.seq (.reg 9 cmp_Compare_string_R9 false) (.cond (.tmp 16) (.seq (.reg 10 cmp_Compare_string_R10 false) .ret) .skip)) (.seq (.seq (.reg 11 cmp_Compare_string_R11 false) (.cond (.tmp 19) (.seq (.reg 12 cmp_Compare_string_R12 false) .ret) .skip)) (.seq (.reg 13 cmp_Compare_string_R13 false) .ret))))))))
def cmp_Compare_string_ks : Nat → List Nat := fun i => match i with
  | _ => []
theorem cmp_Compare_string_F : FnL Tryz.prog GW 95 20 cmp_Compare_string_L [.tmp 4] cmp_Compare_string_ks := ⟨⟨_, Tryz.func95, rfl, by kernel_rfl, by kernel_rfl, rfl⟩, by kernel_rfl, by kernel_rfl⟩
/-! cmp.Or[int] -/
def cmp_Or_int_R0 : List Itm := [.one ⟨some 2, .assign (.const (.int .i64 0)), none⟩]
def cmp_Or_int_R1 : List Itm := [.one ⟨some 3, .assign (.const (.int .i64 0)), none⟩]
def cmp_Or_int_R2 : List Itm := [.one ⟨some 6, .move (.tmp 0), none⟩,
  .one ⟨some 7, .call ⟨.builtin .len, #[.tmp 6], #[84]⟩, none⟩,
  .one ⟨some 8, .move (.const (.int .i64 0)), none⟩]
def cmp_Or_int_R3 : List Itm := [.one ⟨some 9, .binOp .lss 3 (.tmp 8) (.tmp 7) 3, none⟩]
def cmp_Or_int_R4 : List Itm := [.one ⟨some 10, .indexAddr 84 (.tmp 6) (.tmp 8), none⟩,
  .one ⟨some 11, .load 3 (.tmp 10), none⟩,
  .one ⟨some 5, .assign (.tmp 11), none⟩]
def cmp_Or_int_R5 : List Itm := [.one ⟨some 12, .move (.tmp 5), none⟩,
  .one ⟨some 13, .move (.tmp 3), none⟩,
  .one ⟨some 14, .binOp .neq 3 (.tmp 12) (.tmp 13) 3, none⟩]
def cmp_Or_int_R6 : List Itm := [.one ⟨some 15, .move (.tmp 5), none⟩,
  .one ⟨some 2, .assign (.tmp 15), none⟩]
def cmp_Or_int_B1 : MCode := (.seq (.reg 4 cmp_Or_int_R4 false) (.seq (.reg 5 cmp_Or_int_R5 false) (.cond (.tmp 14) (.seq (.reg 6 cmp_Or_int_R6 false) .ret) .skip)))
def cmp_Or_int_R7 : List Itm := [.one ⟨some 16, .binOp .add 3 (.tmp 8) (.const (.int .i64 1)) 3, none⟩,
  .one ⟨some 8, .move (.tmp 16), none⟩]
def cmp_Or_int_W1 : MCode := (.seq (.reg 3 cmp_Or_int_R3 false) (.seq (.cond (.tmp 9) .skip (.exit 0)) (.seq (.block 1 cmp_Or_int_B1) (.reg 7 cmp_Or_int_R7 false))))
def cmp_Or_int_B0 : MCode := (.loop cmp_Or_int_W1)
def cmp_Or_int_R8 : List Itm := [.one ⟨some 17, .move (.tmp 3), none⟩,
  .one ⟨some 2, .assign (.tmp 17), none⟩]
def cmp_Or_int_L : MCode := (.seq (.reg 0 cmp_Or_int_R0 false) (.seq (.reg 1 cmp_Or_int_R1 false) (.seq (.seq (.reg 2 cmp_Or_int_R2 false) (.block 0 cmp_Or_int_B0)) (.seq (.reg 8 cmp_Or_int_R8 false) .ret))))
def cmp_Or_int_ks : Nat → List Nat := fun i => match i with
  | _ => []
theorem cmp_Or_int_F : FnL Tryz.prog GW 99 18 cmp_Or_int_L [.tmp 2] cmp_Or_int_ks := ⟨⟨_, Tryz.func99, rfl, by kernel_rfl, by kernel_rfl, rfl⟩, by kernel_rfl, by kernel_rfl⟩
/-! cmp.Compare[int] -/
def cmp_Compare_int_R0 : List Itm := [.one ⟨some 4, .assign (.const (.int .i64 0)), none⟩]
def cmp_Compare_int_R1 : List Itm := [.one ⟨some 7, .move (.tmp 0), none⟩,
  .one ⟨some 8, .call ⟨.value (.func 136), #[.tmp 7], #[3]⟩, none⟩,
  .one ⟨some 5, .assign (.tmp 8), none⟩]
def cmp_Compare_int_R2 : List Itm := [.one ⟨some 9, .move (.tmp 1), none⟩,
  .one ⟨some 10, .call ⟨.value (.func 136), #[.tmp 9], #[3]⟩, none⟩,
  .one ⟨some 6, .assign (.tmp 10), none⟩]
def cmp_Compare_int_R3 : List Itm := [.one ⟨some 11, .move (.tmp 5), none⟩]
def cmp_Compare_int_R4 : List Itm := [.one ⟨some 12, .move (.tmp 6), none⟩]
def cmp_Compare_int_R5 : List Itm := [.one ⟨some 4, .assign (.const (.int .i64 0)), none⟩]
def cmp_Compare_int_R6 : List Itm := [.one ⟨some 4, .assign (.const (.int .i64 (-1))), none⟩]
def cmp_Compare_int_R7 : List Itm := [.one ⟨some 13, .move (.tmp 6), none⟩]
def cmp_Compare_int_R8 : List Itm := [.one ⟨some 4, .assign (.const (.int .i64 1)), none⟩]
def cmp_Compare_int_R9 : List Itm := [.one ⟨some 14, .move (.tmp 0), none⟩,
  .one ⟨some 15, .move (.tmp 1), none⟩,
  .one ⟨some 16, .binOp .lss 3 (.tmp 14) (.tmp 15) 3, none⟩]
def cmp_Compare_int_R10 : List Itm := [.one ⟨some 4, .assign (.const (.int .i64 (-1))), none⟩]
def cmp_Compare_int_R11 : List Itm := [.one ⟨some 17, .move (.tmp 0), none⟩,
  .one ⟨some 18, .move (.tmp 1), none⟩,
  .one ⟨some 19, .binOp .gtr 3 (.tmp 17) (.tmp 18) 3, none⟩]
def cmp_Compare_int_R12 : List Itm := [.one ⟨some 4, .assign (.const (.int .i64 1)), none⟩]
def cmp_Compare_int_R13 : List Itm := [.one ⟨some 4, .assign (.const (.int .i64 0)), none⟩]
def cmp_Compare_int_L : MCode := (.seq (.reg 0 cmp_Compare_int_R0 false) (.seq (.reg 1 cmp_Compare_int_R1 false) (.seq (.reg 2 cmp_Compare_int_R2 false) (.seq (.seq (.reg 3 cmp_Compare_int_R3 false) (.cond (.tmp 11) (.seq (.seq (.reg 4 cmp_Compare_int_R4 false) (.cond (.tmp 12) (.seq (.reg 5 cmp_Compare_int_R5 false) .ret) .skip)) (.seq (.reg 6 cmp_Compare_int_R6 false) .ret)) .skip)) (.seq (.seq (.reg 7 cmp_Compare_int_R7 false) (.cond (.tmp 13) (.seq (.reg 8 cmp_Compare_int_R8 false) .ret) .skip)) (.seq (.seq (.reg 9 cmp_Compare_int_R9 false) (.cond (.tmp 16) (.seq (.reg 10 cmp_Compare_int_R10 false) .ret) .skip)) (.seq (.seq (.reg 11 cmp_Compare_int_R11 false) (.cond (.tmp 19) (.seq (.reg 12 cmp_Compare_int_R12 false) .ret) .skip)) (.seq (.reg 13 cmp_Compare_int_R13 false) .ret))))))))
def cmp_Compare_int_ks : Nat → List Nat := fun i => match i with
  | _ => []
theorem cmp_Compare_int_F : FnL Tryz.prog GW 100 20 cmp_Compare_int_L [.tmp 4] cmp_Compare_int_ks := ⟨⟨_, Tryz.func100, rfl, by kernel_rfl, by kernel_rfl, rfl⟩, by kernel_rfl, by kernel_rfl⟩
/-! cmp.isNaN[int] -/
def cmp_isNaN_int_R0 : List Itm := [.one ⟨some 2, .assign (.const (.bool false)), none⟩]
def cmp_isNaN_int_R1 : List Itm := [.one ⟨some 3, .move (.tmp 0), none⟩,
  .one ⟨some 4, .move (.tmp 0), none⟩,
  .one ⟨some 5, .binOp .neq 3 (.tmp 3) (.tmp 4) 3, none⟩,
  .one ⟨some 2, .assign (.tmp 5), none⟩]
def cmp_isNaN_int_L : MCode := (.seq (.reg 0 cmp_isNaN_int_R0 false) (.seq (.reg 1 cmp_isNaN_int_R1 false) .ret))
def cmp_isNaN_int_ks : Nat → List Nat := fun i => match i with
  | _ => []
theorem cmp_isNaN_int_F : FnL Tryz.prog GW 136 6 cmp_isNaN_int_L [.tmp 2] cmp_isNaN_int_ks := ⟨⟨_, Tryz.func136, rfl, by kernel_rfl, by kernel_rfl, rfl⟩, by kernel_rfl, by kernel_rfl⟩
/-! cmp.isNaN[string] -/
def cmp_isNaN_string_R0 : List Itm := [.one ⟨some 2, .assign (.const (.bool false)), none⟩]
def cmp_isNaN_string_R1 : List Itm := [.one ⟨some 3, .move (.tmp 0), none⟩,
  .one ⟨some 4, .move (.tmp 0), none⟩,
  .one ⟨some 5, .binOp .neq 9 (.tmp 3) (.tmp 4) 9, none⟩,
  .one ⟨some 2, .assign (.tmp 5), none⟩]
def cmp_isNaN_string_L : MCode := (.seq (.reg 0 cmp_isNaN_string_R0 false) (.seq (.reg 1 cmp_isNaN_string_R1 false) .ret))
def cmp_isNaN_string_ks : Nat → List Nat := fun i => match i with
  | _ => []
theorem cmp_isNaN_string_F : FnL Tryz.prog GW 133 6 cmp_isNaN_string_L [.tmp 2] cmp_isNaN_string_ks := ⟨⟨_, Tryz.func133, rfl, by kernel_rfl, by kernel_rfl, rfl⟩, by kernel_rfl, by kernel_rfl⟩
/-! agora/lists.Of -/
def lists_Of_R0 : List Itm := [.one ⟨some 6, .assign (.const (.slice none 0 0)), none⟩]
def lists_Of_R1 : List Itm := [.one ⟨some 19, .makeMap 96 none, none⟩,
  .one ⟨some 7, .assign (.tmp 19), none⟩]
def lists_Of_R2 : List Itm := [.one ⟨some 20, .move (.tmp 1), none⟩,
  .one ⟨some 21, .call ⟨.builtin .len, #[.tmp 20], #[23]⟩, none⟩,
  .one ⟨some 22, .move (.const (.int .i64 0)), none⟩]
def lists_Of_R3 : List Itm := [.one ⟨some 23, .binOp .lss 3 (.tmp 22) (.tmp 21) 3, none⟩]
def lists_Of_R4 : List Itm := [.one ⟨some 24, .indexAddr 23 (.tmp 20) (.tmp 22), none⟩,
  .one ⟨some 25, .load 9 (.tmp 24), none⟩,
  .one ⟨some 9, .assign (.tmp 25), none⟩]
def lists_Of_R5 : List Itm := [.one ⟨some 26, .move (.tmp 0), none⟩,
  .one ⟨some 27, .move (.tmp 9), none⟩,
  .one ⟨some 28, .call ⟨.value (.func 54), #[.tmp 26, .tmp 27], #[22, 9]⟩, none⟩,
  .one ⟨some 10, .assign (.tmp 28), none⟩]
def lists_Of_R6 : List Itm := [.one ⟨some 29, .move (.tmp 10), none⟩,
  .one ⟨some 30, .call ⟨.value (.func 56), #[.tmp 29], #[97]⟩, none⟩,
  .one ⟨some 31, .call ⟨.value (.func 55), #[.tmp 30], #[101]⟩, none⟩,
  .one ⟨some 32, .call ⟨.builtin .len, #[.tmp 31], #[84]⟩, none⟩,
  .one ⟨some 33, .move (.const (.int .i64 0)), none⟩]
def lists_Of_R7 : List Itm := [.one ⟨some 34, .binOp .lss 3 (.tmp 33) (.tmp 32) 3, none⟩]
def lists_Of_R8 : List Itm := [.one ⟨some 35, .indexAddr 84 (.tmp 31) (.tmp 33), none⟩,
  .one ⟨some 36, .load 3 (.tmp 35), none⟩,
  .one ⟨some 12, .assign (.tmp 36), none⟩]
def lists_Of_R9 : List Itm := [.one ⟨some 37, .move (.tmp 10), none⟩,
  .one ⟨some 38, .move (.tmp 12), none⟩,
  .one ⟨some 39, .lookup 97 (.tmp 37) (.tmp 38) false, none⟩,
  .one ⟨some 13, .alloc 104, none⟩,
  .one ⟨none, .store 104 (.tmp 13) (.tmp 39), none⟩]
def lists_Of_R10 : List Itm := [.one ⟨some 41, .move (.tmp 7), none⟩,
  .one ⟨some 42, .fieldAddr 104 (.tmp 13) 0, none⟩,
  .one ⟨some 43, .fieldAddr 30 (.tmp 42) 0, none⟩,
  .one ⟨some 44, .load 9 (.tmp 43), none⟩,
  .one ⟨some 45, .lookup 96 (.tmp 41) (.tmp 44) true, none⟩,
  .one ⟨some 40, .move (.tmp 45), none⟩,
  .one ⟨some 46, .extract (.tmp 40) 0, none⟩,
  .one ⟨some 47, .extract (.tmp 40) 1, none⟩,
  .one ⟨some 14, .alloc 104, none⟩,
  .one ⟨none, .store 104 (.tmp 14) (.tmp 46), none⟩,
  .one ⟨some 15, .assign (.tmp 47), none⟩]
def lists_Of_R11 : List Itm := [.one ⟨some 48, .fieldAddr 104 (.tmp 13) 0, none⟩,
  .one ⟨some 49, .fieldAddr 30 (.tmp 48) 3, none⟩,
  .one ⟨some 50, .load 3 (.tmp 49), none⟩,
  .one ⟨some 51, .move (.tmp 2), none⟩,
  .one ⟨some 52, .binOp .gtr 3 (.tmp 50) (.tmp 51) 3, none⟩,
  .one ⟨some 53, .move (.tmp 52), none⟩,
  .blk 5 true [.one ⟨some 54, .move (.tmp 15), some (5, true)⟩,
  .one ⟨some 55, .unOp .not 4 (.tmp 54), some (5, true)⟩,
  .one ⟨some 56, .move (.tmp 55), some (5, true)⟩,
  .blk 8 false [.one ⟨some 57, .load 104 (.tmp 14), some (8, false)⟩,
  .one ⟨some 58, .load 104 (.tmp 13), some (8, false)⟩,
  .one ⟨some 59, .binOp .neq 104 (.tmp 57) (.tmp 58) 104, some (8, false)⟩,
  .one ⟨some 60, .move (.tmp 59), some (8, false)⟩,
  .blk 12 true [.one ⟨some 61, .load 104 (.tmp 13), some (12, true)⟩,
  .one ⟨some 62, .load 104 (.tmp 14), some (12, true)⟩,
  .one ⟨some 63, .call ⟨.value (.func 57), #[.tmp 61, .tmp 62], #[104, 104]⟩, some (12, true)⟩,
  .one ⟨some 64, .binOp .gtr 3 (.tmp 63) (.const (.int .i64 0)) 3, some (12, true)⟩] ⟨some 65, .pick (.tmp 60) (.tmp 64) (.const (.bool false)), some (8, false)⟩] ⟨some 66, .pick (.tmp 56) (.const (.bool true)) (.tmp 65), some (5, true)⟩] ⟨some 67, .pick (.tmp 53) (.tmp 66) (.const (.bool false)), none⟩]
def lists_Of_R12 : List Itm := [.one ⟨some 68, .move (.tmp 7), none⟩,
  .one ⟨some 69, .fieldAddr 104 (.tmp 13) 0, none⟩,
  .one ⟨some 70, .fieldAddr 30 (.tmp 69) 0, none⟩,
  .one ⟨some 71, .load 9 (.tmp 70), none⟩,
  .one ⟨some 72, .load 104 (.tmp 13), none⟩,
  .one ⟨none, .mapUpdate 96 (.tmp 68) (.tmp 71) (.tmp 72), none⟩]
def lists_Of_B3 : MCode := (.seq (.reg 8 lists_Of_R8 false) (.seq (.reg 9 lists_Of_R9 false) (.seq (.reg 10 lists_Of_R10 false) (.seq (.reg 11 lists_Of_R11 false) (.cond (.tmp 67) (.reg 12 lists_Of_R12 false) .skip)))))
def lists_Of_R13 : List Itm := [.one ⟨some 73, .binOp .add 3 (.tmp 33) (.const (.int .i64 1)) 3, none⟩,
  .one ⟨some 33, .move (.tmp 73), none⟩]
def lists_Of_W1 : MCode := (.seq (.reg 7 lists_Of_R7 false) (.seq (.cond (.tmp 34) .skip (.exit 2)) (.seq (.block 3 lists_Of_B3) (.reg 13 lists_Of_R13 false))))
def lists_Of_B2 : MCode := (.loop lists_Of_W1)
def lists_Of_B1 : MCode := (.seq (.reg 4 lists_Of_R4 false) (.seq (.reg 5 lists_Of_R5 false) (.seq (.reg 6 lists_Of_R6 false) (.block 2 lists_Of_B2))))
def lists_Of_R14 : List Itm := [.one ⟨some 74, .binOp .add 3 (.tmp 22) (.const (.int .i64 1)) 3, none⟩,
  .one ⟨some 22, .move (.tmp 74), none⟩]
def lists_Of_W2 : MCode := (.seq (.reg 3 lists_Of_R3 false) (.seq (.cond (.tmp 23) .skip (.exit 0)) (.seq (.block 1 lists_Of_B1) (.reg 14 lists_Of_R14 false))))
def lists_Of_B0 : MCode := (.loop lists_Of_W2)
def lists_Of_R15 : List Itm := [.one ⟨some 16, .assign (.const (.slice none 0 0)), none⟩]
def lists_Of_R16 : List Itm := [.one ⟨some 75, .move (.tmp 7), none⟩,
  .one ⟨some 76, .call ⟨.value (.func 59), #[.tmp 75], #[96]⟩, none⟩,
  .one ⟨some 77, .call ⟨.value (.func 58), #[.tmp 76], #[109]⟩, none⟩,
  .one ⟨some 78, .call ⟨.builtin .len, #[.tmp 77], #[23]⟩, none⟩,
  .one ⟨some 79, .move (.const (.int .i64 0)), none⟩]
def lists_Of_R17 : List Itm := [.one ⟨some 80, .binOp .lss 3 (.tmp 79) (.tmp 78) 3, none⟩]
def lists_Of_R18 : List Itm := [.one ⟨some 81, .indexAddr 23 (.tmp 77) (.tmp 79), none⟩,
  .one ⟨some 82, .load 9 (.tmp 81), none⟩,
  .one ⟨some 18, .assign (.tmp 82), none⟩]
def lists_Of_R19 : List Itm := [.one ⟨some 83, .move (.tmp 16), none⟩,
  .one ⟨some 84, .move (.tmp 7), none⟩,
  .one ⟨some 85, .move (.tmp 18), none⟩,
  .one ⟨some 86, .lookup 96 (.tmp 84) (.tmp 85) false, none⟩,
  .one ⟨some 87, .field 104 (.tmp 86) 0, none⟩,
  .one ⟨some 88, .buildSlice 26 1 #[(0, .tmp 87)], none⟩,
  .one ⟨some 89, .call ⟨.builtin .append, #[.tmp 83, .tmp 88], #[26, 26]⟩, none⟩,
  .one ⟨some 16, .assign (.tmp 89), none⟩]
def lists_Of_B5 : MCode := (.seq (.reg 18 lists_Of_R18 false) (.reg 19 lists_Of_R19 false))
def lists_Of_R20 : List Itm := [.one ⟨some 90, .binOp .add 3 (.tmp 79) (.const (.int .i64 1)) 3, none⟩,
  .one ⟨some 79, .move (.tmp 90), none⟩]
def lists_Of_W3 : MCode := (.seq (.reg 17 lists_Of_R17 false) (.seq (.cond (.tmp 80) .skip (.exit 4)) (.seq (.block 5 lists_Of_B5) (.reg 20 lists_Of_R20 false))))
def lists_Of_B4 : MCode := (.loop lists_Of_W3)
def lists_Of_R21 : List Itm := [.one ⟨some 91, .move (.tmp 16), none⟩,
  .one ⟨some 6, .assign (.tmp 91), none⟩]
def lists_Of_L : MCode := (.seq (.reg 0 lists_Of_R0 false) (.seq (.reg 1 lists_Of_R1 false) (.seq (.seq (.reg 2 lists_Of_R2 false) (.block 0 lists_Of_B0)) (.seq (.reg 15 lists_Of_R15 false) (.seq (.seq (.reg 16 lists_Of_R16 false) (.block 4 lists_Of_B4)) (.seq (.reg 21 lists_Of_R21 false) .ret))))))
def lists_Of_ks : Nat → List Nat := fun i => match i with
  | _ => []
theorem lists_Of_F : FnL Tryz.prog GW 17 92 lists_Of_L [.tmp 6] lists_Of_ks := ⟨⟨_, Tryz.func17, rfl, by kernel_rfl, by kernel_rfl, rfl⟩, by kernel_rfl, by kernel_rfl⟩
/-! agora/agoraref37.Same -/
def agoraref37_Same_R0 : List Itm := [.one ⟨some 4, .assign (.const (.bool false)), none⟩]
def agoraref37_Same_R1 : List Itm := [.one ⟨some 6, .move (.tmp 0), none⟩,
  .one ⟨some 7, .call ⟨.builtin .len, #[.tmp 6], #[26]⟩, none⟩,
  .one ⟨some 8, .move (.tmp 1), none⟩,
  .one ⟨some 9, .call ⟨.builtin .len, #[.tmp 8], #[26]⟩, none⟩,
  .one ⟨some 10, .binOp .neq 3 (.tmp 7) (.tmp 9) 3, none⟩]
def agoraref37_Same_R2 : List Itm := [.one ⟨some 4, .assign (.const (.bool false)), none⟩]
def agoraref37_Same_R3 : List Itm := [.one ⟨some 5, .assign (.const (.int .i64 0)), none⟩]
def agoraref37_Same_R4 : List Itm := [.one ⟨some 11, .move (.tmp 5), none⟩,
  .one ⟨some 12, .move (.tmp 0), none⟩,
  .one ⟨some 13, .call ⟨.builtin .len, #[.tmp 12], #[26]⟩, none⟩,
  .one ⟨some 14, .binOp .lss 3 (.tmp 11) (.tmp 13) 3, none⟩]
def agoraref37_Same_R6 : List Itm := [.one ⟨some 17, .move (.tmp 0), none⟩,
  .one ⟨some 18, .move (.tmp 5), none⟩,
  .one ⟨some 19, .indexAddr 26 (.tmp 17) (.tmp 18), none⟩,
  .one ⟨some 20, .load 30 (.tmp 19), none⟩,
  .one ⟨some 21, .move (.tmp 1), none⟩,
  .one ⟨some 22, .move (.tmp 5), none⟩,
  .one ⟨some 23, .indexAddr 26 (.tmp 21) (.tmp 22), none⟩,
  .one ⟨some 24, .load 30 (.tmp 23), none⟩,
  .one ⟨some 25, .binOp .neq 30 (.tmp 20) (.tmp 24) 30, none⟩]
def agoraref37_Same_R7 : List Itm := [.one ⟨some 4, .assign (.const (.bool false)), none⟩]
def agoraref37_Same_B1 : MCode := (.seq (.reg 6 agoraref37_Same_R6 true) (.cond (.tmp 25) (.seq (.reg 7 agoraref37_Same_R7 false) .ret) .skip))
def agoraref37_Same_R5 : List Itm := [.one ⟨some 15, .move (.tmp 5), none⟩,
  .one ⟨some 16, .binOp .add 3 (.tmp 15) (.const (.int .i64 1)) 3, none⟩,
  .one ⟨some 5, .assign (.tmp 16), none⟩]
def agoraref37_Same_W1 : MCode := (.seq (.seq (.reg 4 agoraref37_Same_R4 false) (.cond (.tmp 14) .skip (.exit 0))) (.seq (.block 1 agoraref37_Same_B1) (.reg 5 agoraref37_Same_R5 false)))
def agoraref37_Same_B0 : MCode := (.loop agoraref37_Same_W1)
def agoraref37_Same_R8 : List Itm := [.one ⟨some 4, .assign (.const (.bool true)), none⟩]
def agoraref37_Same_L : MCode := (.seq (.reg 0 agoraref37_Same_R0 false) (.seq (.seq (.reg 1 agoraref37_Same_R1 false) (.cond (.tmp 10) (.seq (.reg 2 agoraref37_Same_R2 false) .ret) .skip)) (.seq (.seq (.reg 3 agoraref37_Same_R3 false) (.block 0 agoraref37_Same_B0)) (.seq (.reg 8 agoraref37_Same_R8 false) .ret))))
def agoraref37_Same_ks : Nat → List Nat := fun i => match i with
  | 6 => [0, 0, 0, 0, 0, 0, 0, 0, 0]
  | _ => []
theorem agoraref37_Same_F : FnL Tryz.prog GW 18 26 agoraref37_Same_L [.tmp 4] agoraref37_Same_ks := ⟨⟨_, Tryz.func18, rfl, by kernel_rfl, by kernel_rfl, rfl⟩, by kernel_rfl, by kernel_rfl⟩
/-! slices.IndexFunc[list of agora/api.Listing,agora/api.Listing] -/
def slices_IndexFunc_Lapi_Listing_api_Listing_R0 : List Itm := [.one ⟨some 4, .assign (.const (.int .i64 0)), none⟩]
def slices_IndexFunc_Lapi_Listing_api_Listing_R1 : List Itm := [.one ⟨some 6, .move (.tmp 0), none⟩,
  .one ⟨some 7, .call ⟨.builtin .len, #[.tmp 6], #[26]⟩, none⟩,
  .one ⟨some 8, .move (.const (.int .i64 0)), none⟩]
def slices_IndexFunc_Lapi_Listing_api_Listing_R2 : List Itm := [.one ⟨some 9, .binOp .lss 3 (.tmp 8) (.tmp 7) 3, none⟩]
def slices_IndexFunc_Lapi_Listing_api_Listing_R3 : List Itm := [.one ⟨some 10, .move (.tmp 8), none⟩,
  .one ⟨some 5, .assign (.tmp 10), none⟩]
def slices_IndexFunc_Lapi_Listing_api_Listing_R4 : List Itm := [.one ⟨some 11, .move (.tmp 1), none⟩,
  .one ⟨some 12, .move (.tmp 0), none⟩,
  .one ⟨some 13, .move (.tmp 5), none⟩,
  .one ⟨some 14, .indexAddr 26 (.tmp 12) (.tmp 13), none⟩,
  .one ⟨some 15, .load 30 (.tmp 14), none⟩,
  .one ⟨some 16, .call ⟨.value (.tmp 11), #[.tmp 15], #[30]⟩, none⟩]
def slices_IndexFunc_Lapi_Listing_api_Listing_R5 : List Itm := [.one ⟨some 17, .move (.tmp 5), none⟩,
  .one ⟨some 4, .assign (.tmp 17), none⟩]
def slices_IndexFunc_Lapi_Listing_api_Listing_B1 : MCode := (.seq (.reg 3 slices_IndexFunc_Lapi_Listing_api_Listing_R3 false) (.seq (.reg 4 slices_IndexFunc_Lapi_Listing_api_Listing_R4 false) (.cond (.tmp 16) (.seq (.reg 5 slices_IndexFunc_Lapi_Listing_api_Listing_R5 false) .ret) .skip)))
def slices_IndexFunc_Lapi_Listing_api_Listing_R6 : List Itm := [.one ⟨some 18, .binOp .add 3 (.tmp 8) (.const (.int .i64 1)) 3, none⟩,
  .one ⟨some 8, .move (.tmp 18), none⟩]
def slices_IndexFunc_Lapi_Listing_api_Listing_W1 : MCode := (.seq (.reg 2 slices_IndexFunc_Lapi_Listing_api_Listing_R2 false) (.seq (.cond (.tmp 9) .skip (.exit 0)) (.seq (.block 1 slices_IndexFunc_Lapi_Listing_api_Listing_B1) (.reg 6 slices_IndexFunc_Lapi_Listing_api_Listing_R6 false))))
def slices_IndexFunc_Lapi_Listing_api_Listing_B0 : MCode := (.loop slices_IndexFunc_Lapi_Listing_api_Listing_W1)
def slices_IndexFunc_Lapi_Listing_api_Listing_R7 : List Itm := [.one ⟨some 4, .assign (.const (.int .i64 (-1))), none⟩]
def slices_IndexFunc_Lapi_Listing_api_Listing_L : MCode := (.seq (.reg 0 slices_IndexFunc_Lapi_Listing_api_Listing_R0 false) (.seq (.seq (.reg 1 slices_IndexFunc_Lapi_Listing_api_Listing_R1 false) (.block 0 slices_IndexFunc_Lapi_Listing_api_Listing_B0)) (.seq (.reg 7 slices_IndexFunc_Lapi_Listing_api_Listing_R7 false) .ret)))
def slices_IndexFunc_Lapi_Listing_api_Listing_ks : Nat → List Nat := fun i => match i with
  | _ => []
theorem slices_IndexFunc_Lapi_Listing_api_Listing_F : FnL Tryz.prog GW 60 19 slices_IndexFunc_Lapi_Listing_api_Listing_L [.tmp 4] slices_IndexFunc_Lapi_Listing_api_Listing_ks := ⟨⟨_, Tryz.func60, rfl, by kernel_rfl, by kernel_rfl, rfl⟩, by kernel_rfl, by kernel_rfl⟩
/-! agora/lists.Has$1 -/
def lists_Has_1_R0 : List Itm := [.one ⟨some 2, .box 30 (.tmp 0), none⟩,
  .one ⟨some 3, .assign (.const (.bool false)), none⟩]
def lists_Has_1_R1 : List Itm := [.one ⟨some 4, .fieldAddr 30 (.tmp 2) 0, none⟩,
  .one ⟨some 5, .load 9 (.tmp 4), none⟩,
  .one ⟨some 6, .load 9 (.tmp 1), none⟩,
  .one ⟨some 7, .binOp .eql 9 (.tmp 5) (.tmp 6) 9, none⟩,
  .one ⟨some 3, .assign (.tmp 7), none⟩]
def lists_Has_1_L : MCode := (.seq (.reg 0 lists_Has_1_R0 false) (.seq (.reg 1 lists_Has_1_R1 false) .ret))
def lists_Has_1_ks : Nat → List Nat := fun i => match i with
  | _ => []
theorem lists_Has_1_F : FnL Tryz.prog GW 61 8 lists_Has_1_L [.tmp 3] lists_Has_1_ks := ⟨⟨_, Tryz.func61, rfl, by kernel_rfl, by kernel_rfl, rfl⟩, by kernel_rfl, by kernel_rfl⟩
/-! agora/lists.Has -/
def lists_Has_R0 : List Itm := [.one ⟨some 3, .box 9 (.tmp 1), none⟩,
  .one ⟨some 4, .alloc 30, none⟩,
  .one ⟨some 5, .assign (.const (.bool false)), none⟩]
def lists_Has_R1 : List Itm := [.one ⟨some 7, .move (.tmp 0), none⟩,
  .one ⟨some 8, .makeFunc (.func 61) #[] #[.tmp 3], none⟩,
  .one ⟨some 9, .call ⟨.value (.func 60), #[.tmp 7, .tmp 8], #[26, 112]⟩, none⟩,
  .one ⟨some 6, .assign (.tmp 9), none⟩]
def lists_Has_R2 : List Itm := [.one ⟨some 10, .move (.tmp 6), none⟩,
  .one ⟨some 11, .binOp .geq 3 (.tmp 10) (.const (.int .i64 0)) 3, none⟩]
def lists_Has_R3 : List Itm := [.one ⟨some 12, .move (.tmp 0), none⟩,
  .one ⟨some 13, .move (.tmp 6), none⟩,
  .one ⟨some 14, .indexAddr 26 (.tmp 12) (.tmp 13), none⟩,
  .one ⟨some 15, .load 30 (.tmp 14), none⟩,
  .one ⟨none, .store 30 (.tmp 4) (.tmp 15), none⟩,
  .one ⟨some 5, .assign (.const (.bool true)), none⟩]
def lists_Has_R4 : List Itm := [.one ⟨some 16, .build 30 #[], none⟩,
  .one ⟨none, .store 30 (.tmp 4) (.tmp 16), none⟩,
  .one ⟨some 5, .assign (.const (.bool false)), none⟩]
def lists_Has_L : MCode := (.seq (.reg 0 lists_Has_R0 false) (.seq (.seq (.reg 1 lists_Has_R1 false) (.seq (.reg 2 lists_Has_R2 false) (.cond (.tmp 11) (.seq (.reg 3 lists_Has_R3 false) .ret) .skip))) (.seq (.reg 4 lists_Has_R4 false) .ret)))
def lists_Has_ks : Nat → List Nat := fun i => match i with
  | _ => []
theorem lists_Has_F : FnL Tryz.prog GW 19 17 lists_Has_L [.cell 4 30, .tmp 5] lists_Has_ks := ⟨⟨_, Tryz.func19, rfl, by kernel_rfl, by kernel_rfl, rfl⟩, by kernel_rfl, by kernel_rfl⟩
/-! agora/agoralaw37.small -/
def agoralaw37_small_R0 : List Itm := [.one ⟨some 0, .assign (.const (.bool false)), none⟩]
def agoralaw37_small_R1 : List Itm := [.one ⟨some 1, .assign (.const (.string ⟨#[48, 48, 48, 48, 48, 48, 48, 48, 48, 48, 48, 48, 48, 48, 97, 49]⟩)), none⟩]
def agoralaw37_small_R2 : List Itm := [.one ⟨some 2, .assign (.const (.string ⟨#[48, 48, 48, 48, 48, 48, 48, 48, 48, 48, 48, 48, 48, 48, 98, 50]⟩)), none⟩]
def agoralaw37_small_R3 : List Itm := [.one ⟨some 11, .move (.tmp 1), none⟩,
  .one ⟨some 12, .move (.tmp 2), none⟩,
  .one ⟨some 13, .build 49 #[(3, .const (.int .i64 23)), (6, .tmp 12), (10, .const (.string ⟨#[115, 112, 97, 109]⟩)), (14, .const (.int .i64 9))], none⟩,
  .one ⟨some 14, .move (.tmp 2), none⟩,
  .one ⟨some 15, .build 49 #[(3, .const (.int .i64 23)), (6, .tmp 14), (10, .const (.string ⟨#[98, 111, 116]⟩)), (14, .const (.int .i64 9))], none⟩,
  .one ⟨some 16, .move (.tmp 1), none⟩,
  .one ⟨some 17, .build 49 #[(3, .const (.int .i64 23)), (6, .tmp 16), (10, .const (.string ⟨#[120]⟩)), (14, .const (.int .i64 5))], none⟩,
  .one ⟨some 18, .buildSlice 37 3 #[(0, .tmp 13), (1, .tmp 15), (2, .tmp 17)], none⟩,
  .one ⟨some 19, .build 40 #[(0, .tmp 11), (1, .tmp 18)], none⟩,
  .one ⟨some 3, .alloc 40, none⟩,
  .one ⟨none, .store 40 (.tmp 3) (.tmp 19), none⟩]
def agoralaw37_small_R4 : List Itm := [.one ⟨some 20, .load 40 (.tmp 3), none⟩,
  .one ⟨some 21, .buildSlice 22 1 #[(0, .tmp 20)], none⟩,
  .one ⟨some 22, .move (.tmp 1), none⟩,
  .one ⟨some 23, .buildSlice 23 1 #[(0, .tmp 22)], none⟩,
  .one ⟨some 24, .call ⟨.value (.func 17), #[.tmp 21, .tmp 23, .const (.int .i64 5)], #[22, 23, 3]⟩, none⟩,
  .one ⟨some 4, .assign (.tmp 24), none⟩]
def agoralaw37_small_R5 : List Itm := [.one ⟨some 26, .move (.tmp 4), none⟩,
  .one ⟨some 27, .move (.tmp 2), none⟩,
  .one ⟨some 28, .call ⟨.value (.func 19), #[.tmp 26, .tmp 27], #[26, 9]⟩, none⟩,
  .one ⟨some 25, .move (.tmp 28), none⟩,
  .one ⟨some 29, .extract (.tmp 25) 0, none⟩,
  .one ⟨some 30, .extract (.tmp 25) 1, none⟩,
  .one ⟨some 5, .alloc 30, none⟩,
  .one ⟨none, .store 30 (.tmp 5) (.tmp 29), none⟩,
  .one ⟨some 6, .assign (.tmp 30), none⟩]
def agoralaw37_small_R6 : List Itm := [.one ⟨some 32, .move (.tmp 4), none⟩,
  .one ⟨some 33, .move (.tmp 1), none⟩,
  .one ⟨some 34, .call ⟨.value (.func 19), #[.tmp 32, .tmp 33], #[26, 9]⟩, none⟩,
  .one ⟨some 31, .move (.tmp 34), none⟩,
  .one ⟨some 35, .extract (.tmp 31) 0, none⟩,
  .one ⟨some 36, .extract (.tmp 31) 1, none⟩,
  .one ⟨some 7, .alloc 30, none⟩,
  .one ⟨none, .store 30 (.tmp 7) (.tmp 35), none⟩,
  .one ⟨some 8, .assign (.tmp 36), none⟩]
def agoralaw37_small_R7 : List Itm := [.one ⟨some 38, .move (.tmp 2), none⟩,
  .one ⟨some 39, .call ⟨.value (.func 19), #[.const (.slice none 0 0), .tmp 38], #[26, 9]⟩, none⟩,
  .one ⟨some 37, .move (.tmp 39), none⟩,
  .one ⟨some 40, .extract (.tmp 37) 0, none⟩,
  .one ⟨some 41, .extract (.tmp 37) 1, none⟩,
  .one ⟨some 9, .alloc 30, none⟩,
  .one ⟨none, .store 30 (.tmp 9) (.tmp 40), none⟩,
  .one ⟨some 10, .assign (.tmp 41), none⟩]
def agoralaw37_small_R8 : List Itm := [.one ⟨some 42, .move (.tmp 1), none⟩,
  .one ⟨some 43, .buildSlice 23 1 #[(0, .tmp 42)], none⟩,
  .one ⟨some 44, .call ⟨.value (.func 17), #[.const (.slice none 0 0), .tmp 43, .const (.int .i64 0)], #[22, 23, 3]⟩, none⟩,
  .one ⟨some 45, .call ⟨.builtin .len, #[.tmp 44], #[26]⟩, none⟩,
  .one ⟨some 46, .binOp .eql 3 (.tmp 45) (.const (.int .i64 0)) 3, none⟩,
  .one ⟨some 47, .move (.tmp 46), none⟩,
  .blk 5 true [.one ⟨some 48, .move (.tmp 4), some (5, true)⟩,
  .one ⟨some 49, .move (.tmp 2), some (5, true)⟩,
  .one ⟨some 50, .move (.tmp 1), some (5, true)⟩,
  .one ⟨some 51, .build 30 #[(0, .tmp 49), (1, .const (.string ⟨#[98, 111, 116]⟩)), (2, .tmp 50), (3, .const (.int .i64 9))], some (5, true)⟩,
  .one ⟨some 52, .buildSlice 26 1 #[(0, .tmp 51)], some (5, true)⟩,
  .one ⟨some 53, .call ⟨.value (.func 18), #[.tmp 48, .tmp 52], #[26, 26]⟩, some (5, true)⟩] ⟨some 54, .pick (.tmp 47) (.tmp 53) (.const (.bool false)), none⟩,
  .one ⟨some 55, .move (.tmp 54), none⟩,
  .blk 13 true [.one ⟨some 56, .move (.tmp 6), some (13, true)⟩] ⟨some 57, .pick (.tmp 55) (.tmp 56) (.const (.bool false)), none⟩,
  .one ⟨some 58, .move (.tmp 57), none⟩,
  .blk 16 true [.one ⟨some 59, .load 30 (.tmp 5), some (16, true)⟩,
  .one ⟨some 60, .move (.tmp 4), some (16, true)⟩,
  .one ⟨some 61, .indexAddr 26 (.tmp 60) (.const (.int .i64 0)), some (16, true)⟩,
  .one ⟨some 62, .load 30 (.tmp 61), some (16, true)⟩,
  .one ⟨some 63, .binOp .eql 30 (.tmp 59) (.tmp 62) 30, some (16, true)⟩] ⟨some 64, .pick (.tmp 58) (.tmp 63) (.const (.bool false)), none⟩,
  .one ⟨some 65, .move (.tmp 64), none⟩,
  .blk 23 true [.one ⟨some 66, .move (.tmp 8), some (23, true)⟩,
  .one ⟨some 67, .unOp .not 4 (.tmp 66), some (23, true)⟩] ⟨some 68, .pick (.tmp 65) (.tmp 67) (.const (.bool false)), none⟩,
  .one ⟨some 69, .move (.tmp 68), none⟩,
  .blk 27 true [.one ⟨some 70, .move (.tmp 10), some (27, true)⟩,
  .one ⟨some 71, .unOp .not 4 (.tmp 70), some (27, true)⟩] ⟨some 72, .pick (.tmp 69) (.tmp 71) (.const (.bool false)), none⟩,
  .one ⟨some 0, .assign (.tmp 72), none⟩]
def agoralaw37_small_L : MCode := (.seq (.reg 0 agoralaw37_small_R0 false) (.seq (.reg 1 agoralaw37_small_R1 false) (.seq (.reg 2 agoralaw37_small_R2 false) (.seq (.reg 3 agoralaw37_small_R3 false) (.seq (.reg 4 agoralaw37_small_R4 false) (.seq (.reg 5 agoralaw37_small_R5 false) (.seq (.reg 6 agoralaw37_small_R6 false) (.seq (.reg 7 agoralaw37_small_R7 false) (.seq (.reg 8 agoralaw37_small_R8 true) .ret)))))))))
def agoralaw37_small_ks : Nat → List Nat := fun i => match i with
  | 8 => [0, 0, 0, 0, 0, 0, 0, 0, 0, 0, 0, 0, 0, 0, 0, 0, 0, 0, 0, 0, 0, 0, 0, 0, 0, 0, 0, 0, 0, 0, 0, 0]
  | _ => []
theorem agoralaw37_small_F : FnL Tryz.prog GW 15 73 agoralaw37_small_L [.tmp 0] agoralaw37_small_ks := ⟨⟨_, Tryz.func15, rfl, by kernel_rfl, by kernel_rfl, rfl⟩, by kernel_rfl, by kernel_rfl⟩
/-! agora/agoralaw37.few -/
def agoralaw37_few_R0 : List Itm := [.one ⟨some 2, .assign (.const (.bool false)), none⟩]
def agoralaw37_few_R1 : List Itm := [.one ⟨some 6, .move (.tmp 0), none⟩,
  .one ⟨some 7, .call ⟨.builtin .len, #[.tmp 6], #[22]⟩, none⟩,
  .one ⟨some 8, .binOp .gtr 3 (.tmp 7) (.const (.int .i64 6)) 3, none⟩]
def agoralaw37_few_R2 : List Itm := [.one ⟨some 2, .assign (.const (.bool false)), none⟩]
def agoralaw37_few_R3 : List Itm := [.one ⟨some 3, .assign (.const (.int .i64 0)), none⟩]
def agoralaw37_few_R4 : List Itm := [.one ⟨some 9, .move (.tmp 3), none⟩,
  .one ⟨some 10, .move (.tmp 0), none⟩,
  .one ⟨some 11, .call ⟨.builtin .len, #[.tmp 10], #[22]⟩, none⟩,
  .one ⟨some 12, .binOp .lss 3 (.tmp 9) (.tmp 11) 3, none⟩]
def agoralaw37_few_R6 : List Itm := [.one ⟨some 15, .move (.tmp 0), none⟩,
  .one ⟨some 16, .move (.tmp 3), none⟩,
  .one ⟨some 17, .indexAddr 22 (.tmp 15) (.tmp 16), none⟩,
  .one ⟨some 18, .fieldAddr 40 (.tmp 17) 1, none⟩,
  .one ⟨some 19, .load 37 (.tmp 18), none⟩,
  .one ⟨some 20, .call ⟨.builtin .len, #[.tmp 19], #[37]⟩, none⟩,
  .one ⟨some 21, .binOp .gtr 3 (.tmp 20) (.const (.int .i64 24)) 3, none⟩]
def agoralaw37_few_R7 : List Itm := [.one ⟨some 2, .assign (.const (.bool false)), none⟩]
def agoralaw37_few_R8 : List Itm := [.one ⟨some 4, .assign (.const (.int .i64 0)), none⟩]
def agoralaw37_few_R9 : List Itm := [.one ⟨some 22, .move (.tmp 4), none⟩,
  .one ⟨some 23, .move (.tmp 0), none⟩,
  .one ⟨some 24, .move (.tmp 3), none⟩,
  .one ⟨some 25, .indexAddr 22 (.tmp 23) (.tmp 24), none⟩,
  .one ⟨some 26, .fieldAddr 40 (.tmp 25) 1, none⟩,
  .one ⟨some 27, .load 37 (.tmp 26), none⟩,
  .one ⟨some 28, .call ⟨.builtin .len, #[.tmp 27], #[37]⟩, none⟩,
  .one ⟨some 29, .binOp .lss 3 (.tmp 22) (.tmp 28) 3, none⟩]
def agoralaw37_few_R11 : List Itm := [.one ⟨some 32, .move (.tmp 0), none⟩,
  .one ⟨some 33, .move (.tmp 3), none⟩,
  .one ⟨some 34, .indexAddr 22 (.tmp 32) (.tmp 33), none⟩,
  .one ⟨some 35, .fieldAddr 40 (.tmp 34) 1, none⟩,
  .one ⟨some 36, .load 37 (.tmp 35), none⟩,
  .one ⟨some 37, .move (.tmp 4), none⟩,
  .one ⟨some 38, .indexAddr 37 (.tmp 36) (.tmp 37), none⟩,
  .one ⟨some 39, .load 49 (.tmp 38), none⟩,
  .one ⟨some 5, .alloc 49, none⟩,
  .one ⟨none, .store 49 (.tmp 5) (.tmp 39), none⟩]
def agoralaw37_few_R12 : List Itm := [.one ⟨some 40, .fieldAddr 49 (.tmp 5) 9, none⟩,
  .one ⟨some 41, .load 23 (.tmp 40), none⟩,
  .one ⟨some 42, .call ⟨.builtin .len, #[.tmp 41], #[23]⟩, none⟩,
  .one ⟨some 43, .binOp .gtr 3 (.tmp 42) (.const (.int .i64 8)) 3, none⟩,
  .one ⟨some 44, .move (.tmp 43), none⟩,
  .blk 4 false [.one ⟨some 45, .fieldAddr 49 (.tmp 5) 13, some (4, false)⟩,
  .one ⟨some 46, .load 45 (.tmp 45), some (4, false)⟩,
  .one ⟨some 47, .call ⟨.builtin .len, #[.tmp 46], #[45]⟩, some (4, false)⟩,
  .one ⟨some 48, .binOp .gtr 3 (.tmp 47) (.const (.int .i64 8)) 3, some (4, false)⟩] ⟨some 49, .pick (.tmp 44) (.const (.bool true)) (.tmp 48), none⟩,
  .one ⟨some 50, .move (.tmp 49), none⟩,
  .blk 10 false [.one ⟨some 51, .fieldAddr 49 (.tmp 5) 10, some (10, false)⟩,
  .one ⟨some 52, .load 9 (.tmp 51), some (10, false)⟩,
  .one ⟨some 53, .call ⟨.builtin .len, #[.tmp 52], #[9]⟩, some (10, false)⟩,
  .one ⟨some 54, .binOp .gtr 3 (.tmp 53) (.const (.int .i64 600)) 3, some (10, false)⟩] ⟨some 55, .pick (.tmp 50) (.const (.bool true)) (.tmp 54), none⟩,
  .one ⟨some 56, .move (.tmp 55), none⟩,
  .blk 16 false [.one ⟨some 57, .fieldAddr 49 (.tmp 5) 11, some (16, false)⟩,
  .one ⟨some 58, .fieldAddr 44 (.tmp 57) 1, some (16, false)⟩,
  .one ⟨some 59, .load 9 (.tmp 58), some (16, false)⟩,
  .one ⟨some 60, .call ⟨.builtin .len, #[.tmp 59], #[9]⟩, some (16, false)⟩,
  .one ⟨some 61, .binOp .gtr 3 (.tmp 60) (.const (.int .i64 600)) 3, some (16, false)⟩] ⟨some 62, .pick (.tmp 56) (.const (.bool true)) (.tmp 61), none⟩]
def agoralaw37_few_R13 : List Itm := [.one ⟨some 2, .assign (.const (.bool false)), none⟩]
def agoralaw37_few_B3 : MCode := (.seq (.reg 11 agoralaw37_few_R11 false) (.seq (.reg 12 agoralaw37_few_R12 false) (.cond (.tmp 62) (.seq (.reg 13 agoralaw37_few_R13 false) .ret) .skip)))
def agoralaw37_few_R10 : List Itm := [.one ⟨some 30, .move (.tmp 4), none⟩,
  .one ⟨some 31, .binOp .add 3 (.tmp 30) (.const (.int .i64 1)) 3, none⟩,
  .one ⟨some 4, .assign (.tmp 31), none⟩]
def agoralaw37_few_W1 : MCode := (.seq (.seq (.reg 9 agoralaw37_few_R9 false) (.cond (.tmp 29) .skip (.exit 2))) (.seq (.block 3 agoralaw37_few_B3) (.reg 10 agoralaw37_few_R10 false)))
def agoralaw37_few_B2 : MCode := (.loop agoralaw37_few_W1)
def agoralaw37_few_B1 : MCode := (.seq (.seq (.reg 6 agoralaw37_few_R6 false) (.cond (.tmp 21) (.seq (.reg 7 agoralaw37_few_R7 false) .ret) .skip)) (.seq (.reg 8 agoralaw37_few_R8 false) (.block 2 agoralaw37_few_B2)))
def agoralaw37_few_R5 : List Itm := [.one ⟨some 13, .move (.tmp 3), none⟩,
  .one ⟨some 14, .binOp .add 3 (.tmp 13) (.const (.int .i64 1)) 3, none⟩,
  .one ⟨some 3, .assign (.tmp 14), none⟩]
def agoralaw37_few_W2 : MCode := (.seq (.seq (.reg 4 agoralaw37_few_R4 false) (.cond (.tmp 12) .skip (.exit 0))) (.seq (.block 1 agoralaw37_few_B1) (.reg 5 agoralaw37_few_R5 false)))
def agoralaw37_few_B0 : MCode := (.loop agoralaw37_few_W2)
def agoralaw37_few_R14 : List Itm := [.one ⟨some 2, .assign (.const (.bool true)), none⟩]
def agoralaw37_few_L : MCode := (.seq (.reg 0 agoralaw37_few_R0 false) (.seq (.seq (.reg 1 agoralaw37_few_R1 false) (.cond (.tmp 8) (.seq (.reg 2 agoralaw37_few_R2 false) .ret) .skip)) (.seq (.seq (.reg 3 agoralaw37_few_R3 false) (.block 0 agoralaw37_few_B0)) (.seq (.reg 14 agoralaw37_few_R14 false) .ret))))
def agoralaw37_few_ks : Nat → List Nat := fun i => match i with
  | _ => []
theorem agoralaw37_few_F : FnL Tryz.prog GW 16 63 agoralaw37_few_L [.tmp 2] agoralaw37_few_ks := ⟨⟨_, Tryz.func16, rfl, by kernel_rfl, by kernel_rfl, rfl⟩, by kernel_rfl, by kernel_rfl⟩
/-! agora/agoraref21.Has -/
def agoraref21_Has_R0 : List Itm := [.one ⟨some 4, .assign (.const (.bool false)), none⟩]
def agoraref21_Has_R1 : List Itm := [.one ⟨some 5, .assign (.const (.int .i64 0)), none⟩]
def agoraref21_Has_R2 : List Itm := [.one ⟨some 6, .move (.tmp 5), none⟩,
  .one ⟨some 7, .move (.tmp 0), none⟩,
  .one ⟨some 8, .call ⟨.builtin .len, #[.tmp 7], #[23]⟩, none⟩,
  .one ⟨some 9, .binOp .lss 3 (.tmp 6) (.tmp 8) 3, none⟩]
def agoraref21_Has_R4 : List Itm := [.one ⟨some 12, .move (.tmp 0), none⟩,
  .one ⟨some 13, .move (.tmp 5), none⟩,
  .one ⟨some 14, .indexAddr 23 (.tmp 12) (.tmp 13), none⟩,
  .one ⟨some 15, .load 9 (.tmp 14), none⟩,
  .one ⟨some 16, .move (.tmp 1), none⟩,
  .one ⟨some 17, .binOp .eql 9 (.tmp 15) (.tmp 16) 9, none⟩]
def agoraref21_Has_R5 : List Itm := [.one ⟨some 4, .assign (.const (.bool true)), none⟩]
def agoraref21_Has_B1 : MCode := (.seq (.reg 4 agoraref21_Has_R4 false) (.cond (.tmp 17) (.seq (.reg 5 agoraref21_Has_R5 false) .ret) .skip))
def agoraref21_Has_R3 : List Itm := [.one ⟨some 10, .move (.tmp 5), none⟩,
  .one ⟨some 11, .binOp .add 3 (.tmp 10) (.const (.int .i64 1)) 3, none⟩,
  .one ⟨some 5, .assign (.tmp 11), none⟩]
def agoraref21_Has_W1 : MCode := (.seq (.seq (.reg 2 agoraref21_Has_R2 false) (.cond (.tmp 9) .skip (.exit 0))) (.seq (.block 1 agoraref21_Has_B1) (.reg 3 agoraref21_Has_R3 false)))
def agoraref21_Has_B0 : MCode := (.loop agoraref21_Has_W1)
def agoraref21_Has_R6 : List Itm := [.one ⟨some 4, .assign (.const (.bool false)), none⟩]
def agoraref21_Has_L : MCode := (.seq (.reg 0 agoraref21_Has_R0 false) (.seq (.seq (.reg 1 agoraref21_Has_R1 false) (.block 0 agoraref21_Has_B0)) (.seq (.reg 6 agoraref21_Has_R6 false) .ret)))
def agoraref21_Has_ks : Nat → List Nat := fun i => match i with
  | _ => []
theorem agoraref21_Has_F : FnL Tryz.prog GW 20 18 agoraref21_Has_L [.tmp 4] agoraref21_Has_ks := ⟨⟨_, Tryz.func20, rfl, by kernel_rfl, by kernel_rfl, rfl⟩, by kernel_rfl, by kernel_rfl⟩
/-! agora/ident.Ids -/
def ident_Ids_R0 : List Itm := [.one ⟨some 2, .assign (.const (.bool false)), none⟩]
def ident_Ids_R1 : List Itm := [.one ⟨some 5, .move (.tmp 0), none⟩,
  .one ⟨some 6, .call ⟨.builtin .len, #[.tmp 5], #[23]⟩, none⟩,
  .one ⟨some 7, .binOp .gtr 3 (.tmp 6) (.const (.int .i64 64)) 3, none⟩]
def ident_Ids_R2 : List Itm := [.one ⟨some 2, .assign (.const (.bool false)), none⟩]
def ident_Ids_R3 : List Itm := [.one ⟨some 8, .move (.tmp 0), none⟩,
  .one ⟨some 9, .call ⟨.builtin .len, #[.tmp 8], #[23]⟩, none⟩,
  .one ⟨some 10, .move (.const (.int .i64 0)), none⟩]
def ident_Ids_R4 : List Itm := [.one ⟨some 11, .binOp .lss 3 (.tmp 10) (.tmp 9) 3, none⟩]
def ident_Ids_R5 : List Itm := [.one ⟨some 12, .move (.tmp 10), none⟩,
  .one ⟨some 13, .indexAddr 23 (.tmp 8) (.tmp 10), none⟩,
  .one ⟨some 14, .load 9 (.tmp 13), none⟩,
  .one ⟨some 3, .assign (.tmp 12), none⟩,
  .one ⟨some 4, .assign (.tmp 14), none⟩]
def ident_Ids_R6 : List Itm := [.one ⟨some 15, .move (.tmp 4), none⟩,
  .one ⟨some 16, .call ⟨.value (.func 188), #[.tmp 15], #[9]⟩, none⟩,
  .one ⟨some 17, .unOp .not 4 (.tmp 16), none⟩,
  .one ⟨some 18, .move (.tmp 17), none⟩,
  .blk 3 false [.one ⟨some 19, .move (.tmp 3), some (3, false)⟩,
  .one ⟨some 20, .binOp .gtr 3 (.tmp 19) (.const (.int .i64 0)) 3, some (3, false)⟩,
  .one ⟨some 21, .move (.tmp 20), some (3, false)⟩,
  .blk 6 true [.one ⟨some 22, .move (.tmp 0), some (6, true)⟩,
  .one ⟨some 23, .move (.tmp 3), some (6, true)⟩,
  .one ⟨some 24, .binOp .sub 3 (.tmp 23) (.const (.int .i64 1)) 3, some (6, true)⟩,
  .one ⟨some 25, .indexAddr 23 (.tmp 22) (.tmp 24), some (6, true)⟩,
  .one ⟨some 26, .load 9 (.tmp 25), some (6, true)⟩,
  .one ⟨some 27, .move (.tmp 4), some (6, true)⟩,
  .one ⟨some 28, .binOp .geq 9 (.tmp 26) (.tmp 27) 9, some (6, true)⟩] ⟨some 29, .pick (.tmp 21) (.tmp 28) (.const (.bool false)), some (3, false)⟩] ⟨some 30, .pick (.tmp 18) (.const (.bool true)) (.tmp 29), none⟩]
def ident_Ids_R7 : List Itm := [.one ⟨some 2, .assign (.const (.bool false)), none⟩]
def ident_Ids_B1 : MCode := (.seq (.reg 5 ident_Ids_R5 false) (.seq (.reg 6 ident_Ids_R6 false) (.cond (.tmp 30) (.seq (.reg 7 ident_Ids_R7 false) .ret) .skip)))
def ident_Ids_R8 : List Itm := [.one ⟨some 31, .binOp .add 3 (.tmp 10) (.const (.int .i64 1)) 3, none⟩,
  .one ⟨some 10, .move (.tmp 31), none⟩]
def ident_Ids_W1 : MCode := (.seq (.reg 4 ident_Ids_R4 false) (.seq (.cond (.tmp 11) .skip (.exit 0)) (.seq (.block 1 ident_Ids_B1) (.reg 8 ident_Ids_R8 false))))
def ident_Ids_B0 : MCode := (.loop ident_Ids_W1)
def ident_Ids_R9 : List Itm := [.one ⟨some 2, .assign (.const (.bool true)), none⟩]
def ident_Ids_L : MCode := (.seq (.reg 0 ident_Ids_R0 false) (.seq (.seq (.reg 1 ident_Ids_R1 false) (.cond (.tmp 7) (.seq (.reg 2 ident_Ids_R2 false) .ret) .skip)) (.seq (.seq (.reg 3 ident_Ids_R3 false) (.block 0 ident_Ids_B0)) (.seq (.reg 9 ident_Ids_R9 false) .ret))))
def ident_Ids_ks : Nat → List Nat := fun i => match i with
  | _ => []
theorem ident_Ids_F : FnL Tryz.prog GW 226 32 ident_Ids_L [.tmp 2] ident_Ids_ks := ⟨⟨_, Tryz.func226, rfl, by kernel_rfl, by kernel_rfl, rfl⟩, by kernel_rfl, by kernel_rfl⟩
end Go.Proofs.YthkmfboffnhkaaaGreatDoor
