/-
  The light code of functions: printed by wip/tools/gen.py.
-/
import Derived.Test.YthkmfboffnhkaaaGreatDoorTY
namespace Go.Proofs.YthkmfboffnhkaaaGreatDoor
open Go Go.L1
set_option linter.all false
set_option maxRecDepth 100000
/-! agora/code.Num -/
def code_Num_R0 : List Itm := [.one ⟨some 2, .assign (.const (.string ⟨#[]⟩)), none⟩]
def code_Num_R1 : List Itm := [.one ⟨some 4, .move (.tmp 0), none⟩,
  .one ⟨some 5, .binOp .lss 3 (.tmp 4) (.const (.int .i64 0)) 3, none⟩]
def code_Num_R2 : List Itm := [.one ⟨some 2, .assign (.const (.string ⟨#[]⟩)), none⟩]
def code_Num_R3 : List Itm := [.one ⟨some 6, .makeSlice 207 (.const (.int .i64 0)) (.const (.int .i64 9)), none⟩,
  .one ⟨some 3, .assign (.tmp 6), none⟩]
def code_Num_R4 : List Itm := [.one ⟨some 7, .move (.tmp 0), none⟩,
  .one ⟨some 8, .binOp .geq 3 (.tmp 7) (.const (.int .i64 128)) 3, none⟩]
def code_Num_R5 : List Itm := [.one ⟨some 9, .move (.tmp 3), none⟩,
  .one ⟨some 10, .move (.tmp 0), none⟩,
  .one ⟨some 11, .binOp .rem 3 (.tmp 10) (.const (.int .i64 128)) 3, none⟩,
  .one ⟨some 12, .binOp .or 3 (.tmp 11) (.const (.int .i64 128)) 3, none⟩,
  .one ⟨some 13, .convert 3 5 (.tmp 12), none⟩,
  .one ⟨some 14, .buildSlice 207 1 #[(0, .tmp 13)], none⟩,
  .one ⟨some 15, .call ⟨.builtin .append, #[.tmp 9, .tmp 14], #[207, 207]⟩, none⟩,
  .one ⟨some 3, .assign (.tmp 15), none⟩]
def code_Num_R6 : List Itm := [.one ⟨some 16, .move (.tmp 0), none⟩,
  .one ⟨some 17, .binOp .quo 3 (.tmp 16) (.const (.int .i64 128)) 3, none⟩,
  .one ⟨some 0, .assign (.tmp 17), none⟩]
def code_Num_B1 : MCode := (.seq (.reg 5 code_Num_R5 false) (.reg 6 code_Num_R6 false))
def code_Num_W1 : MCode := (.seq (.seq (.reg 4 code_Num_R4 false) (.cond (.tmp 8) .skip (.exit 0))) (.block 1 code_Num_B1))
def code_Num_B0 : MCode := (.loop code_Num_W1)
def code_Num_R7 : List Itm := [.one ⟨some 18, .move (.tmp 3), none⟩,
  .one ⟨some 19, .move (.tmp 0), none⟩,
  .one ⟨some 20, .convert 3 5 (.tmp 19), none⟩,
  .one ⟨some 21, .buildSlice 207 1 #[(0, .tmp 20)], none⟩,
  .one ⟨some 22, .call ⟨.builtin .append, #[.tmp 18, .tmp 21], #[207, 207]⟩, none⟩,
  .one ⟨some 23, .convert 207 9 (.tmp 22), none⟩,
  .one ⟨some 2, .assign (.tmp 23), none⟩]
def code_Num_L : MCode := (.seq (.reg 0 code_Num_R0 false) (.seq (.seq (.reg 1 code_Num_R1 false) (.cond (.tmp 5) (.seq (.reg 2 code_Num_R2 false) .ret) .skip)) (.seq (.reg 3 code_Num_R3 false) (.seq (.block 0 code_Num_B0) (.seq (.reg 7 code_Num_R7 false) .ret)))))
def code_Num_ks : Nat → List Nat := fun i => match i with
  | _ => []
theorem code_Num_F : FnL Tryz.prog GW 161 24 code_Num_L [.tmp 2] code_Num_ks := ⟨⟨_, Tryz.func161, rfl, by kernel_rfl, by kernel_rfl, rfl⟩, by kernel_rfl, by kernel_rfl⟩
/-! agora/code.Text -/
def code_Text_R0 : List Itm := [.one ⟨some 2, .assign (.const (.string ⟨#[]⟩)), none⟩]
def code_Text_R1 : List Itm := [.one ⟨some 3, .move (.tmp 0), none⟩,
  .one ⟨some 4, .call ⟨.builtin .len, #[.tmp 3], #[9]⟩, none⟩,
  .one ⟨some 5, .call ⟨.value (.func 161), #[.tmp 4], #[3]⟩, none⟩,
  .one ⟨some 6, .move (.tmp 0), none⟩,
  .one ⟨some 7, .binOp .add 9 (.tmp 5) (.tmp 6) 9, none⟩,
  .one ⟨some 2, .assign (.tmp 7), none⟩]
def code_Text_L : MCode := (.seq (.reg 0 code_Text_R0 false) (.seq (.reg 1 code_Text_R1 false) .ret))
def code_Text_ks : Nat → List Nat := fun i => match i with
  | _ => []
theorem code_Text_F : FnL Tryz.prog GW 160 8 code_Text_L [.tmp 2] code_Text_ks := ⟨⟨_, Tryz.func160, rfl, by kernel_rfl, by kernel_rfl, rfl⟩, by kernel_rfl, by kernel_rfl⟩
/-! agora/code.write[string] -/
def code_write_string_R0 : List Itm := [.one ⟨some 4, .assign (.const (.string ⟨#[]⟩)), none⟩]
def code_write_string_R1 : List Itm := [.one ⟨some 5, .alloc 213, none⟩]
def code_write_string_R2 : List Itm := [.one ⟨some 8, .move (.tmp 0), none⟩,
  .one ⟨some 9, .call ⟨.builtin .len, #[.tmp 8], #[23]⟩, none⟩,
  .one ⟨some 10, .call ⟨.value (.func 161), #[.tmp 9], #[3]⟩, none⟩,
  .one ⟨some 11, .call ⟨.value (.func 164), #[.tmp 5, .tmp 10], #[213, 9]⟩, none⟩]
def code_write_string_R3 : List Itm := [.one ⟨some 12, .move (.tmp 0), none⟩,
  .one ⟨some 13, .call ⟨.builtin .len, #[.tmp 12], #[23]⟩, none⟩,
  .one ⟨some 14, .move (.const (.int .i64 0)), none⟩]
def code_write_string_R4 : List Itm := [.one ⟨some 15, .binOp .lss 3 (.tmp 14) (.tmp 13) 3, none⟩]
def code_write_string_R5 : List Itm := [.one ⟨some 16, .indexAddr 23 (.tmp 12) (.tmp 14), none⟩,
  .one ⟨some 17, .load 9 (.tmp 16), none⟩,
  .one ⟨some 7, .assign (.tmp 17), none⟩]
def code_write_string_R6 : List Itm := [.one ⟨some 18, .move (.tmp 1), none⟩,
  .one ⟨some 19, .move (.tmp 7), none⟩,
  .one ⟨some 20, .call ⟨.value (.tmp 18), #[.tmp 19], #[9]⟩, none⟩,
  .one ⟨some 21, .call ⟨.value (.func 164), #[.tmp 5, .tmp 20], #[213, 9]⟩, none⟩]
def code_write_string_B1 : MCode := (.seq (.reg 5 code_write_string_R5 false) (.reg 6 code_write_string_R6 false))
def code_write_string_R7 : List Itm := [.one ⟨some 22, .binOp .add 3 (.tmp 14) (.const (.int .i64 1)) 3, none⟩,
  .one ⟨some 14, .move (.tmp 22), none⟩]
def code_write_string_W1 : MCode := (.seq (.reg 4 code_write_string_R4 false) (.seq (.cond (.tmp 15) .skip (.exit 0)) (.seq (.block 1 code_write_string_B1) (.reg 7 code_write_string_R7 false))))
def code_write_string_B0 : MCode := (.loop code_write_string_W1)
def code_write_string_R8 : List Itm := [.one ⟨some 23, .call ⟨.value (.func 167), #[.tmp 5], #[213]⟩, none⟩,
  .one ⟨some 4, .assign (.tmp 23), none⟩]
def code_write_string_L : MCode := (.seq (.reg 0 code_write_string_R0 false) (.seq (.reg 1 code_write_string_R1 false) (.seq (.reg 2 code_write_string_R2 false) (.seq (.seq (.reg 3 code_write_string_R3 false) (.block 0 code_write_string_B0)) (.seq (.reg 8 code_write_string_R8 false) .ret)))))
def code_write_string_ks : Nat → List Nat := fun i => match i with
  | _ => []
theorem code_write_string_F : FnL Tryz.prog GW 223 24 code_write_string_L [.tmp 4] code_write_string_ks := ⟨⟨_, Tryz.func223, rfl, by kernel_rfl, by kernel_rfl, rfl⟩, by kernel_rfl, by kernel_rfl⟩
/-! agora/code.List -/
def code_List_R0 : List Itm := [.one ⟨some 2, .assign (.const (.string ⟨#[]⟩)), none⟩]
def code_List_R1 : List Itm := [.one ⟨some 3, .move (.tmp 0), none⟩,
  .one ⟨some 4, .call ⟨.value (.func 223), #[.tmp 3, .func 160], #[23, 180]⟩, none⟩,
  .one ⟨some 2, .assign (.tmp 4), none⟩]
def code_List_L : MCode := (.seq (.reg 0 code_List_R0 false) (.seq (.reg 1 code_List_R1 false) .ret))
def code_List_ks : Nat → List Nat := fun i => match i with
  | _ => []
theorem code_List_F : FnL Tryz.prog GW 198 5 code_List_L [.tmp 2] code_List_ks := ⟨⟨_, Tryz.func198, rfl, by kernel_rfl, by kernel_rfl, rfl⟩, by kernel_rfl, by kernel_rfl⟩
/-! agora/act.box -/
def act_box_R0 : List Itm := [.one ⟨some 1, .box 44 (.tmp 0), none⟩,
  .one ⟨some 2, .assign (.const (.string ⟨#[]⟩)), none⟩]
def act_box_R1 : List Itm := [.one ⟨some 3, .fieldAddr 44 (.tmp 1) 0, none⟩,
  .one ⟨some 4, .load 9 (.tmp 3), none⟩,
  .one ⟨some 5, .call ⟨.value (.func 160), #[.tmp 4], #[9]⟩, none⟩,
  .one ⟨some 6, .fieldAddr 44 (.tmp 1) 1, none⟩,
  .one ⟨some 7, .load 9 (.tmp 6), none⟩,
  .one ⟨some 8, .call ⟨.value (.func 160), #[.tmp 7], #[9]⟩, none⟩,
  .one ⟨some 9, .binOp .add 9 (.tmp 5) (.tmp 8) 9, none⟩,
  .one ⟨some 10, .fieldAddr 44 (.tmp 1) 2, none⟩,
  .one ⟨some 11, .load 9 (.tmp 10), none⟩,
  .one ⟨some 12, .call ⟨.value (.func 160), #[.tmp 11], #[9]⟩, none⟩,
  .one ⟨some 13, .binOp .add 9 (.tmp 9) (.tmp 12) 9, none⟩,
  .one ⟨some 2, .assign (.tmp 13), none⟩]
def act_box_L : MCode := (.seq (.reg 0 act_box_R0 false) (.seq (.reg 1 act_box_R1 true) .ret))
def act_box_ks : Nat → List Nat := fun i => match i with
  | 1 => [0, 0, 0, 0, 0, 0, 0, 0, 0, 0, 0, 0]
  | _ => []
theorem act_box_F : FnL Tryz.prog GW 199 14 act_box_L [.tmp 2] act_box_ks := ⟨⟨_, Tryz.func199, rfl, by kernel_rfl, by kernel_rfl, rfl⟩, by kernel_rfl, by kernel_rfl⟩
/-! agora/act.Core -/
def act_Core_R0 : List Itm := [.one ⟨some 1, .box 49 (.tmp 0), none⟩,
  .one ⟨some 2, .assign (.const (.string ⟨#[]⟩)), none⟩]
def act_Core_R1 : List Itm := [.one ⟨some 8, .load 49 (.tmp 1), none⟩,
  .one ⟨some 9, .call ⟨.value (.func 152), #[.tmp 8], #[49]⟩, none⟩,
  .one ⟨some 10, .unOp .not 4 (.tmp 9), none⟩]
def act_Core_R2 : List Itm := [.one ⟨some 2, .assign (.const (.string ⟨#[]⟩)), none⟩]
def act_Core_R3 : List Itm := [.one ⟨some 3, .alloc 213, none⟩]
def act_Core_R4 : List Itm := [.one ⟨some 11, .call ⟨.value (.func 160), #[.const (.string ⟨#[97, 99, 116]⟩)], #[9]⟩, none⟩,
  .one ⟨some 12, .fieldAddr 49 (.tmp 1) 0, none⟩,
  .one ⟨some 13, .load 9 (.tmp 12), none⟩,
  .one ⟨some 14, .call ⟨.value (.func 160), #[.tmp 13], #[9]⟩, none⟩,
  .one ⟨some 15, .fieldAddr 49 (.tmp 1) 1, none⟩,
  .one ⟨some 16, .load 3 (.tmp 15), none⟩,
  .one ⟨some 17, .call ⟨.value (.func 161), #[.tmp 16], #[3]⟩, none⟩,
  .one ⟨some 18, .fieldAddr 49 (.tmp 1) 2, none⟩,
  .one ⟨some 19, .load 9 (.tmp 18), none⟩,
  .one ⟨some 20, .call ⟨.value (.func 160), #[.tmp 19], #[9]⟩, none⟩,
  .one ⟨some 21, .fieldAddr 49 (.tmp 1) 3, none⟩,
  .one ⟨some 22, .load 3 (.tmp 21), none⟩,
  .one ⟨some 23, .call ⟨.value (.func 161), #[.tmp 22], #[3]⟩, none⟩,
  .one ⟨some 24, .fieldAddr 49 (.tmp 1) 4, none⟩,
  .one ⟨some 25, .load 3 (.tmp 24), none⟩,
  .one ⟨some 26, .call ⟨.value (.func 161), #[.tmp 25], #[3]⟩, none⟩,
  .one ⟨some 27, .fieldAddr 49 (.tmp 1) 5, none⟩,
  .one ⟨some 28, .load 9 (.tmp 27), none⟩,
  .one ⟨some 29, .call ⟨.value (.func 160), #[.tmp 28], #[9]⟩, none⟩,
  .one ⟨some 30, .fieldAddr 49 (.tmp 1) 6, none⟩,
  .one ⟨some 31, .load 9 (.tmp 30), none⟩,
  .one ⟨some 32, .call ⟨.value (.func 160), #[.tmp 31], #[9]⟩, none⟩,
  .one ⟨some 33, .fieldAddr 49 (.tmp 1) 7, none⟩,
  .one ⟨some 34, .load 3 (.tmp 33), none⟩,
  .one ⟨some 35, .call ⟨.value (.func 161), #[.tmp 34], #[3]⟩, none⟩,
  .one ⟨some 36, .fieldAddr 49 (.tmp 1) 8, none⟩,
  .one ⟨some 37, .load 9 (.tmp 36), none⟩,
  .one ⟨some 38, .call ⟨.value (.func 160), #[.tmp 37], #[9]⟩, none⟩,
  .one ⟨some 39, .fieldAddr 49 (.tmp 1) 9, none⟩,
  .one ⟨some 40, .load 23 (.tmp 39), none⟩,
  .one ⟨some 41, .call ⟨.value (.func 198), #[.tmp 40], #[23]⟩, none⟩,
  .one ⟨some 42, .fieldAddr 49 (.tmp 1) 10, none⟩,
  .one ⟨some 43, .load 9 (.tmp 42), none⟩,
  .one ⟨some 44, .call ⟨.value (.func 160), #[.tmp 43], #[9]⟩, none⟩,
  .one ⟨some 45, .fieldAddr 49 (.tmp 1) 11, none⟩,
  .one ⟨some 46, .load 44 (.tmp 45), none⟩,
  .one ⟨some 47, .call ⟨.value (.func 199), #[.tmp 46], #[44]⟩, none⟩,
  .one ⟨some 48, .fieldAddr 49 (.tmp 1) 12, none⟩,
  .one ⟨some 49, .load 3 (.tmp 48), none⟩,
  .one ⟨some 50, .call ⟨.value (.func 161), #[.tmp 49], #[3]⟩, none⟩,
  .one ⟨some 51, .fieldAddr 49 (.tmp 1) 13, none⟩,
  .one ⟨some 52, .load 45 (.tmp 51), none⟩,
  .one ⟨some 53, .call ⟨.builtin .len, #[.tmp 52], #[45]⟩, none⟩,
  .one ⟨some 54, .call ⟨.value (.func 161), #[.tmp 53], #[3]⟩, none⟩,
  .one ⟨some 55, .buildSlice 23 15 #[(0, .tmp 11), (1, .tmp 14), (2, .tmp 17), (3, .tmp 20), (4, .tmp 23), (5, .tmp 26), (6, .tmp 29), (7, .tmp 32), (8, .tmp 35), (9, .tmp 38), (10, .tmp 41), (11, .tmp 44), (12, .tmp 47), (13, .tmp 50), (14, .tmp 54)], none⟩,
  .one ⟨some 56, .call ⟨.builtin .len, #[.tmp 55], #[23]⟩, none⟩,
  .one ⟨some 57, .move (.const (.int .i64 0)), none⟩]
def act_Core_R5 : List Itm := [.one ⟨some 58, .binOp .lss 3 (.tmp 57) (.tmp 56) 3, none⟩]
def act_Core_R6 : List Itm := [.one ⟨some 59, .indexAddr 23 (.tmp 55) (.tmp 57), none⟩,
  .one ⟨some 60, .load 9 (.tmp 59), none⟩,
  .one ⟨some 5, .assign (.tmp 60), none⟩]
def act_Core_R7 : List Itm := [.one ⟨some 61, .move (.tmp 5), none⟩,
  .one ⟨some 62, .call ⟨.value (.func 164), #[.tmp 3, .tmp 61], #[213, 9]⟩, none⟩]
def act_Core_B1 : MCode := (.seq (.reg 6 act_Core_R6 false) (.reg 7 act_Core_R7 false))
def act_Core_R8 : List Itm := [.one ⟨some 63, .binOp .add 3 (.tmp 57) (.const (.int .i64 1)) 3, none⟩,
  .one ⟨some 57, .move (.tmp 63), none⟩]
def act_Core_W1 : MCode := (.seq (.reg 5 act_Core_R5 false) (.seq (.cond (.tmp 58) .skip (.exit 0)) (.seq (.block 1 act_Core_B1) (.reg 8 act_Core_R8 false))))
def act_Core_B0 : MCode := (.loop act_Core_W1)
def act_Core_R9 : List Itm := [.one ⟨some 64, .fieldAddr 49 (.tmp 1) 13, none⟩,
  .one ⟨some 65, .load 45 (.tmp 64), none⟩,
  .one ⟨some 66, .call ⟨.builtin .len, #[.tmp 65], #[45]⟩, none⟩,
  .one ⟨some 67, .move (.const (.int .i64 0)), none⟩]
def act_Core_R10 : List Itm := [.one ⟨some 68, .binOp .lss 3 (.tmp 67) (.tmp 66) 3, none⟩]
def act_Core_R11 : List Itm := [.one ⟨some 69, .indexAddr 45 (.tmp 65) (.tmp 67), none⟩,
  .one ⟨some 70, .load 230 (.tmp 69), none⟩,
  .one ⟨some 7, .alloc 230, none⟩,
  .one ⟨none, .store 230 (.tmp 7) (.tmp 70), none⟩]
def act_Core_R12 : List Itm := [.one ⟨some 71, .fieldAddr 230 (.tmp 7) 0, none⟩,
  .one ⟨some 72, .load 3 (.tmp 71), none⟩,
  .one ⟨some 73, .call ⟨.value (.func 161), #[.tmp 72], #[3]⟩, none⟩,
  .one ⟨some 74, .fieldAddr 230 (.tmp 7) 1, none⟩,
  .one ⟨some 75, .load 3 (.tmp 74), none⟩,
  .one ⟨some 76, .call ⟨.value (.func 161), #[.tmp 75], #[3]⟩, none⟩,
  .one ⟨some 77, .binOp .add 9 (.tmp 73) (.tmp 76) 9, none⟩,
  .one ⟨some 78, .fieldAddr 230 (.tmp 7) 2, none⟩,
  .one ⟨some 79, .load 44 (.tmp 78), none⟩,
  .one ⟨some 80, .call ⟨.value (.func 199), #[.tmp 79], #[44]⟩, none⟩,
  .one ⟨some 81, .binOp .add 9 (.tmp 77) (.tmp 80) 9, none⟩,
  .one ⟨some 82, .call ⟨.value (.func 164), #[.tmp 3, .tmp 81], #[213, 9]⟩, none⟩]
def act_Core_B3 : MCode := (.seq (.reg 11 act_Core_R11 false) (.reg 12 act_Core_R12 true))
def act_Core_R13 : List Itm := [.one ⟨some 83, .binOp .add 3 (.tmp 67) (.const (.int .i64 1)) 3, none⟩,
  .one ⟨some 67, .move (.tmp 83), none⟩]
def act_Core_W2 : MCode := (.seq (.reg 10 act_Core_R10 false) (.seq (.cond (.tmp 68) .skip (.exit 2)) (.seq (.block 3 act_Core_B3) (.reg 13 act_Core_R13 false))))
def act_Core_B2 : MCode := (.loop act_Core_W2)
def act_Core_R14 : List Itm := [.one ⟨some 84, .fieldAddr 49 (.tmp 1) 14, none⟩,
  .one ⟨some 85, .load 3 (.tmp 84), none⟩,
  .one ⟨some 86, .call ⟨.value (.func 161), #[.tmp 85], #[3]⟩, none⟩,
  .one ⟨some 87, .fieldAddr 49 (.tmp 1) 15, none⟩,
  .one ⟨some 88, .load 3 (.tmp 87), none⟩,
  .one ⟨some 89, .call ⟨.value (.func 161), #[.tmp 88], #[3]⟩, none⟩,
  .one ⟨some 90, .binOp .add 9 (.tmp 86) (.tmp 89) 9, none⟩,
  .one ⟨some 91, .call ⟨.value (.func 164), #[.tmp 3, .tmp 90], #[213, 9]⟩, none⟩]
def act_Core_R15 : List Itm := [.one ⟨some 92, .call ⟨.value (.func 167), #[.tmp 3], #[213]⟩, none⟩,
  .one ⟨some 2, .assign (.tmp 92), none⟩]
def act_Core_L : MCode := (.seq (.reg 0 act_Core_R0 false) (.seq (.seq (.reg 1 act_Core_R1 false) (.cond (.tmp 10) (.seq (.reg 2 act_Core_R2 false) .ret) .skip)) (.seq (.reg 3 act_Core_R3 false) (.seq (.seq (.reg 4 act_Core_R4 true) (.block 0 act_Core_B0)) (.seq (.seq (.reg 9 act_Core_R9 false) (.block 2 act_Core_B2)) (.seq (.reg 14 act_Core_R14 true) (.seq (.reg 15 act_Core_R15 false) .ret)))))))
def act_Core_ks : Nat → List Nat := fun i => match i with
  | 4 => [0, 0, 0, 0, 0, 0, 0, 0, 0, 0, 0, 0, 0, 0, 0, 0, 0, 0, 0, 0, 0, 0, 0, 0, 0, 0, 0, 0, 0, 0, 0, 0, 0, 0, 0, 0, 0, 0, 0, 0, 0, 0, 0, 0, 0, 0, 0]
  | 12 => [0, 0, 0, 0, 0, 0, 0, 0, 0, 0, 0, 2]
  | 14 => [0, 0, 0, 0, 0, 0, 0, 2]
  | _ => []
theorem act_Core_F : FnL Tryz.prog GW 155 93 act_Core_L [.tmp 2] act_Core_ks := ⟨⟨_, Tryz.func155, rfl, by kernel_rfl, by kernel_rfl, rfl⟩, by kernel_rfl, by kernel_rfl⟩
/-! agora/act.Bytes -/
def act_Bytes_R0 : List Itm := [.one ⟨some 1, .box 49 (.tmp 0), none⟩,
  .one ⟨some 2, .assign (.const (.string ⟨#[]⟩)), none⟩]
def act_Bytes_R1 : List Itm := [.one ⟨some 4, .load 49 (.tmp 1), none⟩,
  .one ⟨some 5, .call ⟨.value (.func 155), #[.tmp 4], #[49]⟩, none⟩,
  .one ⟨some 3, .assign (.tmp 5), none⟩]
def act_Bytes_R2 : List Itm := [.one ⟨some 6, .move (.tmp 3), none⟩,
  .one ⟨some 7, .binOp .eql 9 (.tmp 6) (.const (.string ⟨#[]⟩)) 9, none⟩]
def act_Bytes_R3 : List Itm := [.one ⟨some 2, .assign (.const (.string ⟨#[]⟩)), none⟩]
def act_Bytes_R4 : List Itm := [.one ⟨some 8, .move (.tmp 3), none⟩,
  .one ⟨some 9, .fieldAddr 49 (.tmp 1) 16, none⟩,
  .one ⟨some 10, .fieldAddr 47 (.tmp 9) 0, none⟩,
  .one ⟨some 11, .load 3 (.tmp 10), none⟩,
  .one ⟨some 12, .call ⟨.value (.func 161), #[.tmp 11], #[3]⟩, none⟩,
  .one ⟨some 13, .binOp .add 9 (.tmp 8) (.tmp 12) 9, none⟩,
  .one ⟨some 14, .fieldAddr 49 (.tmp 1) 16, none⟩,
  .one ⟨some 15, .fieldAddr 47 (.tmp 14) 1, none⟩,
  .one ⟨some 16, .load 3 (.tmp 15), none⟩,
  .one ⟨some 17, .call ⟨.value (.func 161), #[.tmp 16], #[3]⟩, none⟩,
  .one ⟨some 18, .binOp .add 9 (.tmp 13) (.tmp 17) 9, none⟩,
  .one ⟨some 2, .assign (.tmp 18), none⟩]
def act_Bytes_L : MCode := (.seq (.reg 0 act_Bytes_R0 false) (.seq (.reg 1 act_Bytes_R1 false) (.seq (.seq (.reg 2 act_Bytes_R2 false) (.cond (.tmp 7) (.seq (.reg 3 act_Bytes_R3 false) .ret) .skip)) (.seq (.reg 4 act_Bytes_R4 true) .ret))))
def act_Bytes_ks : Nat → List Nat := fun i => match i with
  | 4 => [0, 0, 0, 0, 0, 0, 0, 0, 0, 0, 0, 0]
  | _ => []
theorem act_Bytes_F : FnL Tryz.prog GW 165 19 act_Bytes_L [.tmp 2] act_Bytes_ks := ⟨⟨_, Tryz.func165, rfl, by kernel_rfl, by kernel_rfl, rfl⟩, by kernel_rfl, by kernel_rfl⟩
/-! (*agora/item.builder).nums -/
def pitem_builder_nums_R0 : List Itm := [.one ⟨some 6, .move (.tmp 1), none⟩,
  .one ⟨some 7, .call ⟨.builtin .len, #[.tmp 6], #[84]⟩, none⟩,
  .one ⟨some 8, .move (.const (.int .i64 0)), none⟩]
def pitem_builder_nums_R1 : List Itm := [.one ⟨some 9, .binOp .lss 3 (.tmp 8) (.tmp 7) 3, none⟩]
def pitem_builder_nums_R2 : List Itm := [.one ⟨some 10, .indexAddr 84 (.tmp 6) (.tmp 8), none⟩,
  .one ⟨some 11, .load 3 (.tmp 10), none⟩,
  .one ⟨some 5, .assign (.tmp 11), none⟩]
def pitem_builder_nums_R3 : List Itm := [.one ⟨some 12, .move (.tmp 0), none⟩,
  .one ⟨some 13, .nilCheck (.tmp 12), none⟩,
  .one ⟨some 14, .fieldAddr 215 (.tmp 13) 0, none⟩,
  .one ⟨some 15, .move (.tmp 5), none⟩,
  .one ⟨some 16, .call ⟨.value (.func 161), #[.tmp 15], #[3]⟩, none⟩,
  .one ⟨some 17, .call ⟨.value (.func 164), #[.tmp 14, .tmp 16], #[213, 9]⟩, none⟩]
def pitem_builder_nums_B1 : MCode := (.seq (.reg 2 pitem_builder_nums_R2 false) (.reg 3 pitem_builder_nums_R3 true))
def pitem_builder_nums_R4 : List Itm := [.one ⟨some 18, .binOp .add 3 (.tmp 8) (.const (.int .i64 1)) 3, none⟩,
  .one ⟨some 8, .move (.tmp 18), none⟩]
def pitem_builder_nums_W1 : MCode := (.seq (.reg 1 pitem_builder_nums_R1 false) (.seq (.cond (.tmp 9) .skip (.exit 0)) (.seq (.block 1 pitem_builder_nums_B1) (.reg 4 pitem_builder_nums_R4 false))))
def pitem_builder_nums_B0 : MCode := (.loop pitem_builder_nums_W1)
def pitem_builder_nums_L : MCode := (.seq (.reg 0 pitem_builder_nums_R0 false) (.block 0 pitem_builder_nums_B0))
def pitem_builder_nums_ks : Nat → List Nat := fun i => match i with
  | 3 => [0, 0, 0, 0, 0, 2]
  | _ => []
theorem pitem_builder_nums_F : FnL Tryz.prog GW 163 19 pitem_builder_nums_L [] pitem_builder_nums_ks := ⟨⟨_, Tryz.func163, rfl, by kernel_rfl, by kernel_rfl, rfl⟩, by kernel_rfl, by kernel_rfl⟩
/-! agora/item.Bytes -/
def item_Bytes_R0 : List Itm := [.one ⟨some 1, .box 149 (.tmp 0), none⟩,
  .one ⟨some 2, .assign (.const (.string ⟨#[]⟩)), none⟩]
def item_Bytes_R1 : List Itm := [.one ⟨some 5, .load 149 (.tmp 1), none⟩,
  .one ⟨some 6, .call ⟨.value (.func 162), #[.tmp 5], #[149]⟩, none⟩,
  .one ⟨some 7, .unOp .not 4 (.tmp 6), none⟩]
def item_Bytes_R2 : List Itm := [.one ⟨some 2, .assign (.const (.string ⟨#[]⟩)), none⟩]
def item_Bytes_R3 : List Itm := [.one ⟨some 3, .alloc 215, none⟩]
def item_Bytes_R4 : List Itm := [.one ⟨some 8, .fieldAddr 149 (.tmp 1) 0, none⟩,
  .one ⟨some 9, .load 3 (.tmp 8), none⟩,
  .one ⟨some 10, .buildSlice 84 1 #[(0, .tmp 9)], none⟩,
  .one ⟨some 11, .call ⟨.value (.func 163), #[.tmp 3, .tmp 10], #[215, 84]⟩, none⟩]
def item_Bytes_R5 : List Itm := [.one ⟨some 12, .fieldAddr 149 (.tmp 1) 0, none⟩,
  .one ⟨some 13, .load 3 (.tmp 12), none⟩,
  .one ⟨some 14, .binOp .eql 3 (.tmp 13) (.const (.int .i64 0)) 3, none⟩]
def item_Bytes_R6 : List Itm := [.one ⟨some 15, .fieldAddr 215 (.tmp 3) 0, none⟩,
  .one ⟨some 16, .fieldAddr 149 (.tmp 1) 1, none⟩,
  .one ⟨some 17, .load 49 (.tmp 16), none⟩,
  .one ⟨some 18, .call ⟨.value (.func 165), #[.tmp 17], #[49]⟩, none⟩,
  .one ⟨some 19, .call ⟨.value (.func 164), #[.tmp 15, .tmp 18], #[213, 9]⟩, none⟩]
def item_Bytes_R7 : List Itm := [.one ⟨some 20, .load 149 (.tmp 1), none⟩,
  .one ⟨some 21, .call ⟨.value (.func 166), #[.tmp 3, .tmp 20], #[222, 149]⟩, none⟩,
  .one ⟨some 4, .alloc 47, none⟩,
  .one ⟨none, .store 47 (.tmp 4) (.tmp 21), none⟩]
def item_Bytes_R8 : List Itm := [.one ⟨some 22, .fieldAddr 47 (.tmp 4) 0, none⟩,
  .one ⟨some 23, .load 3 (.tmp 22), none⟩,
  .one ⟨some 24, .fieldAddr 47 (.tmp 4) 1, none⟩,
  .one ⟨some 25, .load 3 (.tmp 24), none⟩,
  .one ⟨some 26, .buildSlice 84 2 #[(0, .tmp 23), (1, .tmp 25)], none⟩,
  .one ⟨some 27, .call ⟨.value (.func 163), #[.tmp 3, .tmp 26], #[215, 84]⟩, none⟩]
def item_Bytes_R9 : List Itm := [.one ⟨some 28, .fieldAddr 215 (.tmp 3) 0, none⟩,
  .one ⟨some 29, .call ⟨.value (.func 167), #[.tmp 28], #[213]⟩, none⟩,
  .one ⟨some 2, .assign (.tmp 29), none⟩]
def item_Bytes_L : MCode := (.seq (.reg 0 item_Bytes_R0 false) (.seq (.seq (.reg 1 item_Bytes_R1 false) (.cond (.tmp 7) (.seq (.reg 2 item_Bytes_R2 false) .ret) .skip)) (.seq (.reg 3 item_Bytes_R3 false) (.seq (.reg 4 item_Bytes_R4 false) (.seq (.seq (.reg 5 item_Bytes_R5 false) (.cond (.tmp 14) (.reg 6 item_Bytes_R6 false) (.seq (.reg 7 item_Bytes_R7 false) (.reg 8 item_Bytes_R8 false)))) (.seq (.reg 9 item_Bytes_R9 false) .ret))))))
def item_Bytes_ks : Nat → List Nat := fun i => match i with
  | _ => []
theorem item_Bytes_F : FnL Tryz.prog GW 125 30 item_Bytes_L [.tmp 2] item_Bytes_ks := ⟨⟨_, Tryz.func125, rfl, by kernel_rfl, by kernel_rfl, rfl⟩, by kernel_rfl, by kernel_rfl⟩
/-! slices.Clone[list of string,string] -/
def slices_Clone_Lstring_string_R0 : List Itm := [.one ⟨some 2, .assign (.const (.slice none 0 0)), none⟩]
def slices_Clone_Lstring_string_R1 : List Itm := [.one ⟨some 3, .move (.tmp 0), none⟩,
  .one ⟨some 4, .binOp .eql 23 (.tmp 3) (.const (.slice none 0 0)) 23, none⟩]
def slices_Clone_Lstring_string_R2 : List Itm := [.one ⟨some 2, .assign (.const (.slice none 0 0)), none⟩]
def slices_Clone_Lstring_string_R3 : List Itm := [.one ⟨some 5, .buildSlice 23 0 #[], none⟩,
  .one ⟨some 6, .move (.tmp 0), none⟩,
  .one ⟨some 7, .call ⟨.builtin .append, #[.tmp 5, .tmp 6], #[23, 23]⟩, none⟩,
  .one ⟨some 2, .assign (.tmp 7), none⟩]
def slices_Clone_Lstring_string_L : MCode := (.seq (.reg 0 slices_Clone_Lstring_string_R0 false) (.seq (.seq (.reg 1 slices_Clone_Lstring_string_R1 false) (.cond (.tmp 4) (.seq (.reg 2 slices_Clone_Lstring_string_R2 false) .ret) .skip)) (.seq (.reg 3 slices_Clone_Lstring_string_R3 false) .ret)))
def slices_Clone_Lstring_string_ks : Nat → List Nat := fun i => match i with
  | _ => []
theorem slices_Clone_Lstring_string_F : FnL Tryz.prog GW 68 8 slices_Clone_Lstring_string_L [.tmp 2] slices_Clone_Lstring_string_ks := ⟨⟨_, Tryz.func68, rfl, by kernel_rfl, by kernel_rfl, rfl⟩, by kernel_rfl, by kernel_rfl⟩
/-! slices.Clone[list of agora/api.Wrap,agora/api.Wrap] -/
def slices_Clone_Lapi_Wrap_api_Wrap_R0 : List Itm := [.one ⟨some 2, .assign (.const (.slice none 0 0)), none⟩]
def slices_Clone_Lapi_Wrap_api_Wrap_R1 : List Itm := [.one ⟨some 3, .move (.tmp 0), none⟩,
  .one ⟨some 4, .binOp .eql 45 (.tmp 3) (.const (.slice none 0 0)) 45, none⟩]
def slices_Clone_Lapi_Wrap_api_Wrap_R2 : List Itm := [.one ⟨some 2, .assign (.const (.slice none 0 0)), none⟩]
def slices_Clone_Lapi_Wrap_api_Wrap_R3 : List Itm := [.one ⟨some 5, .buildSlice 45 0 #[], none⟩,
  .one ⟨some 6, .move (.tmp 0), none⟩,
  .one ⟨some 7, .call ⟨.builtin .append, #[.tmp 5, .tmp 6], #[45, 45]⟩, none⟩,
  .one ⟨some 2, .assign (.tmp 7), none⟩]
def slices_Clone_Lapi_Wrap_api_Wrap_L : MCode := (.seq (.reg 0 slices_Clone_Lapi_Wrap_api_Wrap_R0 false) (.seq (.seq (.reg 1 slices_Clone_Lapi_Wrap_api_Wrap_R1 false) (.cond (.tmp 4) (.seq (.reg 2 slices_Clone_Lapi_Wrap_api_Wrap_R2 false) .ret) .skip)) (.seq (.reg 3 slices_Clone_Lapi_Wrap_api_Wrap_R3 false) .ret)))
def slices_Clone_Lapi_Wrap_api_Wrap_ks : Nat → List Nat := fun i => match i with
  | _ => []
theorem slices_Clone_Lapi_Wrap_api_Wrap_F : FnL Tryz.prog GW 171 8 slices_Clone_Lapi_Wrap_api_Wrap_L [.tmp 2] slices_Clone_Lapi_Wrap_api_Wrap_ks := ⟨⟨_, Tryz.func171, rfl, by kernel_rfl, by kernel_rfl, rfl⟩, by kernel_rfl, by kernel_rfl⟩
/-! agora/item.cloned -/
def item_cloned_R0 : List Itm := [.one ⟨some 1, .box 49 (.tmp 0), none⟩,
  .one ⟨some 2, .alloc 49, none⟩]
def item_cloned_R1 : List Itm := [.one ⟨some 3, .fieldAddr 49 (.tmp 1) 9, none⟩,
  .one ⟨some 4, .load 23 (.tmp 3), none⟩,
  .one ⟨some 5, .call ⟨.value (.func 68), #[.tmp 4], #[23]⟩, none⟩,
  .one ⟨some 6, .fieldAddr 49 (.tmp 1) 13, none⟩,
  .one ⟨some 7, .load 45 (.tmp 6), none⟩,
  .one ⟨some 8, .call ⟨.value (.func 171), #[.tmp 7], #[45]⟩, none⟩,
  .one ⟨some 9, .fieldAddr 49 (.tmp 1) 9, none⟩,
  .one ⟨none, .store 23 (.tmp 9) (.tmp 5), none⟩,
  .one ⟨some 10, .fieldAddr 49 (.tmp 1) 13, none⟩,
  .one ⟨none, .store 45 (.tmp 10) (.tmp 8), none⟩]
def item_cloned_R2 : List Itm := [.one ⟨some 11, .load 49 (.tmp 1), none⟩,
  .one ⟨none, .store 49 (.tmp 2) (.tmp 11), none⟩]
def item_cloned_L : MCode := (.seq (.reg 0 item_cloned_R0 false) (.seq (.reg 1 item_cloned_R1 true) (.seq (.reg 2 item_cloned_R2 false) .ret)))
def item_cloned_ks : Nat → List Nat := fun i => match i with
  | 1 => [0, 0, 0, 0, 0, 0, 0, 2, 0, 2]
  | _ => []
theorem item_cloned_F : FnL Tryz.prog GW 127 12 item_cloned_L [.cell 2 49] item_cloned_ks := ⟨⟨_, Tryz.func127, rfl, by kernel_rfl, by kernel_rfl, rfl⟩, by kernel_rfl, by kernel_rfl⟩
/-! agora/item.OfAct -/
def item_OfAct_R0 : List Itm := [.one ⟨some 1, .box 49 (.tmp 0), none⟩,
  .one ⟨some 2, .alloc 149, none⟩]
def item_OfAct_R1 : List Itm := [.one ⟨some 3, .load 49 (.tmp 1), none⟩,
  .one ⟨some 4, .call ⟨.value (.func 127), #[.tmp 3], #[49]⟩, none⟩,
  .one ⟨some 5, .build 149 #[(0, .const (.int .i64 0)), (1, .tmp 4)], none⟩,
  .one ⟨none, .store 149 (.tmp 2) (.tmp 5), none⟩]
def item_OfAct_L : MCode := (.seq (.reg 0 item_OfAct_R0 false) (.seq (.reg 1 item_OfAct_R1 false) .ret))
def item_OfAct_ks : Nat → List Nat := fun i => match i with
  | _ => []
theorem item_OfAct_F : FnL Tryz.prog GW 85 6 item_OfAct_L [.cell 2 149] item_OfAct_ks := ⟨⟨_, Tryz.func85, rfl, by kernel_rfl, by kernel_rfl, rfl⟩, by kernel_rfl, by kernel_rfl⟩
/-! agora/chain.Index$1 -/
def chain_Index_1_R0 : List Itm := [.one ⟨some 2, .box 49 (.tmp 0), none⟩,
  .one ⟨some 3, .assign (.const (.bool false)), none⟩]
def chain_Index_1_R1 : List Itm := [.one ⟨some 4, .load 49 (.tmp 2), none⟩,
  .one ⟨some 5, .call ⟨.value (.func 85), #[.tmp 4], #[49]⟩, none⟩,
  .one ⟨some 6, .call ⟨.value (.func 84), #[.tmp 5], #[149]⟩, none⟩,
  .one ⟨some 7, .load 9 (.tmp 1), none⟩,
  .one ⟨some 8, .binOp .eql 9 (.tmp 6) (.tmp 7) 9, none⟩,
  .one ⟨some 3, .assign (.tmp 8), none⟩]
def chain_Index_1_L : MCode := (.seq (.reg 0 chain_Index_1_R0 false) (.seq (.reg 1 chain_Index_1_R1 true) .ret))
def chain_Index_1_ks : Nat → List Nat := fun i => match i with
  | 1 => [1, 0, 0, 1, 0, 0]
  | _ => []
theorem chain_Index_1_F : FnL Tryz.prog GW 83 9 chain_Index_1_L [.tmp 3] chain_Index_1_ks := ⟨⟨_, Tryz.func83, rfl, by kernel_rfl, by kernel_rfl, rfl⟩, by kernel_rfl, by kernel_rfl⟩
/-! agora/chain.Index -/
def chain_Index_R0 : List Itm := [.one ⟨some 2, .box 40 (.tmp 0), none⟩,
  .one ⟨some 3, .box 9 (.tmp 1), none⟩,
  .one ⟨some 4, .assign (.const (.int .i64 0)), none⟩,
  .one ⟨some 5, .assign (.const (.bool false)), none⟩]
def chain_Index_R1 : List Itm := [.one ⟨some 7, .fieldAddr 40 (.tmp 2) 1, none⟩,
  .one ⟨some 8, .load 37 (.tmp 7), none⟩,
  .one ⟨some 9, .makeFunc (.func 83) #[] #[.tmp 3], none⟩,
  .one ⟨some 10, .call ⟨.value (.func 82), #[.tmp 8, .tmp 9], #[37, 151]⟩, none⟩,
  .one ⟨some 6, .assign (.tmp 10), none⟩]
def chain_Index_R2 : List Itm := [.one ⟨some 11, .move (.tmp 6), none⟩,
  .one ⟨some 12, .call ⟨.builtin .max, #[.tmp 11, .const (.int .i64 0)], #[3, 3]⟩, none⟩,
  .one ⟨some 13, .move (.tmp 6), none⟩,
  .one ⟨some 14, .binOp .geq 3 (.tmp 13) (.const (.int .i64 0)) 3, none⟩,
  .one ⟨some 4, .assign (.tmp 12), none⟩,
  .one ⟨some 5, .assign (.tmp 14), none⟩]
def chain_Index_L : MCode := (.seq (.reg 0 chain_Index_R0 false) (.seq (.reg 1 chain_Index_R1 false) (.seq (.reg 2 chain_Index_R2 false) .ret)))
def chain_Index_ks : Nat → List Nat := fun i => match i with
  | _ => []
theorem chain_Index_F : FnL Tryz.prog GW 45 15 chain_Index_L [.tmp 4, .tmp 5] chain_Index_ks := ⟨⟨_, Tryz.func45, rfl, by kernel_rfl, by kernel_rfl, rfl⟩, by kernel_rfl, by kernel_rfl⟩
/-! agora/item.Digest -/
def item_Digest_R0 : List Itm := [.one ⟨some 1, .box 149 (.tmp 0), none⟩,
  .one ⟨some 2, .assign (.const (.string ⟨#[]⟩)), none⟩]
def item_Digest_R1 : List Itm := [.one ⟨some 4, .load 149 (.tmp 1), none⟩,
  .one ⟨some 5, .call ⟨.value (.func 125), #[.tmp 4], #[149]⟩, none⟩,
  .one ⟨some 3, .assign (.tmp 5), none⟩]
def item_Digest_R2 : List Itm := [.one ⟨some 6, .move (.tmp 3), none⟩,
  .one ⟨some 7, .binOp .eql 9 (.tmp 6) (.const (.string ⟨#[]⟩)) 9, none⟩]
def item_Digest_R3 : List Itm := [.one ⟨some 2, .assign (.const (.string ⟨#[]⟩)), none⟩]
def item_Digest_R4 : List Itm := [.one ⟨some 8, .move (.tmp 3), none⟩,
  .one ⟨some 9, .call ⟨.value (.func 126), #[.tmp 8], #[9]⟩, none⟩,
  .one ⟨some 2, .assign (.tmp 9), none⟩]
def item_Digest_L : MCode := (.seq (.reg 0 item_Digest_R0 false) (.seq (.reg 1 item_Digest_R1 false) (.seq (.seq (.reg 2 item_Digest_R2 false) (.cond (.tmp 7) (.seq (.reg 3 item_Digest_R3 false) .ret) .skip)) (.seq (.reg 4 item_Digest_R4 false) .ret))))
def item_Digest_ks : Nat → List Nat := fun i => match i with
  | _ => []
theorem item_Digest_F : FnL Tryz.prog GW 84 10 item_Digest_L [.tmp 2] item_Digest_ks := ⟨⟨_, Tryz.func84, rfl, by kernel_rfl, by kernel_rfl, rfl⟩, by kernel_rfl, by kernel_rfl⟩
/-! (*strings.Builder).copyCheck -/
def pstrings_Builder_copyCheck_R0 : List Itm := [.one ⟨some 2, .move (.tmp 0), none⟩,
  .one ⟨some 3, .nilCheck (.tmp 2), none⟩,
  .one ⟨some 4, .fieldAddr 213 (.tmp 3) 0, none⟩,
  .one ⟨some 5, .load 211 (.tmp 4), none⟩,
  .one ⟨some 6, .binOp .eql 211 (.tmp 5) (.const (.pointer none)) 211, none⟩]
def pstrings_Builder_copyCheck_R1 : List Itm := [.one ⟨some 7, .move (.tmp 0), none⟩,
  .one ⟨some 8, .move (.tmp 0), none⟩,
  .one ⟨some 9, .convert 211 282 (.tmp 8), none⟩,
  .one ⟨some 10, .call ⟨.value (.func 229), #[.tmp 9], #[282]⟩, none⟩,
  .one ⟨some 11, .convert 282 211 (.tmp 10), none⟩,
  .one ⟨some 12, .nilCheck (.tmp 7), none⟩,
  .one ⟨some 13, .fieldAddr 213 (.tmp 12) 0, none⟩,
  .one ⟨none, .store 211 (.tmp 13) (.tmp 11), none⟩]
def pstrings_Builder_copyCheck_R2 : List Itm := [.one ⟨some 14, .move (.tmp 0), none⟩,
  .one ⟨some 15, .nilCheck (.tmp 14), none⟩,
  .one ⟨some 16, .fieldAddr 213 (.tmp 15) 0, none⟩,
  .one ⟨some 17, .load 211 (.tmp 16), none⟩,
  .one ⟨some 18, .move (.tmp 0), none⟩,
  .one ⟨some 19, .binOp .neq 211 (.tmp 17) (.tmp 18) 211, none⟩]
def pstrings_Builder_copyCheck_L : MCode := (.seq (.reg 0 pstrings_Builder_copyCheck_R0 false) (.cond (.tmp 6) (.reg 1 pstrings_Builder_copyCheck_R1 false) (.seq (.reg 2 pstrings_Builder_copyCheck_R2 false) (.cond (.tmp 19) .other .skip))))
def pstrings_Builder_copyCheck_ks : Nat → List Nat := fun i => match i with
  | _ => []
theorem pstrings_Builder_copyCheck_F : FnL Tryz.prog GW 205 20 pstrings_Builder_copyCheck_L [] pstrings_Builder_copyCheck_ks := ⟨⟨_, Tryz.func205, rfl, by kernel_rfl, by kernel_rfl, rfl⟩, by kernel_rfl, by kernel_rfl⟩
/-! (*strings.Builder).WriteString -/
def pstrings_Builder_WriteString_R0 : List Itm := [.one ⟨some 4, .assign (.const (.int .i64 0)), none⟩,
  .one ⟨some 5, .assign (.const .nilIface), none⟩]
def pstrings_Builder_WriteString_R1 : List Itm := [.one ⟨some 6, .move (.tmp 0), none⟩,
  .one ⟨some 7, .call ⟨.value (.func 205), #[.tmp 6], #[211]⟩, none⟩]
def pstrings_Builder_WriteString_R2 : List Itm := [.one ⟨some 8, .move (.tmp 0), none⟩,
  .one ⟨some 9, .move (.tmp 0), none⟩,
  .one ⟨some 10, .nilCheck (.tmp 9), none⟩,
  .one ⟨some 11, .fieldAddr 213 (.tmp 10) 1, none⟩,
  .one ⟨some 12, .load 207 (.tmp 11), none⟩,
  .one ⟨some 13, .move (.tmp 1), none⟩,
  .one ⟨some 14, .call ⟨.builtin .append, #[.tmp 12, .tmp 13], #[207, 9]⟩, none⟩,
  .one ⟨some 15, .nilCheck (.tmp 8), none⟩,
  .one ⟨some 16, .fieldAddr 213 (.tmp 15) 1, none⟩,
  .one ⟨none, .store 207 (.tmp 16) (.tmp 14), none⟩]
def pstrings_Builder_WriteString_R3 : List Itm := [.one ⟨some 17, .move (.tmp 1), none⟩,
  .one ⟨some 18, .call ⟨.builtin .len, #[.tmp 17], #[9]⟩, none⟩,
  .one ⟨some 4, .assign (.tmp 18), none⟩,
  .one ⟨some 5, .assign (.const .nilIface), none⟩]
def pstrings_Builder_WriteString_L : MCode := (.seq (.reg 0 pstrings_Builder_WriteString_R0 false) (.seq (.reg 1 pstrings_Builder_WriteString_R1 false) (.seq (.reg 2 pstrings_Builder_WriteString_R2 false) (.seq (.reg 3 pstrings_Builder_WriteString_R3 false) .ret))))
def pstrings_Builder_WriteString_ks : Nat → List Nat := fun i => match i with
  | _ => []
theorem pstrings_Builder_WriteString_F : FnL Tryz.prog GW 164 19 pstrings_Builder_WriteString_L [.tmp 4, .tmp 5] pstrings_Builder_WriteString_ks := ⟨⟨_, Tryz.func164, rfl, by kernel_rfl, by kernel_rfl, rfl⟩, by kernel_rfl, by kernel_rfl⟩
/-! (*strings.Builder).String -/
def pstrings_Builder_String_R0 : List Itm := [.one ⟨some 2, .assign (.const (.string ⟨#[]⟩)), none⟩]
def pstrings_Builder_String_R1 : List Itm := [.one ⟨some 3, .move (.tmp 0), none⟩,
  .one ⟨some 4, .nilCheck (.tmp 3), none⟩,
  .one ⟨some 5, .fieldAddr 213 (.tmp 4) 1, none⟩,
  .one ⟨some 6, .load 207 (.tmp 5), none⟩,
  .one ⟨some 7, .call ⟨.builtin .unsafeSliceData, #[.tmp 6], #[207]⟩, none⟩,
  .one ⟨some 8, .move (.tmp 0), none⟩,
  .one ⟨some 9, .nilCheck (.tmp 8), none⟩,
  .one ⟨some 10, .fieldAddr 213 (.tmp 9) 1, none⟩,
  .one ⟨some 11, .load 207 (.tmp 10), none⟩,
  .one ⟨some 12, .call ⟨.builtin .len, #[.tmp 11], #[207]⟩, none⟩,
  .one ⟨some 13, .call ⟨.builtin .unsafeString, #[.tmp 7, .tmp 12], #[262, 3]⟩, none⟩,
  .one ⟨some 2, .assign (.tmp 13), none⟩]
def pstrings_Builder_String_L : MCode := (.seq (.reg 0 pstrings_Builder_String_R0 false) (.seq (.reg 1 pstrings_Builder_String_R1 true) .ret))
def pstrings_Builder_String_ks : Nat → List Nat := fun i => match i with
  | 1 => [0, 0, 0, 1, 1, 0, 0, 0, 1, 1, 2, 0]
  | _ => []
theorem pstrings_Builder_String_F : FnL Tryz.prog GW 167 14 pstrings_Builder_String_L [.tmp 2] pstrings_Builder_String_ks := ⟨⟨_, Tryz.func167, rfl, by kernel_rfl, by kernel_rfl, rfl⟩, by kernel_rfl, by kernel_rfl⟩
/-! (*strings.Builder).WriteByte -/
def pstrings_Builder_WriteByte_R0 : List Itm := [.one ⟨some 4, .assign (.const .nilIface), none⟩]
def pstrings_Builder_WriteByte_R1 : List Itm := [.one ⟨some 5, .move (.tmp 0), none⟩,
  .one ⟨some 6, .call ⟨.value (.func 205), #[.tmp 5], #[211]⟩, none⟩]
def pstrings_Builder_WriteByte_R2 : List Itm := [.one ⟨some 7, .move (.tmp 0), none⟩,
  .one ⟨some 8, .move (.tmp 0), none⟩,
  .one ⟨some 9, .nilCheck (.tmp 8), none⟩,
  .one ⟨some 10, .fieldAddr 213 (.tmp 9) 1, none⟩,
  .one ⟨some 11, .load 207 (.tmp 10), none⟩,
  .one ⟨some 12, .move (.tmp 1), none⟩,
  .one ⟨some 13, .buildSlice 207 1 #[(0, .tmp 12)], none⟩,
  .one ⟨some 14, .call ⟨.builtin .append, #[.tmp 11, .tmp 13], #[207, 207]⟩, none⟩,
  .one ⟨some 15, .nilCheck (.tmp 7), none⟩,
  .one ⟨some 16, .fieldAddr 213 (.tmp 15) 1, none⟩,
  .one ⟨none, .store 207 (.tmp 16) (.tmp 14), none⟩]
def pstrings_Builder_WriteByte_R3 : List Itm := [.one ⟨some 4, .assign (.const .nilIface), none⟩]
def pstrings_Builder_WriteByte_L : MCode := (.seq (.reg 0 pstrings_Builder_WriteByte_R0 false) (.seq (.reg 1 pstrings_Builder_WriteByte_R1 false) (.seq (.reg 2 pstrings_Builder_WriteByte_R2 false) (.seq (.reg 3 pstrings_Builder_WriteByte_R3 false) .ret))))
def pstrings_Builder_WriteByte_ks : Nat → List Nat := fun i => match i with
  | _ => []
theorem pstrings_Builder_WriteByte_F : FnL Tryz.prog GW 209 17 pstrings_Builder_WriteByte_L [.tmp 4] pstrings_Builder_WriteByte_ks := ⟨⟨_, Tryz.func209, rfl, by kernel_rfl, by kernel_rfl, rfl⟩, by kernel_rfl, by kernel_rfl⟩
/-! (*strings.Builder).Len -/
def pstrings_Builder_Len_R0 : List Itm := [.one ⟨some 2, .assign (.const (.int .i64 0)), none⟩]
def pstrings_Builder_Len_R1 : List Itm := [.one ⟨some 3, .move (.tmp 0), none⟩,
  .one ⟨some 4, .nilCheck (.tmp 3), none⟩,
  .one ⟨some 5, .fieldAddr 213 (.tmp 4) 1, none⟩,
  .one ⟨some 6, .load 207 (.tmp 5), none⟩,
  .one ⟨some 7, .call ⟨.builtin .len, #[.tmp 6], #[207]⟩, none⟩,
  .one ⟨some 2, .assign (.tmp 7), none⟩]
def pstrings_Builder_Len_L : MCode := (.seq (.reg 0 pstrings_Builder_Len_R0 false) (.seq (.reg 1 pstrings_Builder_Len_R1 false) .ret))
def pstrings_Builder_Len_ks : Nat → List Nat := fun i => match i with
  | _ => []
theorem pstrings_Builder_Len_F : FnL Tryz.prog GW 210 8 pstrings_Builder_Len_L [.tmp 2] pstrings_Builder_Len_ks := ⟨⟨_, Tryz.func210, rfl, by kernel_rfl, by kernel_rfl, rfl⟩, by kernel_rfl, by kernel_rfl⟩
end Go.Proofs.YthkmfboffnhkaaaGreatDoor
