/-
  The light code of functions: printed by wip/tools/gen.py.
-/
import Derived.Test.YthkmfboffnhkaaaGreatDoorTY3
namespace Go.Proofs.YthkmfboffnhkaaaGreatDoor
open Go Go.L1
set_option linter.all false
set_option maxRecDepth 100000
/-! (agora/relation.set).add -/
def relation_set_add_R0 : List Itm := [.one ⟨some 4, .move (.tmp 0), none⟩,
  .one ⟨some 5, .move (.tmp 1), none⟩,
  .one ⟨none, .mapUpdate 125 (.tmp 4) (.tmp 5) (.const (.bool true)), none⟩]
def relation_set_add_L : MCode := (.reg 0 relation_set_add_R0 false)
def relation_set_add_ks : Nat → List Nat := fun i => match i with
  | _ => []
theorem relation_set_add_F : FnL Tryz.prog GW 111 6 relation_set_add_L [] relation_set_add_ks := ⟨⟨_, Tryz.func111, rfl, by kernel_rfl, by kernel_rfl, rfl⟩, by kernel_rfl, by kernel_rfl⟩
/-! (agora/relation.set).remove -/
def relation_set_remove_R0 : List Itm := [.one ⟨some 4, .move (.tmp 0), none⟩,
  .one ⟨some 5, .move (.tmp 1), none⟩,
  .one ⟨none, .call ⟨.builtin .delete, #[.tmp 4, .tmp 5], #[125, 9]⟩, none⟩]
def relation_set_remove_L : MCode := (.reg 0 relation_set_remove_R0 false)
def relation_set_remove_ks : Nat → List Nat := fun i => match i with
  | _ => []
theorem relation_set_remove_F : FnL Tryz.prog GW 112 6 relation_set_remove_L [] relation_set_remove_ks := ⟨⟨_, Tryz.func112, rfl, by kernel_rfl, by kernel_rfl, rfl⟩, by kernel_rfl, by kernel_rfl⟩
/-! (agora/relation.sets).undo -/
def relation_sets_undo_R0 : List Itm := [.one ⟨some 2, .box 127 (.tmp 0), none⟩,
  .one ⟨some 3, .box 49 (.tmp 1), none⟩]
def relation_sets_undo_R1 : List Itm := [.one ⟨some 4, .fieldAddr 49 (.tmp 3) 3, none⟩,
  .one ⟨some 5, .load 3 (.tmp 4), none⟩]
def relation_sets_undo_R2 : List Itm := [.one ⟨some 7, .binOp .eql 3 (.tmp 5) (.const (.int .i64 7)) 3, none⟩,
  .one ⟨some 6, .assign (.tmp 7), none⟩]
def relation_sets_undo_R3 : List Itm := [.one ⟨some 8, .fieldAddr 127 (.tmp 2) 0, none⟩,
  .one ⟨some 9, .load 125 (.tmp 8), none⟩,
  .one ⟨some 10, .fieldAddr 49 (.tmp 3) 6, none⟩,
  .one ⟨some 11, .load 9 (.tmp 10), none⟩,
  .one ⟨some 12, .call ⟨.value (.func 112), #[.tmp 9, .tmp 11], #[125, 9]⟩, none⟩]
def relation_sets_undo_R4 : List Itm := [.one ⟨some 14, .binOp .eql 3 (.tmp 5) (.const (.int .i64 8)) 3, none⟩,
  .one ⟨some 13, .assign (.tmp 14), none⟩]
def relation_sets_undo_R5 : List Itm := [.one ⟨some 15, .fieldAddr 127 (.tmp 2) 1, none⟩,
  .one ⟨some 16, .load 125 (.tmp 15), none⟩,
  .one ⟨some 17, .fieldAddr 49 (.tmp 3) 6, none⟩,
  .one ⟨some 18, .load 9 (.tmp 17), none⟩,
  .one ⟨some 19, .call ⟨.value (.func 112), #[.tmp 16, .tmp 18], #[125, 9]⟩, none⟩]
def relation_sets_undo_R6 : List Itm := [.one ⟨some 21, .binOp .eql 3 (.tmp 5) (.const (.int .i64 10)) 3, none⟩,
  .one ⟨some 20, .assign (.tmp 21), none⟩]
def relation_sets_undo_R7 : List Itm := [.one ⟨some 22, .fieldAddr 127 (.tmp 2) 2, none⟩,
  .one ⟨some 23, .load 125 (.tmp 22), none⟩,
  .one ⟨some 24, .fieldAddr 49 (.tmp 3) 6, none⟩,
  .one ⟨some 25, .load 9 (.tmp 24), none⟩,
  .one ⟨some 26, .call ⟨.value (.func 112), #[.tmp 23, .tmp 25], #[125, 9]⟩, none⟩]
def relation_sets_undo_R8 : List Itm := [.one ⟨some 28, .binOp .eql 3 (.tmp 5) (.const (.int .i64 11)) 3, none⟩,
  .one ⟨some 27, .assign (.tmp 28), none⟩]
def relation_sets_undo_R9 : List Itm := [.one ⟨some 29, .fieldAddr 127 (.tmp 2) 3, none⟩,
  .one ⟨some 30, .load 125 (.tmp 29), none⟩,
  .one ⟨some 31, .fieldAddr 49 (.tmp 3) 6, none⟩,
  .one ⟨some 32, .load 9 (.tmp 31), none⟩,
  .one ⟨some 33, .call ⟨.value (.func 112), #[.tmp 30, .tmp 32], #[125, 9]⟩, none⟩]
def relation_sets_undo_B0 : MCode := (.seq (.reg 2 relation_sets_undo_R2 false) (.cond (.tmp 6) (.reg 3 relation_sets_undo_R3 false) (.seq (.reg 4 relation_sets_undo_R4 false) (.cond (.tmp 13) (.reg 5 relation_sets_undo_R5 false) (.seq (.reg 6 relation_sets_undo_R6 false) (.cond (.tmp 20) (.reg 7 relation_sets_undo_R7 false) (.seq (.reg 8 relation_sets_undo_R8 false) (.cond (.tmp 27) (.reg 9 relation_sets_undo_R9 false) .skip))))))))
def relation_sets_undo_L : MCode := (.seq (.reg 0 relation_sets_undo_R0 false) (.seq (.reg 1 relation_sets_undo_R1 false) (.block 0 relation_sets_undo_B0)))
def relation_sets_undo_ks : Nat → List Nat := fun i => match i with
  | _ => []
theorem relation_sets_undo_F : FnL Tryz.prog GW 113 34 relation_sets_undo_L [] relation_sets_undo_ks := ⟨⟨_, Tryz.func113, rfl, by kernel_rfl, by kernel_rfl, rfl⟩, by kernel_rfl, by kernel_rfl⟩
/-! (agora/relation.sets).apply -/
def relation_sets_apply_R0 : List Itm := [.one ⟨some 3, .box 127 (.tmp 0), none⟩,
  .one ⟨some 4, .box 40 (.tmp 1), none⟩]
def relation_sets_apply_R1 : List Itm := [.one ⟨some 9, .fieldAddr 40 (.tmp 4) 1, none⟩,
  .one ⟨some 10, .load 37 (.tmp 9), none⟩,
  .one ⟨some 11, .move (.tmp 2), none⟩,
  .one ⟨some 12, .indexAddr 37 (.tmp 10) (.tmp 11), none⟩,
  .one ⟨some 13, .load 49 (.tmp 12), none⟩,
  .one ⟨some 6, .alloc 49, none⟩,
  .one ⟨none, .store 49 (.tmp 6) (.tmp 13), none⟩]
def relation_sets_apply_R2 : List Itm := [.one ⟨some 14, .fieldAddr 49 (.tmp 6) 3, none⟩,
  .one ⟨some 15, .load 3 (.tmp 14), none⟩]
def relation_sets_apply_R3 : List Itm := [.one ⟨some 17, .binOp .eql 3 (.tmp 15) (.const (.int .i64 7)) 3, none⟩,
  .one ⟨some 16, .assign (.tmp 17), none⟩]
def relation_sets_apply_R4 : List Itm := [.one ⟨some 18, .fieldAddr 127 (.tmp 3) 0, none⟩,
  .one ⟨some 19, .load 125 (.tmp 18), none⟩,
  .one ⟨some 20, .fieldAddr 49 (.tmp 6) 6, none⟩,
  .one ⟨some 21, .load 9 (.tmp 20), none⟩,
  .one ⟨some 22, .call ⟨.value (.func 111), #[.tmp 19, .tmp 21], #[125, 9]⟩, none⟩]
def relation_sets_apply_R5 : List Itm := [.one ⟨some 24, .binOp .eql 3 (.tmp 15) (.const (.int .i64 8)) 3, none⟩,
  .one ⟨some 23, .assign (.tmp 24), none⟩]
def relation_sets_apply_R6 : List Itm := [.one ⟨some 25, .fieldAddr 127 (.tmp 3) 1, none⟩,
  .one ⟨some 26, .load 125 (.tmp 25), none⟩,
  .one ⟨some 27, .fieldAddr 49 (.tmp 6) 6, none⟩,
  .one ⟨some 28, .load 9 (.tmp 27), none⟩,
  .one ⟨some 29, .call ⟨.value (.func 111), #[.tmp 26, .tmp 28], #[125, 9]⟩, none⟩]
def relation_sets_apply_R7 : List Itm := [.one ⟨some 31, .binOp .eql 3 (.tmp 15) (.const (.int .i64 9)) 3, none⟩,
  .one ⟨some 30, .assign (.tmp 31), none⟩]
def relation_sets_apply_R8 : List Itm := [.one ⟨some 32, .fieldAddr 127 (.tmp 3) 1, none⟩,
  .one ⟨some 33, .load 125 (.tmp 32), none⟩,
  .one ⟨some 34, .fieldAddr 49 (.tmp 6) 6, none⟩,
  .one ⟨some 35, .load 9 (.tmp 34), none⟩,
  .one ⟨some 36, .call ⟨.value (.func 112), #[.tmp 33, .tmp 35], #[125, 9]⟩, none⟩]
def relation_sets_apply_R9 : List Itm := [.one ⟨some 38, .binOp .eql 3 (.tmp 15) (.const (.int .i64 10)) 3, none⟩,
  .one ⟨some 37, .assign (.tmp 38), none⟩]
def relation_sets_apply_R10 : List Itm := [.one ⟨some 39, .fieldAddr 127 (.tmp 3) 2, none⟩,
  .one ⟨some 40, .load 125 (.tmp 39), none⟩,
  .one ⟨some 41, .fieldAddr 49 (.tmp 6) 6, none⟩,
  .one ⟨some 42, .load 9 (.tmp 41), none⟩,
  .one ⟨some 43, .call ⟨.value (.func 111), #[.tmp 40, .tmp 42], #[125, 9]⟩, none⟩]
def relation_sets_apply_R11 : List Itm := [.one ⟨some 44, .fieldAddr 127 (.tmp 3) 0, none⟩,
  .one ⟨some 45, .load 125 (.tmp 44), none⟩,
  .one ⟨some 46, .fieldAddr 49 (.tmp 6) 6, none⟩,
  .one ⟨some 47, .load 9 (.tmp 46), none⟩,
  .one ⟨some 48, .call ⟨.value (.func 112), #[.tmp 45, .tmp 47], #[125, 9]⟩, none⟩]
def relation_sets_apply_R12 : List Itm := [.one ⟨some 49, .fieldAddr 127 (.tmp 3) 1, none⟩,
  .one ⟨some 50, .load 125 (.tmp 49), none⟩,
  .one ⟨some 51, .fieldAddr 49 (.tmp 6) 6, none⟩,
  .one ⟨some 52, .load 9 (.tmp 51), none⟩,
  .one ⟨some 53, .call ⟨.value (.func 112), #[.tmp 50, .tmp 52], #[125, 9]⟩, none⟩]
def relation_sets_apply_R13 : List Itm := [.one ⟨some 55, .binOp .eql 3 (.tmp 15) (.const (.int .i64 11)) 3, none⟩,
  .one ⟨some 54, .assign (.tmp 55), none⟩]
def relation_sets_apply_R14 : List Itm := [.one ⟨some 56, .fieldAddr 127 (.tmp 3) 3, none⟩,
  .one ⟨some 57, .load 125 (.tmp 56), none⟩,
  .one ⟨some 58, .fieldAddr 49 (.tmp 6) 6, none⟩,
  .one ⟨some 59, .load 9 (.tmp 58), none⟩,
  .one ⟨some 60, .call ⟨.value (.func 111), #[.tmp 57, .tmp 59], #[125, 9]⟩, none⟩]
def relation_sets_apply_R15 : List Itm := [.one ⟨some 62, .binOp .eql 3 (.tmp 15) (.const (.int .i64 6)) 3, none⟩,
  .one ⟨some 61, .assign (.tmp 62), none⟩]
def relation_sets_apply_R16 : List Itm := [.one ⟨some 64, .load 40 (.tmp 4), none⟩,
  .one ⟨some 65, .fieldAddr 49 (.tmp 6) 5, none⟩,
  .one ⟨some 66, .load 9 (.tmp 65), none⟩,
  .one ⟨some 67, .call ⟨.value (.func 45), #[.tmp 64, .tmp 66], #[40, 9]⟩, none⟩,
  .one ⟨some 63, .move (.tmp 67), none⟩,
  .one ⟨some 68, .extract (.tmp 63) 0, none⟩,
  .one ⟨some 69, .extract (.tmp 63) 1, none⟩,
  .one ⟨some 7, .assign (.tmp 68), none⟩,
  .one ⟨some 8, .assign (.tmp 69), none⟩]
def relation_sets_apply_R17 : List Itm := [.one ⟨some 70, .move (.tmp 8), none⟩,
  .one ⟨some 71, .move (.tmp 70), none⟩,
  .blk 1 true [.one ⟨some 72, .move (.tmp 7), some (1, true)⟩,
  .one ⟨some 73, .move (.tmp 2), some (1, true)⟩,
  .one ⟨some 74, .binOp .lss 3 (.tmp 72) (.tmp 73) 3, some (1, true)⟩] ⟨some 75, .pick (.tmp 71) (.tmp 74) (.const (.bool false)), none⟩]
def relation_sets_apply_R18 : List Itm := [.one ⟨some 76, .load 127 (.tmp 3), none⟩,
  .one ⟨some 77, .fieldAddr 40 (.tmp 4) 1, none⟩,
  .one ⟨some 78, .load 37 (.tmp 77), none⟩,
  .one ⟨some 79, .move (.tmp 7), none⟩,
  .one ⟨some 80, .indexAddr 37 (.tmp 78) (.tmp 79), none⟩,
  .one ⟨some 81, .load 49 (.tmp 80), none⟩,
  .one ⟨some 82, .call ⟨.value (.func 113), #[.tmp 76, .tmp 81], #[127, 49]⟩, none⟩]
def relation_sets_apply_B0 : MCode := (.seq (.reg 3 relation_sets_apply_R3 false) (.cond (.tmp 16) (.reg 4 relation_sets_apply_R4 false) (.seq (.reg 5 relation_sets_apply_R5 false) (.cond (.tmp 23) (.reg 6 relation_sets_apply_R6 false) (.seq (.reg 7 relation_sets_apply_R7 false) (.cond (.tmp 30) (.reg 8 relation_sets_apply_R8 false) (.seq (.reg 9 relation_sets_apply_R9 false) (.cond (.tmp 37) (.seq (.reg 10 relation_sets_apply_R10 false) (.seq (.reg 11 relation_sets_apply_R11 false) (.reg 12 relation_sets_apply_R12 false))) (.seq (.reg 13 relation_sets_apply_R13 false) (.cond (.tmp 54) (.reg 14 relation_sets_apply_R14 false) (.seq (.reg 15 relation_sets_apply_R15 false) (.cond (.tmp 61) (.seq (.reg 16 relation_sets_apply_R16 false) (.seq (.reg 17 relation_sets_apply_R17 false) (.cond (.tmp 75) (.reg 18 relation_sets_apply_R18 true) .skip))) .skip))))))))))))
def relation_sets_apply_L : MCode := (.seq (.reg 0 relation_sets_apply_R0 false) (.seq (.reg 1 relation_sets_apply_R1 false) (.seq (.reg 2 relation_sets_apply_R2 false) (.block 0 relation_sets_apply_B0))))
def relation_sets_apply_ks : Nat → List Nat := fun i => match i with
  | 18 => [0, 0, 0, 0, 0, 0, 2]
  | _ => []
theorem relation_sets_apply_F : FnL Tryz.prog GW 73 83 relation_sets_apply_L [] relation_sets_apply_ks := ⟨⟨_, Tryz.func73, rfl, by kernel_rfl, by kernel_rfl, rfl⟩, by kernel_rfl, by kernel_rfl⟩
/-! (agora/relation.set).list -/
def relation_set_list_R0 : List Itm := [.one ⟨some 2, .assign (.const (.slice none 0 0)), none⟩]
def relation_set_list_R1 : List Itm := [.one ⟨some 3, .move (.tmp 0), none⟩,
  .one ⟨some 4, .call ⟨.value (.func 114), #[.tmp 3], #[125]⟩, none⟩,
  .one ⟨some 5, .call ⟨.value (.func 58), #[.tmp 4], #[109]⟩, none⟩,
  .one ⟨some 2, .assign (.tmp 5), none⟩]
def relation_set_list_L : MCode := (.seq (.reg 0 relation_set_list_R0 false) (.seq (.reg 1 relation_set_list_R1 false) .ret))
def relation_set_list_ks : Nat → List Nat := fun i => match i with
  | _ => []
theorem relation_set_list_F : FnL Tryz.prog GW 74 6 relation_set_list_L [.tmp 2] relation_set_list_ks := ⟨⟨_, Tryz.func74, rfl, by kernel_rfl, by kernel_rfl, rfl⟩, by kernel_rfl, by kernel_rfl⟩
/-! agora/relation.Of -/
def relation_Of_R0 : List Itm := [.one ⟨some 2, .box 40 (.tmp 0), none⟩,
  .one ⟨some 4, .alloc 72, none⟩]
def relation_Of_R1 : List Itm := [.one ⟨some 7, .makeMap 125 none, none⟩,
  .one ⟨some 8, .makeMap 125 none, none⟩,
  .one ⟨some 9, .makeMap 125 none, none⟩,
  .one ⟨some 10, .makeMap 125 none, none⟩,
  .one ⟨some 11, .build 127 #[(0, .tmp 7), (1, .tmp 8), (2, .tmp 9), (3, .tmp 10)], none⟩,
  .one ⟨some 5, .alloc 127, none⟩,
  .one ⟨none, .store 127 (.tmp 5) (.tmp 11), none⟩]
def relation_Of_R2 : List Itm := [.one ⟨some 12, .move (.tmp 1), none⟩,
  .one ⟨some 13, .call ⟨.builtin .max, #[.tmp 12, .const (.int .i64 0)], #[3, 3]⟩, none⟩,
  .one ⟨some 14, .fieldAddr 40 (.tmp 2) 1, none⟩,
  .one ⟨some 15, .load 37 (.tmp 14), none⟩,
  .one ⟨some 16, .call ⟨.builtin .len, #[.tmp 15], #[37]⟩, none⟩,
  .one ⟨some 17, .call ⟨.builtin .min, #[.tmp 13, .tmp 16], #[3, 3]⟩, none⟩,
  .one ⟨some 18, .move (.const (.int .i64 0)), none⟩]
def relation_Of_R3 : List Itm := [.one ⟨some 19, .binOp .lss 3 (.tmp 18) (.tmp 17) 3, none⟩]
def relation_Of_R4 : List Itm := [.one ⟨some 20, .move (.tmp 18), none⟩,
  .one ⟨some 6, .assign (.tmp 20), none⟩]
def relation_Of_R5 : List Itm := [.one ⟨some 21, .load 127 (.tmp 5), none⟩,
  .one ⟨some 22, .load 40 (.tmp 2), none⟩,
  .one ⟨some 23, .move (.tmp 6), none⟩,
  .one ⟨some 24, .call ⟨.value (.func 73), #[.tmp 21, .tmp 22, .tmp 23], #[127, 40, 3]⟩, none⟩]
def relation_Of_B1 : MCode := (.seq (.reg 4 relation_Of_R4 false) (.reg 5 relation_Of_R5 false))
def relation_Of_R6 : List Itm := [.one ⟨some 25, .binOp .add 3 (.tmp 18) (.const (.int .i64 1)) 3, none⟩,
  .one ⟨some 18, .move (.tmp 25), none⟩]
def relation_Of_W1 : MCode := (.seq (.reg 3 relation_Of_R3 false) (.seq (.cond (.tmp 19) .skip (.exit 0)) (.seq (.block 1 relation_Of_B1) (.reg 6 relation_Of_R6 false))))
def relation_Of_B0 : MCode := (.loop relation_Of_W1)
def relation_Of_R7 : List Itm := [.one ⟨some 26, .fieldAddr 127 (.tmp 5) 0, none⟩,
  .one ⟨some 27, .load 125 (.tmp 26), none⟩,
  .one ⟨some 28, .call ⟨.value (.func 74), #[.tmp 27], #[125]⟩, none⟩,
  .one ⟨some 29, .fieldAddr 127 (.tmp 5) 1, none⟩,
  .one ⟨some 30, .load 125 (.tmp 29), none⟩,
  .one ⟨some 31, .call ⟨.value (.func 74), #[.tmp 30], #[125]⟩, none⟩,
  .one ⟨some 32, .fieldAddr 127 (.tmp 5) 2, none⟩,
  .one ⟨some 33, .load 125 (.tmp 32), none⟩,
  .one ⟨some 34, .call ⟨.value (.func 74), #[.tmp 33], #[125]⟩, none⟩,
  .one ⟨some 35, .fieldAddr 127 (.tmp 5) 3, none⟩,
  .one ⟨some 36, .load 125 (.tmp 35), none⟩,
  .one ⟨some 37, .call ⟨.value (.func 74), #[.tmp 36], #[125]⟩, none⟩,
  .one ⟨some 38, .build 72 #[(0, .tmp 28), (1, .tmp 31), (2, .tmp 34), (3, .tmp 37)], none⟩,
  .one ⟨none, .store 72 (.tmp 4) (.tmp 38), none⟩]
def relation_Of_L : MCode := (.seq (.reg 0 relation_Of_R0 false) (.seq (.reg 1 relation_Of_R1 false) (.seq (.seq (.reg 2 relation_Of_R2 false) (.block 0 relation_Of_B0)) (.seq (.reg 7 relation_Of_R7 true) .ret))))
def relation_Of_ks : Nat → List Nat := fun i => match i with
  | 7 => [0, 0, 1, 0, 0, 1, 0, 0, 1, 0, 0, 1, 0, 3]
  | _ => []
theorem relation_Of_F : FnL Tryz.prog GW 39 39 relation_Of_L [.cell 4 72] relation_Of_ks := ⟨⟨_, Tryz.func39, rfl, by kernel_rfl, by kernel_rfl, rfl⟩, by kernel_rfl, by kernel_rfl⟩
/-! agora/circle.Members -/
def circle_Members_R0 : List Itm := [.one ⟨some 5, .box 40 (.tmp 0), none⟩,
  .one ⟨some 10, .assign (.const (.slice none 0 0)), none⟩]
def circle_Members_R1 : List Itm := [.one ⟨some 15, .load 40 (.tmp 5), none⟩,
  .one ⟨some 16, .move (.tmp 1), none⟩,
  .one ⟨some 17, .call ⟨.value (.func 39), #[.tmp 15, .tmp 16], #[40, 3]⟩, none⟩,
  .one ⟨some 11, .alloc 72, none⟩,
  .one ⟨none, .store 72 (.tmp 11) (.tmp 17), none⟩]
def circle_Members_R2 : List Itm := [.one ⟨some 12, .assign (.const (.slice none 0 0)), none⟩]
def circle_Members_R3 : List Itm := [.one ⟨some 18, .move (.tmp 2), none⟩]
def circle_Members_R4 : List Itm := [.one ⟨some 20, .binOp .eql 3 (.tmp 18) (.const (.int .i64 1)) 3, none⟩,
  .one ⟨some 19, .assign (.tmp 20), none⟩]
def circle_Members_R5 : List Itm := [.one ⟨some 21, .fieldAddr 72 (.tmp 11) 1, none⟩,
  .one ⟨some 22, .load 23 (.tmp 21), none⟩,
  .one ⟨some 23, .call ⟨.value (.func 68), #[.tmp 22], #[23]⟩, none⟩,
  .one ⟨some 12, .assign (.tmp 23), none⟩]
def circle_Members_R6 : List Itm := [.one ⟨some 25, .binOp .eql 3 (.tmp 18) (.const (.int .i64 3)) 3, none⟩,
  .one ⟨some 24, .assign (.tmp 25), none⟩]
def circle_Members_R7 : List Itm := [.one ⟨some 26, .move (.tmp 4), none⟩,
  .one ⟨some 27, .call ⟨.value (.func 68), #[.tmp 26], #[23]⟩, none⟩,
  .one ⟨some 12, .assign (.tmp 27), none⟩]
def circle_Members_R8 : List Itm := [.one ⟨some 29, .binOp .eql 3 (.tmp 18) (.const (.int .i64 2)) 3, none⟩,
  .one ⟨some 28, .assign (.tmp 29), none⟩]
def circle_Members_R9 : List Itm := [.one ⟨some 30, .move (.tmp 1), none⟩,
  .one ⟨some 31, .fieldAddr 40 (.tmp 5) 1, none⟩,
  .one ⟨some 32, .load 37 (.tmp 31), none⟩,
  .one ⟨some 33, .call ⟨.builtin .len, #[.tmp 32], #[37]⟩, none⟩,
  .one ⟨some 34, .call ⟨.builtin .min, #[.tmp 30, .tmp 33], #[3, 3]⟩, none⟩,
  .one ⟨some 35, .move (.const (.int .i64 0)), none⟩]
def circle_Members_R10 : List Itm := [.one ⟨some 36, .binOp .lss 3 (.tmp 35) (.tmp 34) 3, none⟩]
def circle_Members_R11 : List Itm := [.one ⟨some 37, .move (.tmp 35), none⟩,
  .one ⟨some 13, .assign (.tmp 37), none⟩]
def circle_Members_R12 : List Itm := [.one ⟨some 38, .fieldAddr 40 (.tmp 5) 1, none⟩,
  .one ⟨some 39, .load 37 (.tmp 38), none⟩,
  .one ⟨some 40, .move (.tmp 13), none⟩,
  .one ⟨some 41, .indexAddr 37 (.tmp 39) (.tmp 40), none⟩,
  .one ⟨some 42, .load 49 (.tmp 41), none⟩,
  .one ⟨some 14, .alloc 49, none⟩,
  .one ⟨none, .store 49 (.tmp 14) (.tmp 42), none⟩]
def circle_Members_R13 : List Itm := [.one ⟨some 43, .fieldAddr 49 (.tmp 14) 3, none⟩,
  .one ⟨some 44, .load 3 (.tmp 43), none⟩,
  .one ⟨some 45, .binOp .eql 3 (.tmp 44) (.const (.int .i64 15)) 3, none⟩,
  .one ⟨some 46, .move (.tmp 45), none⟩,
  .blk 3 true [.one ⟨some 47, .fieldAddr 49 (.tmp 14) 8, some (3, true)⟩,
  .one ⟨some 48, .load 9 (.tmp 47), some (3, true)⟩,
  .one ⟨some 49, .move (.tmp 3), some (3, true)⟩,
  .one ⟨some 50, .binOp .eql 9 (.tmp 48) (.tmp 49) 9, some (3, true)⟩] ⟨some 51, .pick (.tmp 46) (.tmp 50) (.const (.bool false)), none⟩]
def circle_Members_R14 : List Itm := [.one ⟨some 52, .fieldAddr 49 (.tmp 14) 9, none⟩,
  .one ⟨some 53, .load 23 (.tmp 52), none⟩,
  .one ⟨some 54, .call ⟨.value (.func 68), #[.tmp 53], #[23]⟩, none⟩,
  .one ⟨some 12, .assign (.tmp 54), none⟩]
def circle_Members_B2 : MCode := (.seq (.reg 11 circle_Members_R11 false) (.seq (.reg 12 circle_Members_R12 false) (.seq (.reg 13 circle_Members_R13 false) (.cond (.tmp 51) (.reg 14 circle_Members_R14 false) .skip))))
def circle_Members_R15 : List Itm := [.one ⟨some 55, .binOp .add 3 (.tmp 35) (.const (.int .i64 1)) 3, none⟩,
  .one ⟨some 35, .move (.tmp 55), none⟩]
def circle_Members_W1 : MCode := (.seq (.reg 10 circle_Members_R10 false) (.seq (.cond (.tmp 36) .skip (.exit 1)) (.seq (.block 2 circle_Members_B2) (.reg 15 circle_Members_R15 false))))
def circle_Members_B1 : MCode := (.loop circle_Members_W1)
def circle_Members_B0 : MCode := (.seq (.reg 4 circle_Members_R4 false) (.cond (.tmp 19) (.reg 5 circle_Members_R5 false) (.seq (.reg 6 circle_Members_R6 false) (.cond (.tmp 24) (.reg 7 circle_Members_R7 false) (.seq (.reg 8 circle_Members_R8 false) (.cond (.tmp 28) (.seq (.reg 9 circle_Members_R9 false) (.block 1 circle_Members_B1)) .skip))))))
def circle_Members_R16 : List Itm := [.one ⟨some 56, .move (.tmp 12), none⟩,
  .one ⟨some 57, .makeFunc (.func 76) #[] #[.tmp 5, .tmp 11], none⟩,
  .one ⟨some 58, .call ⟨.value (.func 75), #[.tmp 56, .tmp 57], #[23, 131]⟩, none⟩,
  .one ⟨some 12, .assign (.tmp 58), none⟩]
def circle_Members_R17 : List Itm := [.one ⟨some 59, .move (.tmp 12), none⟩,
  .one ⟨some 60, .call ⟨.value (.func 71), #[.tmp 59], #[23]⟩, none⟩]
def circle_Members_R18 : List Itm := [.one ⟨some 61, .move (.tmp 12), none⟩,
  .one ⟨some 62, .call ⟨.value (.func 66), #[.tmp 61], #[23]⟩, none⟩,
  .one ⟨some 10, .assign (.tmp 62), none⟩]
def circle_Members_L : MCode := (.seq (.reg 0 circle_Members_R0 false) (.seq (.reg 1 circle_Members_R1 false) (.seq (.reg 2 circle_Members_R2 false) (.seq (.seq (.reg 3 circle_Members_R3 false) (.block 0 circle_Members_B0)) (.seq (.reg 16 circle_Members_R16 false) (.seq (.reg 17 circle_Members_R17 false) (.seq (.reg 18 circle_Members_R18 false) .ret)))))))
def circle_Members_ks : Nat → List Nat := fun i => match i with
  | _ => []
theorem circle_Members_F : FnL Tryz.prog GW 40 63 circle_Members_L [.tmp 10] circle_Members_ks := ⟨⟨_, Tryz.func40, rfl, by kernel_rfl, by kernel_rfl, rfl⟩, by kernel_rfl, by kernel_rfl⟩
/-! agora/circle.Fresh -/
def circle_Fresh_R0 : List Itm := [.one ⟨some 5, .box 40 (.tmp 0), none⟩,
  .one ⟨some 10, .assign (.const (.bool false)), none⟩]
def circle_Fresh_R1 : List Itm := [.one ⟨some 15, .load 40 (.tmp 5), none⟩,
  .one ⟨some 16, .move (.tmp 1), none⟩,
  .one ⟨some 17, .move (.tmp 2), none⟩,
  .one ⟨some 18, .move (.tmp 3), none⟩,
  .one ⟨some 19, .call ⟨.value (.func 30), #[.tmp 15, .tmp 16, .tmp 17, .tmp 18], #[40, 3, 3, 9]⟩, none⟩,
  .one ⟨some 14, .move (.tmp 19), none⟩,
  .one ⟨some 20, .extract (.tmp 14) 0, none⟩,
  .one ⟨some 21, .extract (.tmp 14) 1, none⟩,
  .one ⟨some 22, .extract (.tmp 14) 2, none⟩,
  .one ⟨some 11, .assign (.tmp 20), none⟩,
  .one ⟨some 12, .assign (.tmp 21), none⟩,
  .one ⟨some 13, .assign (.tmp 22), none⟩]
def circle_Fresh_R2 : List Itm := [.one ⟨some 23, .move (.tmp 13), none⟩,
  .one ⟨some 24, .unOp .not 4 (.tmp 23), none⟩,
  .one ⟨some 25, .move (.tmp 24), none⟩,
  .blk 2 false [.one ⟨some 26, .move (.tmp 12), some (2, false)⟩,
  .one ⟨some 27, .load 40 (.tmp 5), some (2, false)⟩,
  .one ⟨some 28, .move (.tmp 1), some (2, false)⟩,
  .one ⟨some 29, .move (.tmp 2), some (2, false)⟩,
  .one ⟨some 30, .move (.tmp 3), some (2, false)⟩,
  .one ⟨some 31, .move (.tmp 4), some (2, false)⟩,
  .one ⟨some 32, .call ⟨.value (.func 40), #[.tmp 27, .tmp 28, .tmp 29, .tmp 30, .tmp 31], #[40, 3, 3, 9, 23]⟩, some (2, false)⟩,
  .one ⟨some 33, .call ⟨.value (.func 69), #[.tmp 26, .tmp 32], #[23, 23]⟩, some (2, false)⟩,
  .one ⟨some 34, .unOp .not 4 (.tmp 33), some (2, false)⟩] ⟨some 35, .pick (.tmp 25) (.const (.bool true)) (.tmp 34), none⟩,
  .one ⟨some 10, .assign (.tmp 35), none⟩]
def circle_Fresh_L : MCode := (.seq (.reg 0 circle_Fresh_R0 false) (.seq (.reg 1 circle_Fresh_R1 false) (.seq (.reg 2 circle_Fresh_R2 false) .ret)))
def circle_Fresh_ks : Nat → List Nat := fun i => match i with
  | _ => []
theorem circle_Fresh_F : FnL Tryz.prog GW 31 36 circle_Fresh_L [.tmp 10] circle_Fresh_ks := ⟨⟨_, Tryz.func31, rfl, by kernel_rfl, by kernel_rfl, rfl⟩, by kernel_rfl, by kernel_rfl⟩
/-! agora/act.Posting -/
def act_Posting_R0 : List Itm := [.one ⟨some 2, .assign (.const (.bool false)), none⟩]
def act_Posting_R1 : List Itm := [.one ⟨some 3, .move (.tmp 0), none⟩,
  .one ⟨some 4, .binOp .eql 3 (.tmp 3) (.const (.int .i64 1)) 3, none⟩,
  .one ⟨some 5, .move (.tmp 4), none⟩,
  .blk 2 false [.one ⟨some 6, .move (.tmp 0), some (2, false)⟩,
  .one ⟨some 7, .binOp .eql 3 (.tmp 6) (.const (.int .i64 2)) 3, some (2, false)⟩] ⟨some 8, .pick (.tmp 5) (.const (.bool true)) (.tmp 7), none⟩,
  .one ⟨some 9, .move (.tmp 8), none⟩,
  .blk 6 false [.one ⟨some 10, .move (.tmp 0), some (6, false)⟩,
  .one ⟨some 11, .binOp .eql 3 (.tmp 10) (.const (.int .i64 3)) 3, some (6, false)⟩] ⟨some 12, .pick (.tmp 9) (.const (.bool true)) (.tmp 11), none⟩,
  .one ⟨some 2, .assign (.tmp 12), none⟩]
def act_Posting_L : MCode := (.seq (.reg 0 act_Posting_R0 false) (.seq (.reg 1 act_Posting_R1 false) .ret))
def act_Posting_ks : Nat → List Nat := fun i => match i with
  | _ => []
theorem act_Posting_F : FnL Tryz.prog GW 32 13 act_Posting_L [.tmp 2] act_Posting_ks := ⟨⟨_, Tryz.func32, rfl, by kernel_rfl, by kernel_rfl, rfl⟩, by kernel_rfl, by kernel_rfl⟩
/-! agora/circle.Well -/
def circle_Well_R0 : List Itm := [.one ⟨some 2, .box 40 (.tmp 0), none⟩,
  .one ⟨some 4, .assign (.const (.bool false)), none⟩]
def circle_Well_R1 : List Itm := [.one ⟨some 9, .move (.tmp 1), none⟩,
  .one ⟨some 10, .binOp .lss 3 (.tmp 9) (.const (.int .i64 0)) 3, none⟩,
  .one ⟨some 11, .move (.tmp 10), none⟩,
  .blk 2 false [.one ⟨some 12, .move (.tmp 1), some (2, false)⟩,
  .one ⟨some 13, .fieldAddr 40 (.tmp 2) 1, some (2, false)⟩,
  .one ⟨some 14, .load 37 (.tmp 13), some (2, false)⟩,
  .one ⟨some 15, .call ⟨.builtin .len, #[.tmp 14], #[37]⟩, some (2, false)⟩,
  .one ⟨some 16, .binOp .geq 3 (.tmp 12) (.tmp 15) 3, some (2, false)⟩] ⟨some 17, .pick (.tmp 11) (.const (.bool true)) (.tmp 16), none⟩]
def circle_Well_R2 : List Itm := [.one ⟨some 4, .assign (.const (.bool false)), none⟩]
def circle_Well_R3 : List Itm := [.one ⟨some 18, .fieldAddr 40 (.tmp 2) 1, none⟩,
  .one ⟨some 19, .load 37 (.tmp 18), none⟩,
  .one ⟨some 20, .move (.tmp 1), none⟩,
  .one ⟨some 21, .indexAddr 37 (.tmp 19) (.tmp 20), none⟩,
  .one ⟨some 22, .load 49 (.tmp 21), none⟩,
  .one ⟨some 5, .alloc 49, none⟩,
  .one ⟨none, .store 49 (.tmp 5) (.tmp 22), none⟩]
def circle_Well_R4 : List Itm := [.one ⟨some 23, .fieldAddr 49 (.tmp 5) 3, none⟩,
  .one ⟨some 24, .load 3 (.tmp 23), none⟩,
  .one ⟨some 25, .call ⟨.value (.func 32), #[.tmp 24], #[3]⟩, none⟩,
  .one ⟨some 26, .unOp .not 4 (.tmp 25), none⟩,
  .one ⟨some 27, .move (.tmp 26), none⟩,
  .blk 4 true [.one ⟨some 28, .fieldAddr 49 (.tmp 5) 3, some (4, true)⟩,
  .one ⟨some 29, .load 3 (.tmp 28), some (4, true)⟩,
  .one ⟨some 30, .binOp .neq 3 (.tmp 29) (.const (.int .i64 14)) 3, some (4, true)⟩] ⟨some 31, .pick (.tmp 27) (.tmp 30) (.const (.bool false)), none⟩,
  .one ⟨some 32, .move (.tmp 31), none⟩,
  .blk 9 false [.one ⟨some 33, .fieldAddr 49 (.tmp 5) 7, some (9, false)⟩,
  .one ⟨some 34, .load 3 (.tmp 33), some (9, false)⟩,
  .one ⟨some 35, .binOp .lss 3 (.tmp 34) (.const (.int .i64 1)) 3, some (9, false)⟩] ⟨some 36, .pick (.tmp 32) (.const (.bool true)) (.tmp 35), none⟩,
  .one ⟨some 37, .move (.tmp 36), none⟩,
  .blk 14 false [.one ⟨some 38, .fieldAddr 49 (.tmp 5) 7, some (14, false)⟩,
  .one ⟨some 39, .load 3 (.tmp 38), some (14, false)⟩,
  .one ⟨some 40, .binOp .gtr 3 (.tmp 39) (.const (.int .i64 3)) 3, some (14, false)⟩] ⟨some 41, .pick (.tmp 37) (.const (.bool true)) (.tmp 40), none⟩]
def circle_Well_R5 : List Itm := [.one ⟨some 4, .assign (.const (.bool false)), none⟩]
def circle_Well_R6 : List Itm := [.one ⟨some 43, .load 40 (.tmp 2), none⟩,
  .one ⟨some 44, .move (.tmp 1), none⟩,
  .one ⟨some 45, .fieldAddr 49 (.tmp 5) 7, none⟩,
  .one ⟨some 46, .load 3 (.tmp 45), none⟩,
  .one ⟨some 47, .fieldAddr 49 (.tmp 5) 8, none⟩,
  .one ⟨some 48, .load 9 (.tmp 47), none⟩,
  .one ⟨some 49, .call ⟨.value (.func 30), #[.tmp 43, .tmp 44, .tmp 46, .tmp 48], #[40, 3, 3, 9]⟩, none⟩,
  .one ⟨some 42, .move (.tmp 49), none⟩,
  .one ⟨some 50, .extract (.tmp 42) 0, none⟩,
  .one ⟨some 51, .extract (.tmp 42) 1, none⟩,
  .one ⟨some 52, .extract (.tmp 42) 2, none⟩,
  .one ⟨some 6, .assign (.tmp 50), none⟩,
  .one ⟨some 7, .assign (.tmp 51), none⟩,
  .one ⟨some 8, .assign (.tmp 52), none⟩]
def circle_Well_R7 : List Itm := [.one ⟨some 53, .move (.tmp 6), none⟩,
  .one ⟨some 54, .fieldAddr 49 (.tmp 5) 12, none⟩,
  .one ⟨some 55, .load 3 (.tmp 54), none⟩,
  .one ⟨some 56, .binOp .eql 3 (.tmp 53) (.tmp 55) 3, none⟩,
  .one ⟨some 57, .move (.tmp 56), none⟩,
  .blk 4 true [.one ⟨some 58, .load 40 (.tmp 2), some (4, true)⟩,
  .one ⟨some 59, .move (.tmp 1), some (4, true)⟩,
  .one ⟨some 60, .fieldAddr 49 (.tmp 5) 7, some (4, true)⟩,
  .one ⟨some 61, .load 3 (.tmp 60), some (4, true)⟩,
  .one ⟨some 62, .fieldAddr 49 (.tmp 5) 8, some (4, true)⟩,
  .one ⟨some 63, .load 9 (.tmp 62), some (4, true)⟩,
  .one ⟨some 64, .fieldAddr 49 (.tmp 5) 9, some (4, true)⟩,
  .one ⟨some 65, .load 23 (.tmp 64), some (4, true)⟩,
  .one ⟨some 66, .call ⟨.value (.func 31), #[.tmp 58, .tmp 59, .tmp 61, .tmp 63, .tmp 65], #[40, 3, 3, 9, 23]⟩, some (4, true)⟩,
  .one ⟨some 67, .unOp .not 4 (.tmp 66), some (4, true)⟩] ⟨some 68, .pick (.tmp 57) (.tmp 67) (.const (.bool false)), none⟩,
  .one ⟨some 4, .assign (.tmp 68), none⟩]
def circle_Well_L : MCode := (.seq (.reg 0 circle_Well_R0 false) (.seq (.seq (.reg 1 circle_Well_R1 false) (.cond (.tmp 17) (.seq (.reg 2 circle_Well_R2 false) .ret) .skip)) (.seq (.reg 3 circle_Well_R3 false) (.seq (.seq (.reg 4 circle_Well_R4 false) (.cond (.tmp 41) (.seq (.reg 5 circle_Well_R5 false) .ret) .skip)) (.seq (.reg 6 circle_Well_R6 false) (.seq (.reg 7 circle_Well_R7 false) .ret))))))
def circle_Well_ks : Nat → List Nat := fun i => match i with
  | _ => []
theorem circle_Well_F : FnL Tryz.prog GW 29 69 circle_Well_L [.tmp 4] circle_Well_ks := ⟨⟨_, Tryz.func29, rfl, by kernel_rfl, by kernel_rfl, rfl⟩, by kernel_rfl, by kernel_rfl⟩
/-! agora/circle.Grant -/
def circle_Grant_R0 : List Itm := [.one ⟨some 4, .box 40 (.tmp 0), none⟩,
  .one ⟨some 8, .assign (.const (.int .i64 0)), none⟩,
  .one ⟨some 9, .assign (.const (.bool false)), none⟩]
def circle_Grant_R1 : List Itm := [.one ⟨some 10, .assign (.const (.int .i64 0)), none⟩,
  .one ⟨some 11, .assign (.const (.int .i64 0)), none⟩]
def circle_Grant_R2 : List Itm := [.one ⟨some 14, .move (.tmp 1), none⟩,
  .one ⟨some 15, .fieldAddr 40 (.tmp 4) 1, none⟩,
  .one ⟨some 16, .load 37 (.tmp 15), none⟩,
  .one ⟨some 17, .call ⟨.builtin .len, #[.tmp 16], #[37]⟩, none⟩,
  .one ⟨some 18, .call ⟨.builtin .min, #[.tmp 14, .tmp 17], #[3, 3]⟩, none⟩,
  .one ⟨some 19, .move (.const (.int .i64 0)), none⟩]
def circle_Grant_R3 : List Itm := [.one ⟨some 20, .binOp .lss 3 (.tmp 19) (.tmp 18) 3, none⟩]
def circle_Grant_R4 : List Itm := [.one ⟨some 21, .move (.tmp 19), none⟩,
  .one ⟨some 12, .assign (.tmp 21), none⟩]
def circle_Grant_R5 : List Itm := [.one ⟨some 22, .fieldAddr 40 (.tmp 4) 1, none⟩,
  .one ⟨some 23, .load 37 (.tmp 22), none⟩,
  .one ⟨some 24, .move (.tmp 12), none⟩,
  .one ⟨some 25, .indexAddr 37 (.tmp 23) (.tmp 24), none⟩,
  .one ⟨some 26, .load 49 (.tmp 25), none⟩,
  .one ⟨some 13, .alloc 49, none⟩,
  .one ⟨none, .store 49 (.tmp 13) (.tmp 26), none⟩]
def circle_Grant_R6 : List Itm := [.one ⟨some 27, .fieldAddr 49 (.tmp 13) 3, none⟩,
  .one ⟨some 28, .load 3 (.tmp 27), none⟩,
  .one ⟨some 29, .binOp .eql 3 (.tmp 28) (.const (.int .i64 16)) 3, none⟩,
  .one ⟨some 30, .move (.tmp 29), none⟩,
  .blk 3 true [.one ⟨some 31, .fieldAddr 49 (.tmp 13) 7, some (3, true)⟩,
  .one ⟨some 32, .load 3 (.tmp 31), some (3, true)⟩,
  .one ⟨some 33, .move (.tmp 2), some (3, true)⟩,
  .one ⟨some 34, .binOp .eql 3 (.tmp 32) (.tmp 33) 3, some (3, true)⟩] ⟨some 35, .pick (.tmp 30) (.tmp 34) (.const (.bool false)), none⟩,
  .one ⟨some 36, .move (.tmp 35), none⟩,
  .blk 9 true [.one ⟨some 37, .fieldAddr 49 (.tmp 13) 8, some (9, true)⟩,
  .one ⟨some 38, .load 9 (.tmp 37), some (9, true)⟩,
  .one ⟨some 39, .move (.tmp 3), some (9, true)⟩,
  .one ⟨some 40, .binOp .eql 9 (.tmp 38) (.tmp 39) 9, some (9, true)⟩] ⟨some 41, .pick (.tmp 36) (.tmp 40) (.const (.bool false)), none⟩,
  .one ⟨some 42, .move (.tmp 41), none⟩,
  .blk 15 true [.one ⟨some 43, .fieldAddr 49 (.tmp 13) 12, some (15, true)⟩,
  .one ⟨some 44, .load 3 (.tmp 43), some (15, true)⟩,
  .one ⟨some 45, .move (.tmp 11), some (15, true)⟩,
  .one ⟨some 46, .binOp .eql 3 (.tmp 44) (.tmp 45) 3, some (15, true)⟩] ⟨some 47, .pick (.tmp 42) (.tmp 46) (.const (.bool false)), none⟩]
def circle_Grant_R7 : List Itm := [.one ⟨some 48, .move (.tmp 12), none⟩,
  .one ⟨some 49, .move (.tmp 11), none⟩,
  .one ⟨some 50, .binOp .add 3 (.tmp 49) (.const (.int .i64 1)) 3, none⟩,
  .one ⟨some 10, .assign (.tmp 48), none⟩,
  .one ⟨some 11, .assign (.tmp 50), none⟩]
def circle_Grant_B1 : MCode := (.seq (.reg 4 circle_Grant_R4 false) (.seq (.reg 5 circle_Grant_R5 false) (.seq (.reg 6 circle_Grant_R6 false) (.cond (.tmp 47) (.reg 7 circle_Grant_R7 false) .skip))))
def circle_Grant_R8 : List Itm := [.one ⟨some 51, .binOp .add 3 (.tmp 19) (.const (.int .i64 1)) 3, none⟩,
  .one ⟨some 19, .move (.tmp 51), none⟩]
def circle_Grant_W1 : MCode := (.seq (.reg 3 circle_Grant_R3 false) (.seq (.cond (.tmp 20) .skip (.exit 0)) (.seq (.block 1 circle_Grant_B1) (.reg 8 circle_Grant_R8 false))))
def circle_Grant_B0 : MCode := (.loop circle_Grant_W1)
def circle_Grant_R9 : List Itm := [.one ⟨some 52, .move (.tmp 10), none⟩,
  .one ⟨some 53, .move (.tmp 11), none⟩,
  .one ⟨some 54, .binOp .gtr 3 (.tmp 53) (.const (.int .i64 0)) 3, none⟩,
  .one ⟨some 8, .assign (.tmp 52), none⟩,
  .one ⟨some 9, .assign (.tmp 54), none⟩]
def circle_Grant_L : MCode := (.seq (.reg 0 circle_Grant_R0 false) (.seq (.reg 1 circle_Grant_R1 false) (.seq (.seq (.reg 2 circle_Grant_R2 false) (.block 0 circle_Grant_B0)) (.seq (.reg 9 circle_Grant_R9 false) .ret))))
def circle_Grant_ks : Nat → List Nat := fun i => match i with
  | _ => []
theorem circle_Grant_F : FnL Tryz.prog GW 33 55 circle_Grant_L [.tmp 8, .tmp 9] circle_Grant_ks := ⟨⟨_, Tryz.func33, rfl, by kernel_rfl, by kernel_rfl, rfl⟩, by kernel_rfl, by kernel_rfl⟩
/-! agora/circle.Epoch -/
def circle_Epoch_R0 : List Itm := [.one ⟨some 4, .box 40 (.tmp 0), none⟩,
  .one ⟨some 8, .assign (.const (.int .i64 0)), none⟩,
  .one ⟨some 9, .assign (.const (.slice none 0 0)), none⟩,
  .one ⟨some 10, .assign (.const (.bool false)), none⟩]
def circle_Epoch_R1 : List Itm := [.one ⟨some 14, .load 40 (.tmp 4), none⟩,
  .one ⟨some 15, .move (.tmp 1), none⟩,
  .one ⟨some 16, .move (.tmp 2), none⟩,
  .one ⟨some 17, .move (.tmp 3), none⟩,
  .one ⟨some 18, .call ⟨.value (.func 33), #[.tmp 14, .tmp 15, .tmp 16, .tmp 17], #[40, 3, 3, 9]⟩, none⟩,
  .one ⟨some 13, .move (.tmp 18), none⟩,
  .one ⟨some 19, .extract (.tmp 13) 0, none⟩,
  .one ⟨some 20, .extract (.tmp 13) 1, none⟩,
  .one ⟨some 11, .assign (.tmp 19), none⟩,
  .one ⟨some 12, .assign (.tmp 20), none⟩]
def circle_Epoch_R2 : List Itm := [.one ⟨some 21, .move (.tmp 12), none⟩,
  .one ⟨some 22, .unOp .not 4 (.tmp 21), none⟩]
def circle_Epoch_R3 : List Itm := [.one ⟨some 8, .assign (.const (.int .i64 0)), none⟩,
  .one ⟨some 9, .assign (.const (.slice none 0 0)), none⟩,
  .one ⟨some 10, .assign (.const (.bool false)), none⟩]
def circle_Epoch_R4 : List Itm := [.one ⟨some 23, .fieldAddr 40 (.tmp 4) 1, none⟩,
  .one ⟨some 24, .load 37 (.tmp 23), none⟩,
  .one ⟨some 25, .move (.tmp 11), none⟩,
  .one ⟨some 26, .indexAddr 37 (.tmp 24) (.tmp 25), none⟩,
  .one ⟨some 27, .fieldAddr 49 (.tmp 26) 12, none⟩,
  .one ⟨some 28, .load 3 (.tmp 27), none⟩,
  .one ⟨some 29, .fieldAddr 40 (.tmp 4) 1, none⟩,
  .one ⟨some 30, .load 37 (.tmp 29), none⟩,
  .one ⟨some 31, .move (.tmp 11), none⟩,
  .one ⟨some 32, .indexAddr 37 (.tmp 30) (.tmp 31), none⟩,
  .one ⟨some 33, .fieldAddr 49 (.tmp 32) 9, none⟩,
  .one ⟨some 34, .load 23 (.tmp 33), none⟩,
  .one ⟨some 35, .call ⟨.value (.func 68), #[.tmp 34], #[23]⟩, none⟩,
  .one ⟨some 8, .assign (.tmp 28), none⟩,
  .one ⟨some 9, .assign (.tmp 35), none⟩,
  .one ⟨some 10, .assign (.const (.bool true)), none⟩]
def circle_Epoch_L : MCode := (.seq (.reg 0 circle_Epoch_R0 false) (.seq (.reg 1 circle_Epoch_R1 false) (.seq (.seq (.reg 2 circle_Epoch_R2 false) (.cond (.tmp 22) (.seq (.reg 3 circle_Epoch_R3 false) .ret) .skip)) (.seq (.reg 4 circle_Epoch_R4 true) .ret))))
def circle_Epoch_ks : Nat → List Nat := fun i => match i with
  | 4 => [0, 0, 0, 0, 0, 0, 0, 0, 0, 0, 0, 0, 0, 0, 0, 0]
  | _ => []
theorem circle_Epoch_F : FnL Tryz.prog GW 30 36 circle_Epoch_L [.tmp 8, .tmp 9, .tmp 10] circle_Epoch_ks := ⟨⟨_, Tryz.func30, rfl, by kernel_rfl, by kernel_rfl, rfl⟩, by kernel_rfl, by kernel_rfl⟩
end Go.Proofs.YthkmfboffnhkaaaGreatDoor
