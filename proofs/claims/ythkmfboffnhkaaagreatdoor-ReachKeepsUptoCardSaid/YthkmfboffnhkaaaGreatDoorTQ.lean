/-
  The light code of functions: printed by wip/tools/gen.py.
-/
import Derived.Test.YthkmfboffnhkaaaGreatDoorTY4
namespace Go.Proofs.YthkmfboffnhkaaaGreatDoor
open Go Go.L1
set_option linter.all false
set_option maxRecDepth 100000
/-! agora/reach.texts -/
def reach_texts_R0 : List Itm := [.one ⟨some 1, .box 40 (.tmp 0), none⟩,
  .one ⟨some 2, .assign (.const .nilFunc), none⟩]
def reach_texts_R1 : List Itm := [.one ⟨some 3, .makeFunc (.func 107) #[] #[.tmp 1], none⟩,
  .one ⟨some 2, .assign (.tmp 3), none⟩]
def reach_texts_L : MCode := (.seq (.reg 0 reach_texts_R0 false) (.seq (.reg 1 reach_texts_R1 false) .ret))
def reach_texts_ks : Nat → List Nat := fun i => match i with
  | _ => []
theorem reach_texts_F : FnL Tryz.prog GW 70 4 reach_texts_L [.tmp 2] reach_texts_ks := ⟨⟨_, Tryz.func70, rfl, by kernel_rfl, by kernel_rfl, rfl⟩, by kernel_rfl, by kernel_rfl⟩
/-! agora/reach.Readers -/
def reach_Readers_R0 : List Itm := [.one ⟨some 2, .box 40 (.tmp 0), none⟩,
  .one ⟨some 3, .box 3 (.tmp 1), none⟩,
  .one ⟨some 4, .alloc 23, none⟩,
  .one ⟨some 5, .alloc 4, none⟩]
def reach_Readers_R1 : List Itm := [.one ⟨some 9, .load 40 (.tmp 2), none⟩,
  .one ⟨some 10, .call ⟨.value (.func 70), #[.tmp 9], #[40]⟩, none⟩]
def reach_Readers_R2 : List Itm := [.one ⟨some 6, .assign (.tmp 11), none⟩]
def reach_Readers_R3 : List Itm := [.one ⟨some 7, .alloc 49, none⟩,
  .one ⟨none, .store 49 (.tmp 7) (.tmp 12), none⟩]
def reach_Readers_R4 : List Itm := [.one ⟨some 14, .move (.tmp 6), none⟩,
  .one ⟨some 15, .load 3 (.tmp 3), none⟩,
  .one ⟨some 16, .binOp .neq 3 (.tmp 14) (.tmp 15) 3, none⟩,
  .one ⟨some 13, .assign (.tmp 16), none⟩]
def reach_Readers_R5 : List Itm := [.one ⟨some 18, .fieldAddr 49 (.tmp 7) 7, none⟩,
  .one ⟨some 19, .load 3 (.tmp 18), none⟩,
  .one ⟨some 20, .binOp .eql 3 (.tmp 19) (.const (.int .i64 0)) 3, none⟩,
  .one ⟨some 17, .assign (.tmp 20), none⟩]
def reach_Readers_R6 : List Itm := [.one ⟨none, .store 23 (.tmp 4) (.const (.slice none 0 0)), none⟩,
  .one ⟨none, .store 4 (.tmp 5) (.const (.bool false)), none⟩]
def reach_Readers_B2 : MCode := (.seq (.reg 4 reach_Readers_R4 false) (.cond (.tmp 13) (.exit 1) (.seq (.reg 5 reach_Readers_R5 false) (.cond (.tmp 17) (.seq (.reg 6 reach_Readers_R6 false) .ret) .skip))))
def reach_Readers_R7 : List Itm := [.one ⟨some 21, .fieldAddr 40 (.tmp 2) 0, none⟩,
  .one ⟨some 22, .load 9 (.tmp 21), none⟩,
  .one ⟨some 23, .buildSlice 23 1 #[(0, .tmp 22)], none⟩,
  .one ⟨some 8, .assign (.tmp 23), none⟩]
def reach_Readers_R8 : List Itm := [.one ⟨some 24, .load 40 (.tmp 2), none⟩,
  .one ⟨some 25, .load 3 (.tmp 3), none⟩,
  .one ⟨some 26, .call ⟨.value (.func 29), #[.tmp 24, .tmp 25], #[40, 3]⟩, none⟩]
def reach_Readers_R9 : List Itm := [.one ⟨some 27, .move (.tmp 8), none⟩,
  .one ⟨some 28, .load 40 (.tmp 2), none⟩,
  .one ⟨some 29, .load 3 (.tmp 3), none⟩,
  .one ⟨some 30, .fieldAddr 49 (.tmp 7) 7, none⟩,
  .one ⟨some 31, .load 3 (.tmp 30), none⟩,
  .one ⟨some 32, .fieldAddr 49 (.tmp 7) 8, none⟩,
  .one ⟨some 33, .load 9 (.tmp 32), none⟩,
  .one ⟨some 34, .fieldAddr 49 (.tmp 7) 9, none⟩,
  .one ⟨some 35, .load 23 (.tmp 34), none⟩,
  .one ⟨some 36, .call ⟨.value (.func 40), #[.tmp 28, .tmp 29, .tmp 31, .tmp 33, .tmp 35], #[40, 3, 3, 9, 23]⟩, none⟩,
  .one ⟨some 37, .call ⟨.builtin .append, #[.tmp 27, .tmp 36], #[23, 23]⟩, none⟩,
  .one ⟨some 8, .assign (.tmp 37), none⟩]
def reach_Readers_R10 : List Itm := [.one ⟨some 38, .move (.tmp 8), none⟩,
  .one ⟨some 39, .call ⟨.value (.func 71), #[.tmp 38], #[23]⟩, none⟩]
def reach_Readers_R11 : List Itm := [.one ⟨some 40, .move (.tmp 8), none⟩,
  .one ⟨none, .store 23 (.tmp 4) (.tmp 40), none⟩,
  .one ⟨none, .store 4 (.tmp 5) (.const (.bool true)), none⟩]
def reach_Readers_B1 : MCode := (.seq (.block 2 reach_Readers_B2) (.seq (.reg 7 reach_Readers_R7 false) (.seq (.seq (.reg 8 reach_Readers_R8 false) (.cond (.tmp 26) (.seq (.reg 9 reach_Readers_R9 false) (.reg 10 reach_Readers_R10 false)) .skip)) (.seq (.reg 11 reach_Readers_R11 false) .ret))))
def reach_Readers_G1 : MCode := (.block 1 reach_Readers_B1)
def reach_Readers_B0 : MCode := (.rng (.tmp 10) #[11, 12] (.seq (.reg 2 reach_Readers_R2 false) (.reg 3 reach_Readers_R3 false)) reach_Readers_G1)
def reach_Readers_R12 : List Itm := [.one ⟨none, .store 23 (.tmp 4) (.const (.slice none 0 0)), none⟩,
  .one ⟨none, .store 4 (.tmp 5) (.const (.bool true)), none⟩]
def reach_Readers_L : MCode := (.seq (.reg 0 reach_Readers_R0 false) (.seq (.seq (.reg 1 reach_Readers_R1 false) (.block 0 reach_Readers_B0)) (.seq (.reg 12 reach_Readers_R12 false) .ret)))
def reach_Readers_ks : Nat → List Nat := fun i => match i with
  | _ => []
theorem reach_Readers_F : FnL Tryz.prog GW 37 41 reach_Readers_L [.cell 4 23, .cell 5 4] reach_Readers_ks := ⟨⟨_, Tryz.func37, rfl, by kernel_rfl, by kernel_rfl, rfl⟩, by kernel_rfl, by kernel_rfl⟩
/-! agora/reach.May -/
def reach_May_R0 : List Itm := [.one ⟨some 3, .box 40 (.tmp 0), none⟩,
  .one ⟨some 6, .assign (.const (.bool false)), none⟩]
def reach_May_R1 : List Itm := [.one ⟨some 10, .load 40 (.tmp 3), none⟩,
  .one ⟨some 11, .move (.tmp 1), none⟩,
  .one ⟨some 12, .call ⟨.value (.func 37), #[.tmp 10, .tmp 11], #[40, 3]⟩, none⟩,
  .one ⟨some 9, .move (.tmp 12), none⟩,
  .one ⟨some 13, .extract (.tmp 9) 0, none⟩,
  .one ⟨some 14, .extract (.tmp 9) 1, none⟩,
  .one ⟨some 7, .assign (.tmp 13), none⟩,
  .one ⟨some 8, .assign (.tmp 14), none⟩]
def reach_May_R2 : List Itm := [.one ⟨some 15, .move (.tmp 8), none⟩,
  .one ⟨some 16, .unOp .not 4 (.tmp 15), none⟩,
  .one ⟨some 17, .move (.tmp 16), none⟩,
  .blk 2 false [.one ⟨some 18, .move (.tmp 7), some (2, false)⟩,
  .one ⟨some 19, .move (.tmp 2), some (2, false)⟩,
  .one ⟨some 20, .call ⟨.value (.func 72), #[.tmp 18, .tmp 19], #[23, 9]⟩, some (2, false)⟩] ⟨some 21, .pick (.tmp 17) (.const (.bool true)) (.tmp 20), none⟩,
  .one ⟨some 6, .assign (.tmp 21), none⟩]
def reach_May_L : MCode := (.seq (.reg 0 reach_May_R0 false) (.seq (.reg 1 reach_May_R1 false) (.seq (.reg 2 reach_May_R2 false) .ret)))
def reach_May_ks : Nat → List Nat := fun i => match i with
  | _ => []
theorem reach_May_F : FnL Tryz.prog GW 38 22 reach_May_L [.tmp 6] reach_May_ks := ⟨⟨_, Tryz.func38, rfl, by kernel_rfl, by kernel_rfl, rfl⟩, by kernel_rfl, by kernel_rfl⟩
/-! agora/reach.Spots -/
def reach_Spots_R0 : List Itm := [.one ⟨some 3, .box 9 (.tmp 1), none⟩,
  .one ⟨some 4, .assign (.const (.slice none 0 0)), none⟩]
def reach_Spots_R1 : List Itm := [.one ⟨some 5, .alloc 75, none⟩]
def reach_Spots_R2 : List Itm := [.one ⟨some 9, .move (.tmp 0), none⟩,
  .one ⟨some 10, .call ⟨.builtin .len, #[.tmp 9], #[22]⟩, none⟩,
  .one ⟨some 11, .move (.const (.int .i64 0)), none⟩]
def reach_Spots_R3 : List Itm := [.one ⟨some 12, .binOp .lss 3 (.tmp 11) (.tmp 10) 3, none⟩]
def reach_Spots_R4 : List Itm := [.one ⟨some 13, .indexAddr 22 (.tmp 9) (.tmp 11), none⟩,
  .one ⟨some 14, .load 40 (.tmp 13), none⟩,
  .one ⟨some 7, .alloc 40, none⟩,
  .one ⟨none, .store 40 (.tmp 7) (.tmp 14), none⟩]
def reach_Spots_R5 : List Itm := [.one ⟨some 15, .load 40 (.tmp 7), none⟩,
  .one ⟨some 16, .call ⟨.value (.func 70), #[.tmp 15], #[40]⟩, none⟩]
def reach_Spots_R6 : List Itm := [.one ⟨some 8, .assign (.tmp 17), none⟩]
def reach_Spots_R7 : List Itm := [.one ⟨some 19, .load 40 (.tmp 7), none⟩,
  .one ⟨some 20, .move (.tmp 8), none⟩,
  .one ⟨some 21, .load 9 (.tmp 3), none⟩,
  .one ⟨some 22, .call ⟨.value (.func 38), #[.tmp 19, .tmp 20, .tmp 21], #[40, 3, 9]⟩, none⟩]
def reach_Spots_R8 : List Itm := [.one ⟨some 23, .load 75 (.tmp 5), none⟩,
  .one ⟨some 24, .fieldAddr 40 (.tmp 7) 0, none⟩,
  .one ⟨some 25, .load 9 (.tmp 24), none⟩,
  .one ⟨some 26, .move (.tmp 8), none⟩,
  .one ⟨some 27, .build 78 #[(0, .tmp 25), (1, .tmp 26)], none⟩,
  .one ⟨some 28, .buildSlice 75 1 #[(0, .tmp 27)], none⟩,
  .one ⟨some 29, .call ⟨.builtin .append, #[.tmp 23, .tmp 28], #[75, 75]⟩, none⟩,
  .one ⟨none, .store 75 (.tmp 5) (.tmp 29), none⟩]
def reach_Spots_B3 : MCode := (.seq (.reg 7 reach_Spots_R7 false) (.cond (.tmp 22) (.reg 8 reach_Spots_R8 false) .skip))
def reach_Spots_G1 : MCode := (.block 3 reach_Spots_B3)
def reach_Spots_B2 : MCode := (.rng (.tmp 16) #[17, 18] (.reg 6 reach_Spots_R6 false) reach_Spots_G1)
def reach_Spots_B1 : MCode := (.seq (.reg 4 reach_Spots_R4 false) (.seq (.reg 5 reach_Spots_R5 false) (.block 2 reach_Spots_B2)))
def reach_Spots_R9 : List Itm := [.one ⟨some 30, .binOp .add 3 (.tmp 11) (.const (.int .i64 1)) 3, none⟩,
  .one ⟨some 11, .move (.tmp 30), none⟩]
def reach_Spots_W2 : MCode := (.seq (.reg 3 reach_Spots_R3 false) (.seq (.cond (.tmp 12) .skip (.exit 0)) (.seq (.block 1 reach_Spots_B1) (.reg 9 reach_Spots_R9 false))))
def reach_Spots_B0 : MCode := (.loop reach_Spots_W2)
def reach_Spots_R10 : List Itm := [.one ⟨some 31, .load 75 (.tmp 5), none⟩,
  .one ⟨some 4, .assign (.tmp 31), none⟩]
def reach_Spots_L : MCode := (.seq (.reg 0 reach_Spots_R0 false) (.seq (.reg 1 reach_Spots_R1 false) (.seq (.seq (.reg 2 reach_Spots_R2 false) (.block 0 reach_Spots_B0)) (.seq (.reg 10 reach_Spots_R10 false) .ret))))
def reach_Spots_ks : Nat → List Nat := fun i => match i with
  | _ => []
theorem reach_Spots_F : FnL Tryz.prog GW 42 32 reach_Spots_L [.tmp 4] reach_Spots_ks := ⟨⟨_, Tryz.func42, rfl, by kernel_rfl, by kernel_rfl, rfl⟩, by kernel_rfl, by kernel_rfl⟩
/-! agora/agoralaw25.small -/
def agoralaw25_small_R0 : List Itm := [.one ⟨some 0, .assign (.const (.bool false)), none⟩]
def agoralaw25_small_R1 : List Itm := [.one ⟨some 1, .assign (.const (.string ⟨#[48, 48, 48, 48, 48, 48, 48, 48, 48, 48, 48, 48, 48, 48, 97, 49]⟩)), none⟩]
def agoralaw25_small_R2 : List Itm := [.one ⟨some 9, .move (.tmp 1), none⟩,
  .one ⟨some 10, .build 49 #[(3, .const (.int .i64 1))], none⟩,
  .one ⟨some 11, .build 49 #[(3, .const (.int .i64 1)), (7, .const (.int .i64 1))], none⟩,
  .one ⟨some 12, .build 49 #[(3, .const (.int .i64 5))], none⟩,
  .one ⟨some 13, .buildSlice 37 3 #[(0, .tmp 10), (1, .tmp 11), (2, .tmp 12)], none⟩,
  .one ⟨some 14, .build 40 #[(0, .tmp 9), (1, .tmp 13)], none⟩,
  .one ⟨some 2, .alloc 40, none⟩,
  .one ⟨none, .store 40 (.tmp 2) (.tmp 14), none⟩]
def agoralaw25_small_R3 : List Itm := [.one ⟨some 16, .load 40 (.tmp 2), none⟩,
  .one ⟨some 17, .call ⟨.value (.func 37), #[.tmp 16, .const (.int .i64 0)], #[40, 3]⟩, none⟩,
  .one ⟨some 15, .move (.tmp 17), none⟩,
  .one ⟨some 18, .extract (.tmp 15) 0, none⟩,
  .one ⟨some 19, .extract (.tmp 15) 1, none⟩,
  .one ⟨some 3, .assign (.tmp 18), none⟩,
  .one ⟨some 4, .assign (.tmp 19), none⟩]
def agoralaw25_small_R4 : List Itm := [.one ⟨some 21, .load 40 (.tmp 2), none⟩,
  .one ⟨some 22, .call ⟨.value (.func 37), #[.tmp 21, .const (.int .i64 1)], #[40, 3]⟩, none⟩,
  .one ⟨some 20, .move (.tmp 22), none⟩,
  .one ⟨some 23, .extract (.tmp 20) 0, none⟩,
  .one ⟨some 24, .extract (.tmp 20) 1, none⟩,
  .one ⟨some 5, .assign (.tmp 23), none⟩,
  .one ⟨some 6, .assign (.tmp 24), none⟩]
def agoralaw25_small_R5 : List Itm := [.one ⟨some 26, .load 40 (.tmp 2), none⟩,
  .one ⟨some 27, .call ⟨.value (.func 37), #[.tmp 26, .const (.int .i64 2)], #[40, 3]⟩, none⟩,
  .one ⟨some 25, .move (.tmp 27), none⟩,
  .one ⟨some 28, .extract (.tmp 25) 0, none⟩,
  .one ⟨some 29, .extract (.tmp 25) 1, none⟩,
  .one ⟨some 7, .assign (.tmp 28), none⟩,
  .one ⟨some 8, .assign (.tmp 29), none⟩]
def agoralaw25_small_R6 : List Itm := [.one ⟨some 30, .move (.tmp 3), none⟩,
  .one ⟨some 31, .call ⟨.builtin .len, #[.tmp 30], #[23]⟩, none⟩,
  .one ⟨some 32, .binOp .eql 3 (.tmp 31) (.const (.int .i64 0)) 3, none⟩,
  .one ⟨some 33, .move (.tmp 32), none⟩,
  .blk 3 true [.one ⟨some 34, .move (.tmp 4), some (3, true)⟩,
  .one ⟨some 35, .unOp .not 4 (.tmp 34), some (3, true)⟩] ⟨some 36, .pick (.tmp 33) (.tmp 35) (.const (.bool false)), none⟩,
  .one ⟨some 37, .move (.tmp 36), none⟩,
  .blk 7 true [.one ⟨some 38, .move (.tmp 5), some (7, true)⟩,
  .one ⟨some 39, .move (.tmp 1), some (7, true)⟩,
  .one ⟨some 40, .buildSlice 23 1 #[(0, .tmp 39)], some (7, true)⟩,
  .one ⟨some 41, .call ⟨.value (.func 34), #[.tmp 38, .tmp 40], #[23, 23]⟩, some (7, true)⟩] ⟨some 42, .pick (.tmp 37) (.tmp 41) (.const (.bool false)), none⟩,
  .one ⟨some 43, .move (.tmp 42), none⟩,
  .blk 13 true [.one ⟨some 44, .move (.tmp 6), some (13, true)⟩] ⟨some 45, .pick (.tmp 43) (.tmp 44) (.const (.bool false)), none⟩,
  .one ⟨some 46, .move (.tmp 45), none⟩,
  .blk 16 true [.one ⟨some 47, .move (.tmp 7), some (16, true)⟩,
  .one ⟨some 48, .call ⟨.builtin .len, #[.tmp 47], #[23]⟩, some (16, true)⟩,
  .one ⟨some 49, .binOp .eql 3 (.tmp 48) (.const (.int .i64 0)) 3, some (16, true)⟩] ⟨some 50, .pick (.tmp 46) (.tmp 49) (.const (.bool false)), none⟩,
  .one ⟨some 51, .move (.tmp 50), none⟩,
  .blk 21 true [.one ⟨some 52, .move (.tmp 8), some (21, true)⟩] ⟨some 53, .pick (.tmp 51) (.tmp 52) (.const (.bool false)), none⟩,
  .one ⟨some 54, .move (.tmp 53), none⟩,
  .blk 24 true [.one ⟨some 55, .load 40 (.tmp 2), some (24, true)⟩,
  .one ⟨some 56, .call ⟨.value (.func 38), #[.tmp 55, .const (.int .i64 0), .const (.string ⟨#[]⟩)], #[40, 3, 9]⟩, some (24, true)⟩] ⟨some 57, .pick (.tmp 54) (.tmp 56) (.const (.bool false)), none⟩,
  .one ⟨some 58, .move (.tmp 57), none⟩,
  .blk 28 true [.one ⟨some 59, .load 40 (.tmp 2), some (28, true)⟩,
  .one ⟨some 60, .call ⟨.value (.func 38), #[.tmp 59, .const (.int .i64 1), .const (.string ⟨#[]⟩)], #[40, 3, 9]⟩, some (28, true)⟩,
  .one ⟨some 61, .unOp .not 4 (.tmp 60), some (28, true)⟩] ⟨some 62, .pick (.tmp 58) (.tmp 61) (.const (.bool false)), none⟩,
  .one ⟨some 63, .move (.tmp 62), none⟩,
  .blk 33 true [.one ⟨some 64, .load 40 (.tmp 2), some (33, true)⟩,
  .one ⟨some 65, .move (.tmp 1), some (33, true)⟩,
  .one ⟨some 66, .call ⟨.value (.func 38), #[.tmp 64, .const (.int .i64 1), .tmp 65], #[40, 3, 9]⟩, some (33, true)⟩] ⟨some 67, .pick (.tmp 63) (.tmp 66) (.const (.bool false)), none⟩,
  .one ⟨some 68, .move (.tmp 67), none⟩,
  .blk 38 true [.one ⟨some 69, .load 40 (.tmp 2), some (38, true)⟩,
  .one ⟨some 70, .move (.tmp 1), some (38, true)⟩,
  .one ⟨some 71, .call ⟨.value (.func 38), #[.tmp 69, .const (.int .i64 2), .tmp 70], #[40, 3, 9]⟩, some (38, true)⟩,
  .one ⟨some 72, .unOp .not 4 (.tmp 71), some (38, true)⟩] ⟨some 73, .pick (.tmp 68) (.tmp 72) (.const (.bool false)), none⟩,
  .one ⟨some 74, .move (.tmp 73), none⟩,
  .blk 44 true [.one ⟨some 75, .load 40 (.tmp 2), some (44, true)⟩,
  .one ⟨some 76, .move (.tmp 1), some (44, true)⟩,
  .one ⟨some 77, .call ⟨.value (.func 38), #[.tmp 75, .const (.int .i64 3), .tmp 76], #[40, 3, 9]⟩, some (44, true)⟩,
  .one ⟨some 78, .unOp .not 4 (.tmp 77), some (44, true)⟩] ⟨some 79, .pick (.tmp 74) (.tmp 78) (.const (.bool false)), none⟩,
  .one ⟨some 80, .move (.tmp 79), none⟩,
  .blk 50 true [.one ⟨some 81, .load 40 (.tmp 2), some (50, true)⟩,
  .one ⟨some 82, .move (.tmp 1), some (50, true)⟩,
  .one ⟨some 83, .call ⟨.value (.func 38), #[.tmp 81, .const (.int .i64 (-1)), .tmp 82], #[40, 3, 9]⟩, some (50, true)⟩,
  .one ⟨some 84, .unOp .not 4 (.tmp 83), some (50, true)⟩] ⟨some 85, .pick (.tmp 80) (.tmp 84) (.const (.bool false)), none⟩,
  .one ⟨some 0, .assign (.tmp 85), none⟩]
def agoralaw25_small_L : MCode := (.seq (.reg 0 agoralaw25_small_R0 false) (.seq (.reg 1 agoralaw25_small_R1 false) (.seq (.reg 2 agoralaw25_small_R2 false) (.seq (.reg 3 agoralaw25_small_R3 false) (.seq (.reg 4 agoralaw25_small_R4 false) (.seq (.reg 5 agoralaw25_small_R5 false) (.seq (.reg 6 agoralaw25_small_R6 false) .ret)))))))
def agoralaw25_small_ks : Nat → List Nat := fun i => match i with
  | _ => []
theorem agoralaw25_small_F : FnL Tryz.prog GW 35 86 agoralaw25_small_L [.tmp 0] agoralaw25_small_ks := ⟨⟨_, Tryz.func35, rfl, by kernel_rfl, by kernel_rfl, rfl⟩, by kernel_rfl, by kernel_rfl⟩
/-! agora/agoralaw25.short -/
def agoralaw25_short_R0 : List Itm := [.one ⟨some 1, .box 40 (.tmp 0), none⟩,
  .one ⟨some 2, .assign (.const (.bool false)), none⟩]
def agoralaw25_short_R1 : List Itm := [.one ⟨some 5, .fieldAddr 40 (.tmp 1) 1, none⟩,
  .one ⟨some 6, .load 37 (.tmp 5), none⟩,
  .one ⟨some 7, .call ⟨.builtin .len, #[.tmp 6], #[37]⟩, none⟩,
  .one ⟨some 8, .binOp .gtr 3 (.tmp 7) (.const (.int .i64 24)) 3, none⟩]
def agoralaw25_short_R2 : List Itm := [.one ⟨some 2, .assign (.const (.bool false)), none⟩]
def agoralaw25_short_R3 : List Itm := [.one ⟨some 3, .assign (.const (.int .i64 0)), none⟩]
def agoralaw25_short_R4 : List Itm := [.one ⟨some 9, .move (.tmp 3), none⟩,
  .one ⟨some 10, .fieldAddr 40 (.tmp 1) 1, none⟩,
  .one ⟨some 11, .load 37 (.tmp 10), none⟩,
  .one ⟨some 12, .call ⟨.builtin .len, #[.tmp 11], #[37]⟩, none⟩,
  .one ⟨some 13, .binOp .lss 3 (.tmp 9) (.tmp 12) 3, none⟩]
def agoralaw25_short_R6 : List Itm := [.one ⟨some 16, .fieldAddr 40 (.tmp 1) 1, none⟩,
  .one ⟨some 17, .load 37 (.tmp 16), none⟩,
  .one ⟨some 18, .move (.tmp 3), none⟩,
  .one ⟨some 19, .indexAddr 37 (.tmp 17) (.tmp 18), none⟩,
  .one ⟨some 20, .load 49 (.tmp 19), none⟩,
  .one ⟨some 4, .alloc 49, none⟩,
  .one ⟨none, .store 49 (.tmp 4) (.tmp 20), none⟩]
def agoralaw25_short_R7 : List Itm := [.one ⟨some 21, .fieldAddr 49 (.tmp 4) 9, none⟩,
  .one ⟨some 22, .load 23 (.tmp 21), none⟩,
  .one ⟨some 23, .call ⟨.builtin .len, #[.tmp 22], #[23]⟩, none⟩,
  .one ⟨some 24, .binOp .gtr 3 (.tmp 23) (.const (.int .i64 8)) 3, none⟩,
  .one ⟨some 25, .move (.tmp 24), none⟩,
  .blk 4 false [.one ⟨some 26, .fieldAddr 49 (.tmp 4) 13, some (4, false)⟩,
  .one ⟨some 27, .load 45 (.tmp 26), some (4, false)⟩,
  .one ⟨some 28, .call ⟨.builtin .len, #[.tmp 27], #[45]⟩, some (4, false)⟩,
  .one ⟨some 29, .binOp .gtr 3 (.tmp 28) (.const (.int .i64 8)) 3, some (4, false)⟩] ⟨some 30, .pick (.tmp 25) (.const (.bool true)) (.tmp 29), none⟩,
  .one ⟨some 31, .move (.tmp 30), none⟩,
  .blk 10 false [.one ⟨some 32, .fieldAddr 49 (.tmp 4) 10, some (10, false)⟩,
  .one ⟨some 33, .load 9 (.tmp 32), some (10, false)⟩,
  .one ⟨some 34, .call ⟨.builtin .len, #[.tmp 33], #[9]⟩, some (10, false)⟩,
  .one ⟨some 35, .binOp .gtr 3 (.tmp 34) (.const (.int .i64 600)) 3, some (10, false)⟩] ⟨some 36, .pick (.tmp 31) (.const (.bool true)) (.tmp 35), none⟩,
  .one ⟨some 37, .move (.tmp 36), none⟩,
  .blk 16 false [.one ⟨some 38, .fieldAddr 49 (.tmp 4) 11, some (16, false)⟩,
  .one ⟨some 39, .fieldAddr 44 (.tmp 38) 1, some (16, false)⟩,
  .one ⟨some 40, .load 9 (.tmp 39), some (16, false)⟩,
  .one ⟨some 41, .call ⟨.builtin .len, #[.tmp 40], #[9]⟩, some (16, false)⟩,
  .one ⟨some 42, .binOp .gtr 3 (.tmp 41) (.const (.int .i64 600)) 3, some (16, false)⟩] ⟨some 43, .pick (.tmp 37) (.const (.bool true)) (.tmp 42), none⟩]
def agoralaw25_short_R8 : List Itm := [.one ⟨some 2, .assign (.const (.bool false)), none⟩]
def agoralaw25_short_B1 : MCode := (.seq (.reg 6 agoralaw25_short_R6 false) (.seq (.reg 7 agoralaw25_short_R7 false) (.cond (.tmp 43) (.seq (.reg 8 agoralaw25_short_R8 false) .ret) .skip)))
def agoralaw25_short_R5 : List Itm := [.one ⟨some 14, .move (.tmp 3), none⟩,
  .one ⟨some 15, .binOp .add 3 (.tmp 14) (.const (.int .i64 1)) 3, none⟩,
  .one ⟨some 3, .assign (.tmp 15), none⟩]
def agoralaw25_short_W1 : MCode := (.seq (.seq (.reg 4 agoralaw25_short_R4 false) (.cond (.tmp 13) .skip (.exit 0))) (.seq (.block 1 agoralaw25_short_B1) (.reg 5 agoralaw25_short_R5 false)))
def agoralaw25_short_B0 : MCode := (.loop agoralaw25_short_W1)
def agoralaw25_short_R9 : List Itm := [.one ⟨some 2, .assign (.const (.bool true)), none⟩]
def agoralaw25_short_L : MCode := (.seq (.reg 0 agoralaw25_short_R0 false) (.seq (.seq (.reg 1 agoralaw25_short_R1 false) (.cond (.tmp 8) (.seq (.reg 2 agoralaw25_short_R2 false) .ret) .skip)) (.seq (.seq (.reg 3 agoralaw25_short_R3 false) (.block 0 agoralaw25_short_B0)) (.seq (.reg 9 agoralaw25_short_R9 false) .ret))))
def agoralaw25_short_ks : Nat → List Nat := fun i => match i with
  | _ => []
theorem agoralaw25_short_F : FnL Tryz.prog GW 36 44 agoralaw25_short_L [.tmp 2] agoralaw25_short_ks := ⟨⟨_, Tryz.func36, rfl, by kernel_rfl, by kernel_rfl, rfl⟩, by kernel_rfl, by kernel_rfl⟩
/-! agora/agoralaw25.few -/
def agoralaw25_few_R0 : List Itm := [.one ⟨some 2, .assign (.const (.bool false)), none⟩]
def agoralaw25_few_R1 : List Itm := [.one ⟨some 4, .move (.tmp 0), none⟩,
  .one ⟨some 5, .call ⟨.builtin .len, #[.tmp 4], #[22]⟩, none⟩,
  .one ⟨some 6, .binOp .gtr 3 (.tmp 5) (.const (.int .i64 6)) 3, none⟩]
def agoralaw25_few_R2 : List Itm := [.one ⟨some 2, .assign (.const (.bool false)), none⟩]
def agoralaw25_few_R3 : List Itm := [.one ⟨some 3, .assign (.const (.int .i64 0)), none⟩]
def agoralaw25_few_R4 : List Itm := [.one ⟨some 7, .move (.tmp 3), none⟩,
  .one ⟨some 8, .move (.tmp 0), none⟩,
  .one ⟨some 9, .call ⟨.builtin .len, #[.tmp 8], #[22]⟩, none⟩,
  .one ⟨some 10, .binOp .lss 3 (.tmp 7) (.tmp 9) 3, none⟩]
def agoralaw25_few_R6 : List Itm := [.one ⟨some 13, .move (.tmp 0), none⟩,
  .one ⟨some 14, .move (.tmp 3), none⟩,
  .one ⟨some 15, .indexAddr 22 (.tmp 13) (.tmp 14), none⟩,
  .one ⟨some 16, .load 40 (.tmp 15), none⟩,
  .one ⟨some 17, .call ⟨.value (.func 36), #[.tmp 16], #[40]⟩, none⟩,
  .one ⟨some 18, .unOp .not 4 (.tmp 17), none⟩]
def agoralaw25_few_R7 : List Itm := [.one ⟨some 2, .assign (.const (.bool false)), none⟩]
def agoralaw25_few_B1 : MCode := (.seq (.reg 6 agoralaw25_few_R6 false) (.cond (.tmp 18) (.seq (.reg 7 agoralaw25_few_R7 false) .ret) .skip))
def agoralaw25_few_R5 : List Itm := [.one ⟨some 11, .move (.tmp 3), none⟩,
  .one ⟨some 12, .binOp .add 3 (.tmp 11) (.const (.int .i64 1)) 3, none⟩,
  .one ⟨some 3, .assign (.tmp 12), none⟩]
def agoralaw25_few_W1 : MCode := (.seq (.seq (.reg 4 agoralaw25_few_R4 false) (.cond (.tmp 10) .skip (.exit 0))) (.seq (.block 1 agoralaw25_few_B1) (.reg 5 agoralaw25_few_R5 false)))
def agoralaw25_few_B0 : MCode := (.loop agoralaw25_few_W1)
def agoralaw25_few_R8 : List Itm := [.one ⟨some 2, .assign (.const (.bool true)), none⟩]
def agoralaw25_few_L : MCode := (.seq (.reg 0 agoralaw25_few_R0 false) (.seq (.seq (.reg 1 agoralaw25_few_R1 false) (.cond (.tmp 6) (.seq (.reg 2 agoralaw25_few_R2 false) .ret) .skip)) (.seq (.seq (.reg 3 agoralaw25_few_R3 false) (.block 0 agoralaw25_few_B0)) (.seq (.reg 8 agoralaw25_few_R8 false) .ret))))
def agoralaw25_few_ks : Nat → List Nat := fun i => match i with
  | _ => []
theorem agoralaw25_few_F : FnL Tryz.prog GW 41 19 agoralaw25_few_L [.tmp 2] agoralaw25_few_ks := ⟨⟨_, Tryz.func41, rfl, by kernel_rfl, by kernel_rfl, rfl⟩, by kernel_rfl, by kernel_rfl⟩
/-! slices.Contains[list of string,string] -/
def slices_Contains_Lstring_string_R0 : List Itm := [.one ⟨some 4, .assign (.const (.bool false)), none⟩]
def slices_Contains_Lstring_string_R1 : List Itm := [.one ⟨some 5, .move (.tmp 0), none⟩,
  .one ⟨some 6, .move (.tmp 1), none⟩,
  .one ⟨some 7, .call ⟨.value (.func 110), #[.tmp 5, .tmp 6], #[23, 9]⟩, none⟩,
  .one ⟨some 8, .binOp .geq 3 (.tmp 7) (.const (.int .i64 0)) 3, none⟩,
  .one ⟨some 4, .assign (.tmp 8), none⟩]
def slices_Contains_Lstring_string_L : MCode := (.seq (.reg 0 slices_Contains_Lstring_string_R0 false) (.seq (.reg 1 slices_Contains_Lstring_string_R1 false) .ret))
def slices_Contains_Lstring_string_ks : Nat → List Nat := fun i => match i with
  | _ => []
theorem slices_Contains_Lstring_string_F : FnL Tryz.prog GW 72 9 slices_Contains_Lstring_string_L [.tmp 4] slices_Contains_Lstring_string_ks := ⟨⟨_, Tryz.func72, rfl, by kernel_rfl, by kernel_rfl, rfl⟩, by kernel_rfl, by kernel_rfl⟩
/-! slices.Index[list of string,string] -/
def slices_Index_Lstring_string_R0 : List Itm := [.one ⟨some 4, .assign (.const (.int .i64 0)), none⟩]
def slices_Index_Lstring_string_R1 : List Itm := [.one ⟨some 6, .move (.tmp 0), none⟩,
  .one ⟨some 7, .call ⟨.builtin .len, #[.tmp 6], #[23]⟩, none⟩,
  .one ⟨some 8, .move (.const (.int .i64 0)), none⟩]
def slices_Index_Lstring_string_R2 : List Itm := [.one ⟨some 9, .binOp .lss 3 (.tmp 8) (.tmp 7) 3, none⟩]
def slices_Index_Lstring_string_R3 : List Itm := [.one ⟨some 10, .move (.tmp 8), none⟩,
  .one ⟨some 5, .assign (.tmp 10), none⟩]
def slices_Index_Lstring_string_R4 : List Itm := [.one ⟨some 11, .move (.tmp 1), none⟩,
  .one ⟨some 12, .move (.tmp 0), none⟩,
  .one ⟨some 13, .move (.tmp 5), none⟩,
  .one ⟨some 14, .indexAddr 23 (.tmp 12) (.tmp 13), none⟩,
  .one ⟨some 15, .load 9 (.tmp 14), none⟩,
  .one ⟨some 16, .binOp .eql 9 (.tmp 11) (.tmp 15) 9, none⟩]
def slices_Index_Lstring_string_R5 : List Itm := [.one ⟨some 17, .move (.tmp 5), none⟩,
  .one ⟨some 4, .assign (.tmp 17), none⟩]
def slices_Index_Lstring_string_B1 : MCode := (.seq (.reg 3 slices_Index_Lstring_string_R3 false) (.seq (.reg 4 slices_Index_Lstring_string_R4 false) (.cond (.tmp 16) (.seq (.reg 5 slices_Index_Lstring_string_R5 false) .ret) .skip)))
def slices_Index_Lstring_string_R6 : List Itm := [.one ⟨some 18, .binOp .add 3 (.tmp 8) (.const (.int .i64 1)) 3, none⟩,
  .one ⟨some 8, .move (.tmp 18), none⟩]
def slices_Index_Lstring_string_W1 : MCode := (.seq (.reg 2 slices_Index_Lstring_string_R2 false) (.seq (.cond (.tmp 9) .skip (.exit 0)) (.seq (.block 1 slices_Index_Lstring_string_B1) (.reg 6 slices_Index_Lstring_string_R6 false))))
def slices_Index_Lstring_string_B0 : MCode := (.loop slices_Index_Lstring_string_W1)
def slices_Index_Lstring_string_R7 : List Itm := [.one ⟨some 4, .assign (.const (.int .i64 (-1))), none⟩]
def slices_Index_Lstring_string_L : MCode := (.seq (.reg 0 slices_Index_Lstring_string_R0 false) (.seq (.seq (.reg 1 slices_Index_Lstring_string_R1 false) (.block 0 slices_Index_Lstring_string_B0)) (.seq (.reg 7 slices_Index_Lstring_string_R7 false) .ret)))
def slices_Index_Lstring_string_ks : Nat → List Nat := fun i => match i with
  | _ => []
theorem slices_Index_Lstring_string_F : FnL Tryz.prog GW 110 19 slices_Index_Lstring_string_L [.tmp 4] slices_Index_Lstring_string_ks := ⟨⟨_, Tryz.func110, rfl, by kernel_rfl, by kernel_rfl, rfl⟩, by kernel_rfl, by kernel_rfl⟩
end Go.Proofs.YthkmfboffnhkaaaGreatDoor
