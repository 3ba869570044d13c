/-
  The light code of functions: printed by wip/tools/gen.py.
-/
import Derived.Test.YthkmfboffnhkaaaGreatDoorTY4
namespace Go.Proofs.YthkmfboffnhkaaaGreatDoor
open Go Go.L1
set_option linter.all false
set_option maxRecDepth 100000
/-! agora/chain.Cut -/
def chain_Cut_R0 : List Itm := [.one ⟨some 2, .box 40 (.tmp 0), none⟩,
  .one ⟨some 4, .alloc 40, none⟩]
def chain_Cut_R1 : List Itm := [.one ⟨some 11, .move (.tmp 1), none⟩,
  .one ⟨some 12, .binOp .lss 3 (.tmp 11) (.const (.int .i64 1)) 3, none⟩,
  .one ⟨some 10, .assign (.tmp 12), none⟩]
def chain_Cut_R2 : List Itm := [.one ⟨some 13, .fieldAddr 40 (.tmp 2) 0, none⟩,
  .one ⟨some 14, .load 9 (.tmp 13), none⟩,
  .one ⟨some 15, .build 40 #[(0, .tmp 14)], none⟩,
  .one ⟨none, .store 40 (.tmp 4) (.tmp 15), none⟩]
def chain_Cut_R3 : List Itm := [.one ⟨some 17, .move (.tmp 1), none⟩,
  .one ⟨some 18, .fieldAddr 40 (.tmp 2) 1, none⟩,
  .one ⟨some 19, .load 37 (.tmp 18), none⟩,
  .one ⟨some 20, .call ⟨.builtin .len, #[.tmp 19], #[37]⟩, none⟩,
  .one ⟨some 21, .binOp .geq 3 (.tmp 17) (.tmp 20) 3, none⟩,
  .one ⟨some 16, .assign (.tmp 21), none⟩]
def chain_Cut_R4 : List Itm := [.one ⟨some 22, .load 40 (.tmp 2), none⟩,
  .one ⟨none, .store 40 (.tmp 4) (.tmp 22), none⟩]
def chain_Cut_B0 : MCode := (.seq (.reg 1 chain_Cut_R1 false) (.cond (.tmp 10) (.seq (.reg 2 chain_Cut_R2 false) .ret) (.seq (.reg 3 chain_Cut_R3 false) (.cond (.tmp 16) (.seq (.reg 4 chain_Cut_R4 false) .ret) .skip))))
def chain_Cut_R5 : List Itm := [.one ⟨some 23, .fieldAddr 40 (.tmp 2) 0, none⟩,
  .one ⟨some 24, .load 9 (.tmp 23), none⟩,
  .one ⟨some 25, .fieldAddr 40 (.tmp 2) 1, none⟩,
  .one ⟨some 26, .load 37 (.tmp 25), none⟩,
  .one ⟨some 27, .move (.tmp 1), none⟩,
  .one ⟨some 28, .move (.tmp 1), none⟩,
  .one ⟨some 29, .slice 37 (.tmp 26) none (some (.tmp 27)) (some (.tmp 28)), none⟩,
  .one ⟨some 30, .fieldAddr 40 (.tmp 2) 1, none⟩,
  .one ⟨some 31, .load 37 (.tmp 30), none⟩,
  .one ⟨some 32, .move (.tmp 1), none⟩,
  .one ⟨some 33, .indexAddr 37 (.tmp 31) (.tmp 32), none⟩,
  .one ⟨some 34, .fieldAddr 49 (.tmp 33) 2, none⟩,
  .one ⟨some 35, .load 9 (.tmp 34), none⟩,
  .one ⟨some 36, .build 40 #[(0, .tmp 24), (1, .tmp 29), (3, .tmp 35), (4, .const (.int .i64 (-1)))], none⟩,
  .one ⟨some 5, .alloc 40, none⟩,
  .one ⟨none, .store 40 (.tmp 5) (.tmp 36), none⟩]
def chain_Cut_R6 : List Itm := [.one ⟨some 37, .fieldAddr 40 (.tmp 2) 2, none⟩,
  .one ⟨some 38, .load 38 (.tmp 37), none⟩,
  .one ⟨some 39, .call ⟨.builtin .len, #[.tmp 38], #[38]⟩, none⟩,
  .one ⟨some 40, .move (.const (.int .i64 0)), none⟩]
def chain_Cut_R7 : List Itm := [.one ⟨some 41, .binOp .lss 3 (.tmp 40) (.tmp 39) 3, none⟩]
def chain_Cut_R8 : List Itm := [.one ⟨some 42, .indexAddr 38 (.tmp 38) (.tmp 40), none⟩,
  .one ⟨some 43, .load 133 (.tmp 42), none⟩,
  .one ⟨some 7, .alloc 133, none⟩,
  .one ⟨none, .store 133 (.tmp 7) (.tmp 43), none⟩]
def chain_Cut_R9 : List Itm := [.one ⟨some 44, .fieldAddr 133 (.tmp 7) 0, none⟩,
  .one ⟨some 45, .load 3 (.tmp 44), none⟩,
  .one ⟨some 46, .move (.tmp 1), none⟩,
  .one ⟨some 47, .binOp .leq 3 (.tmp 45) (.tmp 46) 3, none⟩]
def chain_Cut_R10 : List Itm := [.one ⟨some 48, .fieldAddr 40 (.tmp 5) 2, none⟩,
  .one ⟨some 49, .load 38 (.tmp 48), none⟩,
  .one ⟨some 50, .load 133 (.tmp 7), none⟩,
  .one ⟨some 51, .buildSlice 38 1 #[(0, .tmp 50)], none⟩,
  .one ⟨some 52, .call ⟨.builtin .append, #[.tmp 49, .tmp 51], #[38, 38]⟩, none⟩,
  .one ⟨some 53, .fieldAddr 40 (.tmp 5) 2, none⟩,
  .one ⟨none, .store 38 (.tmp 53) (.tmp 52), none⟩]
def chain_Cut_R11 : List Itm := [.one ⟨some 54, .fieldAddr 40 (.tmp 5) 4, none⟩,
  .one ⟨some 55, .load 3 (.tmp 54), none⟩,
  .one ⟨some 56, .binOp .add 3 (.tmp 55) (.const (.int .i64 1)) 3, none⟩,
  .one ⟨some 57, .fieldAddr 40 (.tmp 5) 4, none⟩,
  .one ⟨none, .store 3 (.tmp 57) (.tmp 56), none⟩]
def chain_Cut_B2 : MCode := (.seq (.reg 8 chain_Cut_R8 false) (.seq (.reg 9 chain_Cut_R9 false) (.cond (.tmp 47) (.seq (.reg 10 chain_Cut_R10 false) (.reg 11 chain_Cut_R11 false)) .skip)))
def chain_Cut_R12 : List Itm := [.one ⟨some 58, .binOp .add 3 (.tmp 40) (.const (.int .i64 1)) 3, none⟩,
  .one ⟨some 40, .move (.tmp 58), none⟩]
def chain_Cut_W1 : MCode := (.seq (.reg 7 chain_Cut_R7 false) (.seq (.cond (.tmp 41) .skip (.exit 1)) (.seq (.block 2 chain_Cut_B2) (.reg 12 chain_Cut_R12 false))))
def chain_Cut_B1 : MCode := (.loop chain_Cut_W1)
def chain_Cut_R13 : List Itm := [.one ⟨some 59, .fieldAddr 40 (.tmp 5) 1, none⟩,
  .one ⟨some 60, .load 37 (.tmp 59), none⟩,
  .one ⟨some 61, .call ⟨.builtin .len, #[.tmp 60], #[37]⟩, none⟩,
  .one ⟨some 62, .move (.const (.int .i64 0)), none⟩]
def chain_Cut_R14 : List Itm := [.one ⟨some 63, .binOp .lss 3 (.tmp 62) (.tmp 61) 3, none⟩]
def chain_Cut_R15 : List Itm := [.one ⟨some 64, .indexAddr 37 (.tmp 60) (.tmp 62), none⟩,
  .one ⟨some 65, .load 49 (.tmp 64), none⟩,
  .one ⟨some 9, .alloc 49, none⟩,
  .one ⟨none, .store 49 (.tmp 9) (.tmp 65), none⟩]
def chain_Cut_R16 : List Itm := [.one ⟨some 66, .fieldAddr 49 (.tmp 9) 3, none⟩,
  .one ⟨some 67, .load 3 (.tmp 66), none⟩,
  .one ⟨some 68, .binOp .eql 3 (.tmp 67) (.const (.int .i64 18)) 3, none⟩]
def chain_Cut_R17 : List Itm := [.one ⟨some 69, .fieldAddr 40 (.tmp 5) 4, none⟩,
  .one ⟨some 70, .load 3 (.tmp 69), none⟩,
  .one ⟨some 71, .binOp .sub 3 (.tmp 70) (.const (.int .i64 1)) 3, none⟩,
  .one ⟨some 72, .fieldAddr 40 (.tmp 5) 4, none⟩,
  .one ⟨none, .store 3 (.tmp 72) (.tmp 71), none⟩]
def chain_Cut_B4 : MCode := (.seq (.reg 15 chain_Cut_R15 false) (.seq (.reg 16 chain_Cut_R16 false) (.cond (.tmp 68) (.reg 17 chain_Cut_R17 false) .skip)))
def chain_Cut_R18 : List Itm := [.one ⟨some 73, .binOp .add 3 (.tmp 62) (.const (.int .i64 1)) 3, none⟩,
  .one ⟨some 62, .move (.tmp 73), none⟩]
def chain_Cut_W2 : MCode := (.seq (.reg 14 chain_Cut_R14 false) (.seq (.cond (.tmp 63) .skip (.exit 3)) (.seq (.block 4 chain_Cut_B4) (.reg 18 chain_Cut_R18 false))))
def chain_Cut_B3 : MCode := (.loop chain_Cut_W2)
def chain_Cut_R19 : List Itm := [.one ⟨some 74, .fieldAddr 40 (.tmp 5) 4, none⟩,
  .one ⟨some 75, .load 3 (.tmp 74), none⟩,
  .one ⟨some 76, .call ⟨.builtin .max, #[.tmp 75, .const (.int .i64 0)], #[3, 3]⟩, none⟩,
  .one ⟨some 77, .fieldAddr 40 (.tmp 5) 4, none⟩,
  .one ⟨none, .store 3 (.tmp 77) (.tmp 76), none⟩]
def chain_Cut_R20 : List Itm := [.one ⟨some 78, .load 40 (.tmp 5), none⟩,
  .one ⟨none, .store 40 (.tmp 4) (.tmp 78), none⟩]
def chain_Cut_L : MCode := (.seq (.reg 0 chain_Cut_R0 false) (.seq (.block 0 chain_Cut_B0) (.seq (.reg 5 chain_Cut_R5 true) (.seq (.seq (.reg 6 chain_Cut_R6 false) (.block 1 chain_Cut_B1)) (.seq (.seq (.reg 13 chain_Cut_R13 false) (.block 3 chain_Cut_B3)) (.seq (.reg 19 chain_Cut_R19 false) (.seq (.reg 20 chain_Cut_R20 false) .ret)))))))
def chain_Cut_ks : Nat → List Nat := fun i => match i with
  | 5 => [0, 0, 0, 0, 0, 0, 0, 0, 0, 0, 0, 0, 0, 2, 0, 3]
  | _ => []
theorem chain_Cut_F : FnL Tryz.prog GW 43 79 chain_Cut_L [.cell 4 40] chain_Cut_ks := ⟨⟨_, Tryz.func43, rfl, by kernel_rfl, by kernel_rfl, rfl⟩, by kernel_rfl, by kernel_rfl⟩
/-! agora/agoralaw25.ReachKeeps -/
def agoralaw25_ReachKeeps_R0 : List Itm := [.one ⟨some 5, .box 40 (.tmp 0), none⟩,
  .one ⟨some 10, .assign (.const (.bool false)), none⟩]
def agoralaw25_ReachKeeps_R1 : List Itm := [.one ⟨some 21, .call ⟨.value (.func 35), #[], #[]⟩, none⟩,
  .one ⟨some 11, .assign (.tmp 21), none⟩]
def agoralaw25_ReachKeeps_R2 : List Itm := [.one ⟨some 22, .load 40 (.tmp 5), none⟩,
  .one ⟨some 23, .call ⟨.value (.func 36), #[.tmp 22], #[40]⟩, none⟩,
  .one ⟨some 24, .unOp .not 4 (.tmp 23), none⟩,
  .one ⟨some 25, .move (.tmp 24), none⟩,
  .blk 3 false [.one ⟨some 26, .move (.tmp 4), some (3, false)⟩,
  .one ⟨some 27, .build 40 #[(1, .tmp 26)], some (3, false)⟩,
  .one ⟨some 28, .call ⟨.value (.func 36), #[.tmp 27], #[40]⟩, some (3, false)⟩,
  .one ⟨some 29, .unOp .not 4 (.tmp 28), some (3, false)⟩] ⟨some 30, .pick (.tmp 25) (.const (.bool true)) (.tmp 29), none⟩,
  .one ⟨some 31, .move (.tmp 30), none⟩,
  .blk 9 false [.one ⟨some 32, .move (.tmp 1), some (9, false)⟩,
  .one ⟨some 33, .binOp .lss 3 (.tmp 32) (.const (.int .i64 0)) 3, some (9, false)⟩] ⟨some 34, .pick (.tmp 31) (.const (.bool true)) (.tmp 33), none⟩,
  .one ⟨some 35, .move (.tmp 34), none⟩,
  .blk 13 false [.one ⟨some 36, .move (.tmp 2), some (13, false)⟩,
  .one ⟨some 37, .move (.tmp 1), some (13, false)⟩,
  .one ⟨some 38, .binOp .leq 3 (.tmp 36) (.tmp 37) 3, some (13, false)⟩] ⟨some 39, .pick (.tmp 35) (.const (.bool true)) (.tmp 38), none⟩,
  .one ⟨some 40, .move (.tmp 39), none⟩,
  .blk 18 false [.one ⟨some 41, .move (.tmp 2), some (18, false)⟩,
  .one ⟨some 42, .fieldAddr 40 (.tmp 5) 1, some (18, false)⟩,
  .one ⟨some 43, .load 37 (.tmp 42), some (18, false)⟩,
  .one ⟨some 44, .call ⟨.builtin .len, #[.tmp 43], #[37]⟩, some (18, false)⟩,
  .one ⟨some 45, .binOp .gtr 3 (.tmp 41) (.tmp 44) 3, some (18, false)⟩] ⟨some 46, .pick (.tmp 40) (.const (.bool true)) (.tmp 45), none⟩]
def agoralaw25_ReachKeeps_R3 : List Itm := [.one ⟨some 47, .move (.tmp 11), none⟩,
  .one ⟨some 10, .assign (.tmp 47), none⟩]
def agoralaw25_ReachKeeps_R4 : List Itm := [.one ⟨some 48, .load 40 (.tmp 5), none⟩,
  .one ⟨some 49, .move (.tmp 2), none⟩,
  .one ⟨some 50, .call ⟨.value (.func 43), #[.tmp 48, .tmp 49], #[40, 3]⟩, none⟩,
  .one ⟨some 12, .alloc 40, none⟩,
  .one ⟨none, .store 40 (.tmp 12) (.tmp 50), none⟩]
def agoralaw25_ReachKeeps_R5 : List Itm := [.one ⟨some 51, .load 40 (.tmp 12), none⟩,
  .one ⟨some 13, .alloc 40, none⟩,
  .one ⟨none, .store 40 (.tmp 13) (.tmp 51), none⟩]
def agoralaw25_ReachKeeps_R6 : List Itm := [.one ⟨some 52, .buildSlice 37 0 #[], none⟩,
  .one ⟨some 53, .fieldAddr 40 (.tmp 12) 1, none⟩,
  .one ⟨some 54, .load 37 (.tmp 53), none⟩,
  .one ⟨some 55, .call ⟨.builtin .append, #[.tmp 52, .tmp 54], #[37, 37]⟩, none⟩,
  .one ⟨some 56, .move (.tmp 4), none⟩,
  .one ⟨some 57, .call ⟨.builtin .append, #[.tmp 55, .tmp 56], #[37, 37]⟩, none⟩,
  .one ⟨some 58, .fieldAddr 40 (.tmp 13) 1, none⟩,
  .one ⟨none, .store 37 (.tmp 58) (.tmp 57), none⟩]
def agoralaw25_ReachKeeps_R7 : List Itm := [.one ⟨some 60, .load 40 (.tmp 5), none⟩,
  .one ⟨some 61, .move (.tmp 1), none⟩,
  .one ⟨some 62, .call ⟨.value (.func 37), #[.tmp 60, .tmp 61], #[40, 3]⟩, none⟩,
  .one ⟨some 59, .move (.tmp 62), none⟩,
  .one ⟨some 63, .extract (.tmp 59) 0, none⟩,
  .one ⟨some 64, .extract (.tmp 59) 1, none⟩,
  .one ⟨some 14, .assign (.tmp 63), none⟩,
  .one ⟨some 15, .assign (.tmp 64), none⟩]
def agoralaw25_ReachKeeps_R8 : List Itm := [.one ⟨some 66, .load 40 (.tmp 12), none⟩,
  .one ⟨some 67, .move (.tmp 1), none⟩,
  .one ⟨some 68, .call ⟨.value (.func 37), #[.tmp 66, .tmp 67], #[40, 3]⟩, none⟩,
  .one ⟨some 65, .move (.tmp 68), none⟩,
  .one ⟨some 69, .extract (.tmp 65) 0, none⟩,
  .one ⟨some 70, .extract (.tmp 65) 1, none⟩,
  .one ⟨some 16, .assign (.tmp 69), none⟩,
  .one ⟨some 17, .assign (.tmp 70), none⟩]
def agoralaw25_ReachKeeps_R9 : List Itm := [.one ⟨some 72, .load 40 (.tmp 13), none⟩,
  .one ⟨some 73, .move (.tmp 1), none⟩,
  .one ⟨some 74, .call ⟨.value (.func 37), #[.tmp 72, .tmp 73], #[40, 3]⟩, none⟩,
  .one ⟨some 71, .move (.tmp 74), none⟩,
  .one ⟨some 75, .extract (.tmp 71) 0, none⟩,
  .one ⟨some 76, .extract (.tmp 71) 1, none⟩,
  .one ⟨some 18, .assign (.tmp 75), none⟩,
  .one ⟨some 19, .assign (.tmp 76), none⟩]
def agoralaw25_ReachKeeps_R10 : List Itm := [.one ⟨some 77, .load 40 (.tmp 5), none⟩,
  .one ⟨some 78, .move (.tmp 1), none⟩,
  .one ⟨some 79, .move (.tmp 3), none⟩,
  .one ⟨some 80, .call ⟨.value (.func 38), #[.tmp 77, .tmp 78, .tmp 79], #[40, 3, 9]⟩, none⟩,
  .one ⟨some 20, .assign (.tmp 80), none⟩]
def agoralaw25_ReachKeeps_R11 : List Itm := [.one ⟨some 81, .move (.tmp 11), none⟩,
  .one ⟨some 82, .move (.tmp 81), none⟩,
  .blk 1 true [.one ⟨some 83, .move (.tmp 15), some (1, true)⟩,
  .one ⟨some 84, .move (.tmp 17), some (1, true)⟩,
  .one ⟨some 85, .binOp .eql 4 (.tmp 83) (.tmp 84) 4, some (1, true)⟩] ⟨some 86, .pick (.tmp 82) (.tmp 85) (.const (.bool false)), none⟩,
  .one ⟨some 87, .move (.tmp 86), none⟩,
  .blk 6 true [.one ⟨some 88, .move (.tmp 15), some (6, true)⟩,
  .one ⟨some 89, .move (.tmp 19), some (6, true)⟩,
  .one ⟨some 90, .binOp .eql 4 (.tmp 88) (.tmp 89) 4, some (6, true)⟩] ⟨some 91, .pick (.tmp 87) (.tmp 90) (.const (.bool false)), none⟩,
  .one ⟨some 92, .move (.tmp 91), none⟩,
  .blk 11 true [.one ⟨some 93, .move (.tmp 14), some (11, true)⟩,
  .one ⟨some 94, .move (.tmp 16), some (11, true)⟩,
  .one ⟨some 95, .call ⟨.value (.func 34), #[.tmp 93, .tmp 94], #[23, 23]⟩, some (11, true)⟩] ⟨some 96, .pick (.tmp 92) (.tmp 95) (.const (.bool false)), none⟩,
  .one ⟨some 97, .move (.tmp 96), none⟩,
  .blk 16 true [.one ⟨some 98, .move (.tmp 14), some (16, true)⟩,
  .one ⟨some 99, .move (.tmp 18), some (16, true)⟩,
  .one ⟨some 100, .call ⟨.value (.func 34), #[.tmp 98, .tmp 99], #[23, 23]⟩, some (16, true)⟩] ⟨some 101, .pick (.tmp 97) (.tmp 100) (.const (.bool false)), none⟩,
  .one ⟨some 102, .move (.tmp 101), none⟩,
  .blk 21 true [.one ⟨some 103, .move (.tmp 20), some (21, true)⟩,
  .one ⟨some 104, .load 40 (.tmp 12), some (21, true)⟩,
  .one ⟨some 105, .move (.tmp 1), some (21, true)⟩,
  .one ⟨some 106, .move (.tmp 3), some (21, true)⟩,
  .one ⟨some 107, .call ⟨.value (.func 38), #[.tmp 104, .tmp 105, .tmp 106], #[40, 3, 9]⟩, some (21, true)⟩,
  .one ⟨some 108, .binOp .eql 4 (.tmp 103) (.tmp 107) 4, some (21, true)⟩] ⟨some 109, .pick (.tmp 102) (.tmp 108) (.const (.bool false)), none⟩,
  .one ⟨some 110, .move (.tmp 109), none⟩,
  .blk 29 true [.one ⟨some 111, .move (.tmp 20), some (29, true)⟩,
  .one ⟨some 112, .load 40 (.tmp 13), some (29, true)⟩,
  .one ⟨some 113, .move (.tmp 1), some (29, true)⟩,
  .one ⟨some 114, .move (.tmp 3), some (29, true)⟩,
  .one ⟨some 115, .call ⟨.value (.func 38), #[.tmp 112, .tmp 113, .tmp 114], #[40, 3, 9]⟩, some (29, true)⟩,
  .one ⟨some 116, .binOp .eql 4 (.tmp 111) (.tmp 115) 4, some (29, true)⟩] ⟨some 117, .pick (.tmp 110) (.tmp 116) (.const (.bool false)), none⟩,
  .one ⟨some 10, .assign (.tmp 117), none⟩]
def agoralaw25_ReachKeeps_L : MCode := (.seq (.reg 0 agoralaw25_ReachKeeps_R0 false) (.seq (.reg 1 agoralaw25_ReachKeeps_R1 false) (.seq (.seq (.reg 2 agoralaw25_ReachKeeps_R2 false) (.cond (.tmp 46) (.seq (.reg 3 agoralaw25_ReachKeeps_R3 false) .ret) .skip)) (.seq (.reg 4 agoralaw25_ReachKeeps_R4 false) (.seq (.reg 5 agoralaw25_ReachKeeps_R5 false) (.seq (.reg 6 agoralaw25_ReachKeeps_R6 false) (.seq (.reg 7 agoralaw25_ReachKeeps_R7 false) (.seq (.reg 8 agoralaw25_ReachKeeps_R8 false) (.seq (.reg 9 agoralaw25_ReachKeeps_R9 false) (.seq (.reg 10 agoralaw25_ReachKeeps_R10 false) (.seq (.reg 11 agoralaw25_ReachKeeps_R11 false) .ret)))))))))))
def agoralaw25_ReachKeeps_ks : Nat → List Nat := fun i => match i with
  | _ => []
theorem agoralaw25_ReachKeeps_F : FnL Tryz.prog GW 12 118 agoralaw25_ReachKeeps_L [.tmp 10] agoralaw25_ReachKeeps_ks := ⟨⟨_, Tryz.func12, rfl, by kernel_rfl, by kernel_rfl, rfl⟩, by kernel_rfl, by kernel_rfl⟩
end Go.Proofs.YthkmfboffnhkaaaGreatDoor
