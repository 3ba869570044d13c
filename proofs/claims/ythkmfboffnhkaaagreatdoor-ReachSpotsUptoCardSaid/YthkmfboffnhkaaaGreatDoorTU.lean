/-
  The light code of functions: printed by wip/tools/gen.py.
-/
import Derived.Test.YthkmfboffnhkaaaGreatDoorTY4
namespace Go.Proofs.YthkmfboffnhkaaaGreatDoor
open Go Go.L1
set_option linter.all false
set_option maxRecDepth 100000
/-! agora/agoralaw25.ReachSpots -/
def agoralaw25_ReachSpots_R0 : List Itm := [.one ⟨some 4, .assign (.const (.bool false)), none⟩]
def agoralaw25_ReachSpots_R1 : List Itm := [.one ⟨some 13, .call ⟨.value (.func 35), #[], #[]⟩, none⟩,
  .one ⟨some 5, .assign (.tmp 13), none⟩]
def agoralaw25_ReachSpots_R2 : List Itm := [.one ⟨some 14, .move (.tmp 0), none⟩,
  .one ⟨some 15, .call ⟨.value (.func 41), #[.tmp 14], #[22]⟩, none⟩,
  .one ⟨some 16, .unOp .not 4 (.tmp 15), none⟩]
def agoralaw25_ReachSpots_R3 : List Itm := [.one ⟨some 17, .move (.tmp 5), none⟩,
  .one ⟨some 4, .assign (.tmp 17), none⟩]
def agoralaw25_ReachSpots_R4 : List Itm := [.one ⟨some 18, .move (.tmp 0), none⟩,
  .one ⟨some 19, .move (.tmp 1), none⟩,
  .one ⟨some 20, .call ⟨.value (.func 42), #[.tmp 18, .tmp 19], #[22, 9]⟩, none⟩,
  .one ⟨some 6, .assign (.tmp 20), none⟩]
def agoralaw25_ReachSpots_R5 : List Itm := [.one ⟨some 7, .assign (.const (.int .i64 0)), none⟩]
def agoralaw25_ReachSpots_R6 : List Itm := [.one ⟨some 8, .assign (.const (.int .i64 0)), none⟩]
def agoralaw25_ReachSpots_R7 : List Itm := [.one ⟨some 9, .assign (.const (.int .i64 0)), none⟩]
def agoralaw25_ReachSpots_R8 : List Itm := [.one ⟨some 21, .move (.tmp 9), none⟩,
  .one ⟨some 22, .move (.tmp 0), none⟩,
  .one ⟨some 23, .call ⟨.builtin .len, #[.tmp 22], #[22]⟩, none⟩,
  .one ⟨some 24, .binOp .lss 3 (.tmp 21) (.tmp 23) 3, none⟩]
def agoralaw25_ReachSpots_R10 : List Itm := [.one ⟨some 10, .assign (.const (.int .i64 0)), none⟩]
def agoralaw25_ReachSpots_R11 : List Itm := [.one ⟨some 11, .assign (.const (.int .i64 0)), none⟩]
def agoralaw25_ReachSpots_R12 : List Itm := [.one ⟨some 27, .move (.tmp 11), none⟩,
  .one ⟨some 28, .move (.tmp 0), none⟩,
  .one ⟨some 29, .move (.tmp 9), none⟩,
  .one ⟨some 30, .indexAddr 22 (.tmp 28) (.tmp 29), none⟩,
  .one ⟨some 31, .fieldAddr 40 (.tmp 30) 1, none⟩,
  .one ⟨some 32, .load 37 (.tmp 31), none⟩,
  .one ⟨some 33, .call ⟨.builtin .len, #[.tmp 32], #[37]⟩, none⟩,
  .one ⟨some 34, .binOp .lss 3 (.tmp 27) (.tmp 33) 3, none⟩]
def agoralaw25_ReachSpots_R14 : List Itm := [.one ⟨some 37, .move (.tmp 0), none⟩,
  .one ⟨some 38, .move (.tmp 9), none⟩,
  .one ⟨some 39, .indexAddr 22 (.tmp 37) (.tmp 38), none⟩,
  .one ⟨some 40, .fieldAddr 40 (.tmp 39) 1, none⟩,
  .one ⟨some 41, .load 37 (.tmp 40), none⟩,
  .one ⟨some 42, .move (.tmp 11), none⟩,
  .one ⟨some 43, .indexAddr 37 (.tmp 41) (.tmp 42), none⟩,
  .one ⟨some 44, .load 49 (.tmp 43), none⟩,
  .one ⟨some 12, .alloc 49, none⟩,
  .one ⟨none, .store 49 (.tmp 12) (.tmp 44), none⟩]
def agoralaw25_ReachSpots_R15 : List Itm := [.one ⟨some 45, .fieldAddr 49 (.tmp 12) 3, none⟩,
  .one ⟨some 46, .load 3 (.tmp 45), none⟩,
  .one ⟨some 47, .call ⟨.value (.func 32), #[.tmp 46], #[3]⟩, none⟩,
  .one ⟨some 48, .unOp .not 4 (.tmp 47), none⟩,
  .one ⟨some 49, .move (.tmp 48), none⟩,
  .blk 4 true [.one ⟨some 50, .fieldAddr 49 (.tmp 12) 3, some (4, true)⟩,
  .one ⟨some 51, .load 3 (.tmp 50), some (4, true)⟩,
  .one ⟨some 52, .binOp .neq 3 (.tmp 51) (.const (.int .i64 14)) 3, some (4, true)⟩] ⟨some 53, .pick (.tmp 49) (.tmp 52) (.const (.bool false)), none⟩]
def agoralaw25_ReachSpots_R16 : List Itm := [.one ⟨some 54, .move (.tmp 10), none⟩,
  .one ⟨some 55, .binOp .add 3 (.tmp 54) (.const (.int .i64 1)) 3, none⟩,
  .one ⟨some 10, .assign (.tmp 55), none⟩]
def agoralaw25_ReachSpots_R17 : List Itm := [.one ⟨some 56, .fieldAddr 49 (.tmp 12) 7, none⟩,
  .one ⟨some 57, .load 3 (.tmp 56), none⟩,
  .one ⟨some 58, .binOp .eql 3 (.tmp 57) (.const (.int .i64 0)) 3, none⟩]
def agoralaw25_ReachSpots_R18 : List Itm := [.one ⟨some 59, .move (.tmp 8), none⟩,
  .one ⟨some 60, .binOp .add 3 (.tmp 59) (.const (.int .i64 1)) 3, none⟩,
  .one ⟨some 8, .assign (.tmp 60), none⟩]
def agoralaw25_ReachSpots_R19 : List Itm := [.one ⟨some 61, .move (.tmp 0), none⟩,
  .one ⟨some 62, .move (.tmp 9), none⟩,
  .one ⟨some 63, .indexAddr 22 (.tmp 61) (.tmp 62), none⟩,
  .one ⟨some 64, .load 40 (.tmp 63), none⟩,
  .one ⟨some 65, .move (.tmp 11), none⟩,
  .one ⟨some 66, .move (.tmp 1), none⟩,
  .one ⟨some 67, .call ⟨.value (.func 38), #[.tmp 64, .tmp 65, .tmp 66], #[40, 3, 9]⟩, none⟩,
  .one ⟨some 68, .unOp .not 4 (.tmp 67), none⟩]
def agoralaw25_ReachSpots_R20 : List Itm := [.one ⟨some 69, .move (.tmp 7), none⟩,
  .one ⟨some 70, .move (.tmp 6), none⟩,
  .one ⟨some 71, .call ⟨.builtin .len, #[.tmp 70], #[75]⟩, none⟩,
  .one ⟨some 72, .binOp .geq 3 (.tmp 69) (.tmp 71) 3, none⟩,
  .one ⟨some 73, .move (.tmp 72), none⟩,
  .blk 4 false [.one ⟨some 74, .move (.tmp 6), some (4, false)⟩,
  .one ⟨some 75, .move (.tmp 7), some (4, false)⟩,
  .one ⟨some 76, .indexAddr 75 (.tmp 74) (.tmp 75), some (4, false)⟩,
  .one ⟨some 77, .load 78 (.tmp 76), some (4, false)⟩,
  .one ⟨some 78, .move (.tmp 0), some (4, false)⟩,
  .one ⟨some 79, .move (.tmp 9), some (4, false)⟩,
  .one ⟨some 80, .indexAddr 22 (.tmp 78) (.tmp 79), some (4, false)⟩,
  .one ⟨some 81, .fieldAddr 40 (.tmp 80) 0, some (4, false)⟩,
  .one ⟨some 82, .load 9 (.tmp 81), some (4, false)⟩,
  .one ⟨some 83, .move (.tmp 11), some (4, false)⟩,
  .one ⟨some 84, .build 78 #[(0, .tmp 82), (1, .tmp 83)], some (4, false)⟩,
  .one ⟨some 85, .binOp .neq 78 (.tmp 77) (.tmp 84) 78, some (4, false)⟩] ⟨some 86, .pick (.tmp 73) (.const (.bool true)) (.tmp 85), none⟩]
def agoralaw25_ReachSpots_R21 : List Itm := [.one ⟨some 4, .assign (.const (.bool false)), none⟩]
def agoralaw25_ReachSpots_R22 : List Itm := [.one ⟨some 87, .move (.tmp 7), none⟩,
  .one ⟨some 88, .binOp .add 3 (.tmp 87) (.const (.int .i64 1)) 3, none⟩,
  .one ⟨some 7, .assign (.tmp 88), none⟩]
def agoralaw25_ReachSpots_B3 : MCode := (.seq (.reg 14 agoralaw25_ReachSpots_R14 false) (.seq (.seq (.reg 15 agoralaw25_ReachSpots_R15 false) (.cond (.tmp 53) (.exit 3) .skip)) (.seq (.reg 16 agoralaw25_ReachSpots_R16 false) (.seq (.seq (.reg 17 agoralaw25_ReachSpots_R17 false) (.cond (.tmp 58) (.reg 18 agoralaw25_ReachSpots_R18 false) .skip)) (.seq (.seq (.reg 19 agoralaw25_ReachSpots_R19 false) (.cond (.tmp 68) (.exit 3) .skip)) (.seq (.seq (.reg 20 agoralaw25_ReachSpots_R20 true) (.cond (.tmp 86) (.seq (.reg 21 agoralaw25_ReachSpots_R21 false) .ret) .skip)) (.reg 22 agoralaw25_ReachSpots_R22 false)))))))
def agoralaw25_ReachSpots_R13 : List Itm := [.one ⟨some 35, .move (.tmp 11), none⟩,
  .one ⟨some 36, .binOp .add 3 (.tmp 35) (.const (.int .i64 1)) 3, none⟩,
  .one ⟨some 11, .assign (.tmp 36), none⟩]
def agoralaw25_ReachSpots_W1 : MCode := (.seq (.seq (.reg 12 agoralaw25_ReachSpots_R12 false) (.cond (.tmp 34) .skip (.exit 2))) (.seq (.block 3 agoralaw25_ReachSpots_B3) (.reg 13 agoralaw25_ReachSpots_R13 false)))
def agoralaw25_ReachSpots_B2 : MCode := (.loop agoralaw25_ReachSpots_W1)
def agoralaw25_ReachSpots_R23 : List Itm := [.one ⟨some 89, .move (.tmp 0), none⟩,
  .one ⟨some 90, .move (.tmp 9), none⟩,
  .one ⟨some 91, .move (.tmp 9), none⟩,
  .one ⟨some 92, .binOp .add 3 (.tmp 91) (.const (.int .i64 1)) 3, none⟩,
  .one ⟨some 93, .slice 22 (.tmp 89) (some (.tmp 90)) (some (.tmp 92)) none, none⟩,
  .one ⟨some 94, .move (.tmp 0), none⟩,
  .one ⟨some 95, .move (.tmp 9), none⟩,
  .one ⟨some 96, .indexAddr 22 (.tmp 94) (.tmp 95), none⟩,
  .one ⟨some 97, .fieldAddr 40 (.tmp 96) 0, none⟩,
  .one ⟨some 98, .load 9 (.tmp 97), none⟩,
  .one ⟨some 99, .call ⟨.value (.func 42), #[.tmp 93, .tmp 98], #[22, 9]⟩, none⟩,
  .one ⟨some 100, .call ⟨.builtin .len, #[.tmp 99], #[75]⟩, none⟩,
  .one ⟨some 101, .move (.tmp 10), none⟩,
  .one ⟨some 102, .binOp .neq 3 (.tmp 100) (.tmp 101) 3, none⟩]
def agoralaw25_ReachSpots_R24 : List Itm := [.one ⟨some 4, .assign (.const (.bool false)), none⟩]
def agoralaw25_ReachSpots_B1 : MCode := (.seq (.reg 10 agoralaw25_ReachSpots_R10 false) (.seq (.seq (.reg 11 agoralaw25_ReachSpots_R11 false) (.block 2 agoralaw25_ReachSpots_B2)) (.seq (.reg 23 agoralaw25_ReachSpots_R23 true) (.cond (.tmp 102) (.seq (.reg 24 agoralaw25_ReachSpots_R24 false) .ret) .skip))))
def agoralaw25_ReachSpots_R9 : List Itm := [.one ⟨some 25, .move (.tmp 9), none⟩,
  .one ⟨some 26, .binOp .add 3 (.tmp 25) (.const (.int .i64 1)) 3, none⟩,
  .one ⟨some 9, .assign (.tmp 26), none⟩]
def agoralaw25_ReachSpots_W2 : MCode := (.seq (.seq (.reg 8 agoralaw25_ReachSpots_R8 false) (.cond (.tmp 24) .skip (.exit 0))) (.seq (.block 1 agoralaw25_ReachSpots_B1) (.reg 9 agoralaw25_ReachSpots_R9 false)))
def agoralaw25_ReachSpots_B0 : MCode := (.loop agoralaw25_ReachSpots_W2)
def agoralaw25_ReachSpots_R25 : List Itm := [.one ⟨some 103, .move (.tmp 5), none⟩,
  .one ⟨some 104, .move (.tmp 103), none⟩,
  .blk 1 true [.one ⟨some 105, .move (.tmp 7), some (1, true)⟩,
  .one ⟨some 106, .move (.tmp 6), some (1, true)⟩,
  .one ⟨some 107, .call ⟨.builtin .len, #[.tmp 106], #[75]⟩, some (1, true)⟩,
  .one ⟨some 108, .binOp .eql 3 (.tmp 105) (.tmp 107) 3, some (1, true)⟩] ⟨some 109, .pick (.tmp 104) (.tmp 108) (.const (.bool false)), none⟩,
  .one ⟨some 110, .move (.tmp 109), none⟩,
  .blk 7 true [.one ⟨some 111, .move (.tmp 6), some (7, true)⟩,
  .one ⟨some 112, .call ⟨.builtin .len, #[.tmp 111], #[75]⟩, some (7, true)⟩,
  .one ⟨some 113, .move (.tmp 8), some (7, true)⟩,
  .one ⟨some 114, .binOp .geq 3 (.tmp 112) (.tmp 113) 3, some (7, true)⟩] ⟨some 115, .pick (.tmp 110) (.tmp 114) (.const (.bool false)), none⟩,
  .one ⟨some 4, .assign (.tmp 115), none⟩]
def agoralaw25_ReachSpots_L : MCode := (.seq (.reg 0 agoralaw25_ReachSpots_R0 false) (.seq (.reg 1 agoralaw25_ReachSpots_R1 false) (.seq (.seq (.reg 2 agoralaw25_ReachSpots_R2 false) (.cond (.tmp 16) (.seq (.reg 3 agoralaw25_ReachSpots_R3 false) .ret) .skip)) (.seq (.reg 4 agoralaw25_ReachSpots_R4 false) (.seq (.reg 5 agoralaw25_ReachSpots_R5 false) (.seq (.reg 6 agoralaw25_ReachSpots_R6 false) (.seq (.seq (.reg 7 agoralaw25_ReachSpots_R7 false) (.block 0 agoralaw25_ReachSpots_B0)) (.seq (.reg 25 agoralaw25_ReachSpots_R25 false) .ret))))))))
def agoralaw25_ReachSpots_ks : Nat → List Nat := fun i => match i with
  | 20 => [0, 0, 0, 0, 0, 0, 0, 0, 0, 0, 0, 0, 0, 0, 0, 0, 0, 0]
  | 23 => [0, 0, 0, 0, 0, 0, 0, 0, 0, 0, 0, 0, 0, 0]
  | _ => []
theorem agoralaw25_ReachSpots_F : FnL Tryz.prog GW 11 116 agoralaw25_ReachSpots_L [.tmp 4] agoralaw25_ReachSpots_ks := ⟨⟨_, Tryz.func11, rfl, by kernel_rfl, by kernel_rfl, rfl⟩, by kernel_rfl, by kernel_rfl⟩
end Go.Proofs.YthkmfboffnhkaaaGreatDoor
