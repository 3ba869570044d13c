/-
  The light code of functions: printed by wip/tools/gen.py.
-/
import Derived.Test.YthkmfboffnhkaaaGreatDoorTY
namespace Go.Proofs.YthkmfboffnhkaaaGreatDoor
open Go Go.L1
set_option linter.all false
set_option maxRecDepth 100000
/-! agora/sum.start -/
def sum_start_R0 : List Itm := [.one ⟨some 0, .alloc 225, none⟩]
def sum_start_R1 : List Itm := [.one ⟨some 1, .build 225 #[(0, .const (.int .u32 1779033703)), (1, .const (.int .u32 3144134277)), (2, .const (.int .u32 1013904242)), (3, .const (.int .u32 2773480762)), (4, .const (.int .u32 1359893119)), (5, .const (.int .u32 2600822924)), (6, .const (.int .u32 528734635)), (7, .const (.int .u32 1541459225))], none⟩,
  .one ⟨none, .store 225 (.tmp 0) (.tmp 1), none⟩]
def sum_start_L : MCode := (.seq (.reg 0 sum_start_R0 false) (.seq (.reg 1 sum_start_R1 false) .ret))
def sum_start_ks : Nat → List Nat := fun i => match i with
  | _ => []
theorem sum_start_F : FnL Tryz.prog GW 168 2 sum_start_L [.cell 0 225] sum_start_ks := ⟨⟨_, Tryz.func168, rfl, by kernel_rfl, by kernel_rfl, rfl⟩, by kernel_rfl, by kernel_rfl⟩
/-! agora/sum.padded -/
def sum_padded_R0 : List Itm := [.one ⟨some 2, .assign (.const (.string ⟨#[]⟩)), none⟩]
def sum_padded_R1 : List Itm := [.one ⟨some 3, .alloc 213, none⟩]
def sum_padded_R2 : List Itm := [.one ⟨some 6, .move (.tmp 0), none⟩,
  .one ⟨some 7, .call ⟨.value (.func 164), #[.tmp 3, .tmp 6], #[213, 9]⟩, none⟩]
def sum_padded_R3 : List Itm := [.one ⟨some 8, .call ⟨.value (.func 209), #[.tmp 3, .const (.int .u8 128)], #[213, 5]⟩, none⟩]
def sum_padded_R4 : List Itm := [.one ⟨some 9, .call ⟨.value (.func 210), #[.tmp 3], #[213]⟩, none⟩,
  .one ⟨some 10, .binOp .rem 3 (.tmp 9) (.const (.int .i64 64)) 3, none⟩,
  .one ⟨some 11, .binOp .neq 3 (.tmp 10) (.const (.int .i64 56)) 3, none⟩]
def sum_padded_R5 : List Itm := [.one ⟨some 12, .call ⟨.value (.func 209), #[.tmp 3, .const (.int .u8 0)], #[213, 5]⟩, none⟩]
def sum_padded_B1 : MCode := (.reg 5 sum_padded_R5 false)
def sum_padded_W1 : MCode := (.seq (.seq (.reg 4 sum_padded_R4 false) (.cond (.tmp 11) .skip (.exit 0))) (.block 1 sum_padded_B1))
def sum_padded_B0 : MCode := (.loop sum_padded_W1)
def sum_padded_R6 : List Itm := [.one ⟨some 13, .move (.tmp 0), none⟩,
  .one ⟨some 14, .call ⟨.builtin .len, #[.tmp 13], #[9]⟩, none⟩,
  .one ⟨some 15, .convert 3 202 (.tmp 14), none⟩,
  .one ⟨some 16, .binOp .mul 202 (.tmp 15) (.const (.int .u64 8)) 202, none⟩,
  .one ⟨some 4, .assign (.tmp 16), none⟩]
def sum_padded_R7 : List Itm := [.one ⟨some 5, .assign (.const (.int .i64 56)), none⟩]
def sum_padded_R8 : List Itm := [.one ⟨some 17, .move (.tmp 5), none⟩,
  .one ⟨some 18, .binOp .geq 3 (.tmp 17) (.const (.int .i64 0)) 3, none⟩]
def sum_padded_R10 : List Itm := [.one ⟨some 21, .move (.tmp 4), none⟩,
  .one ⟨some 22, .move (.tmp 5), none⟩,
  .one ⟨some 23, .binOp .shr 202 (.tmp 21) (.tmp 22) 3, none⟩,
  .one ⟨some 24, .convert 202 5 (.tmp 23), none⟩,
  .one ⟨some 25, .call ⟨.value (.func 209), #[.tmp 3, .tmp 24], #[213, 5]⟩, none⟩]
def sum_padded_B3 : MCode := (.reg 10 sum_padded_R10 false)
def sum_padded_R9 : List Itm := [.one ⟨some 19, .move (.tmp 5), none⟩,
  .one ⟨some 20, .binOp .sub 3 (.tmp 19) (.const (.int .i64 8)) 3, none⟩,
  .one ⟨some 5, .assign (.tmp 20), none⟩]
def sum_padded_W2 : MCode := (.seq (.seq (.reg 8 sum_padded_R8 false) (.cond (.tmp 18) .skip (.exit 2))) (.seq (.block 3 sum_padded_B3) (.reg 9 sum_padded_R9 false)))
def sum_padded_B2 : MCode := (.loop sum_padded_W2)
def sum_padded_R11 : List Itm := [.one ⟨some 26, .call ⟨.value (.func 167), #[.tmp 3], #[213]⟩, none⟩,
  .one ⟨some 2, .assign (.tmp 26), none⟩]
def sum_padded_L : MCode := (.seq (.reg 0 sum_padded_R0 false) (.seq (.reg 1 sum_padded_R1 false) (.seq (.reg 2 sum_padded_R2 false) (.seq (.reg 3 sum_padded_R3 false) (.seq (.block 0 sum_padded_B0) (.seq (.reg 6 sum_padded_R6 false) (.seq (.seq (.reg 7 sum_padded_R7 false) (.block 2 sum_padded_B2)) (.seq (.reg 11 sum_padded_R11 false) .ret))))))))
def sum_padded_ks : Nat → List Nat := fun i => match i with
  | _ => []
theorem sum_padded_F : FnL Tryz.prog GW 169 27 sum_padded_L [.tmp 2] sum_padded_ks := ⟨⟨_, Tryz.func169, rfl, by kernel_rfl, by kernel_rfl, rfl⟩, by kernel_rfl, by kernel_rfl⟩
/-! agora/sum.word -/
def sum_word_R0 : List Itm := [.one ⟨some 2, .assign (.const (.int .u32 0)), none⟩]
def sum_word_R1 : List Itm := [.one ⟨some 3, .move (.tmp 0), none⟩,
  .one ⟨some 4, .index 9 (.tmp 3) (.const (.int .i64 0)), none⟩,
  .one ⟨some 5, .convert 5 200 (.tmp 4), none⟩,
  .one ⟨some 6, .binOp .shl 200 (.tmp 5) (.const (.int .u64 24)) 165, none⟩,
  .one ⟨some 7, .move (.tmp 0), none⟩,
  .one ⟨some 8, .index 9 (.tmp 7) (.const (.int .i64 1)), none⟩,
  .one ⟨some 9, .convert 5 200 (.tmp 8), none⟩,
  .one ⟨some 10, .binOp .shl 200 (.tmp 9) (.const (.int .u64 16)) 165, none⟩,
  .one ⟨some 11, .binOp .or 200 (.tmp 6) (.tmp 10) 200, none⟩,
  .one ⟨some 12, .move (.tmp 0), none⟩,
  .one ⟨some 13, .index 9 (.tmp 12) (.const (.int .i64 2)), none⟩,
  .one ⟨some 14, .convert 5 200 (.tmp 13), none⟩,
  .one ⟨some 15, .binOp .shl 200 (.tmp 14) (.const (.int .u64 8)) 165, none⟩,
  .one ⟨some 16, .binOp .or 200 (.tmp 11) (.tmp 15) 200, none⟩,
  .one ⟨some 17, .move (.tmp 0), none⟩,
  .one ⟨some 18, .index 9 (.tmp 17) (.const (.int .i64 3)), none⟩,
  .one ⟨some 19, .convert 5 200 (.tmp 18), none⟩,
  .one ⟨some 20, .binOp .or 200 (.tmp 16) (.tmp 19) 200, none⟩,
  .one ⟨some 2, .assign (.tmp 20), none⟩]
def sum_word_L : MCode := (.seq (.reg 0 sum_word_R0 false) (.seq (.reg 1 sum_word_R1 true) .ret))
def sum_word_ks : Nat → List Nat := fun i => match i with
  | 1 => [0, 0, 0, 0, 0, 0, 0, 0, 0, 0, 0, 0, 0, 0, 0, 0, 0, 0, 0]
  | _ => []
theorem sum_word_F : FnL Tryz.prog GW 231 21 sum_word_L [.tmp 2] sum_word_ks := ⟨⟨_, Tryz.func231, rfl, by kernel_rfl, by kernel_rfl, rfl⟩, by kernel_rfl, by kernel_rfl⟩
/-! math/bits.RotateLeft32 -/
def math_bits_RotateLeft32_R0 : List Itm := [.one ⟨some 4, .assign (.const (.int .u32 0)), none⟩]
def math_bits_RotateLeft32_R1 : List Itm := [.one ⟨some 6, .move (.tmp 1), none⟩,
  .one ⟨some 7, .convert 3 165 (.tmp 6), none⟩,
  .one ⟨some 8, .binOp .and 165 (.tmp 7) (.const (.int .u64 31)) 165, none⟩,
  .one ⟨some 5, .assign (.tmp 8), none⟩]
def math_bits_RotateLeft32_R2 : List Itm := [.one ⟨some 9, .move (.tmp 0), none⟩,
  .one ⟨some 10, .move (.tmp 5), none⟩,
  .one ⟨some 11, .binOp .shl 200 (.tmp 9) (.tmp 10) 165, none⟩,
  .one ⟨some 12, .move (.tmp 0), none⟩,
  .one ⟨some 13, .move (.tmp 5), none⟩,
  .one ⟨some 14, .binOp .sub 165 (.const (.int .u64 32)) (.tmp 13) 165, none⟩,
  .one ⟨some 15, .binOp .shr 200 (.tmp 12) (.tmp 14) 165, none⟩,
  .one ⟨some 16, .binOp .or 200 (.tmp 11) (.tmp 15) 200, none⟩,
  .one ⟨some 4, .assign (.tmp 16), none⟩]
def math_bits_RotateLeft32_L : MCode := (.seq (.reg 0 math_bits_RotateLeft32_R0 false) (.seq (.reg 1 math_bits_RotateLeft32_R1 false) (.seq (.reg 2 math_bits_RotateLeft32_R2 false) .ret)))
def math_bits_RotateLeft32_ks : Nat → List Nat := fun i => match i with
  | _ => []
theorem math_bits_RotateLeft32_F : FnL Tryz.prog GW 232 17 math_bits_RotateLeft32_L [.tmp 4] math_bits_RotateLeft32_ks := ⟨⟨_, Tryz.func232, rfl, by kernel_rfl, by kernel_rfl, rfl⟩, by kernel_rfl, by kernel_rfl⟩
/-! agora/sum.schedule -/
def sum_schedule_R0 : List Itm := [.one ⟨some 2, .alloc 265, none⟩]
def sum_schedule_R1 : List Itm := [.one ⟨some 8, .move (.const (.int .i64 0)), none⟩]
def sum_schedule_R2 : List Itm := [.one ⟨some 9, .binOp .lss 3 (.tmp 8) (.const (.int .i64 64)) 3, none⟩]
def sum_schedule_R3 : List Itm := [.one ⟨some 10, .move (.tmp 8), none⟩,
  .one ⟨some 3, .assign (.tmp 10), none⟩]
def sum_schedule_R4 : List Itm := [.one ⟨some 11, .move (.tmp 3), none⟩,
  .one ⟨some 12, .binOp .lss 3 (.tmp 11) (.const (.int .i64 16)) 3, none⟩]
def sum_schedule_R5 : List Itm := [.one ⟨some 13, .move (.tmp 3), none⟩,
  .one ⟨some 14, .move (.tmp 0), none⟩,
  .one ⟨some 15, .move (.tmp 3), none⟩,
  .one ⟨some 16, .binOp .mul 3 (.const (.int .i64 4)) (.tmp 15) 3, none⟩,
  .one ⟨some 17, .slice 9 (.tmp 14) (some (.tmp 16)) none none, none⟩,
  .one ⟨some 18, .call ⟨.value (.func 231), #[.tmp 17], #[9]⟩, none⟩,
  .one ⟨some 19, .indexAddr 265 (.tmp 2) (.tmp 13), none⟩,
  .one ⟨none, .store 200 (.tmp 19) (.tmp 18), none⟩]
def sum_schedule_R6 : List Itm := [.one ⟨some 20, .move (.tmp 3), none⟩,
  .one ⟨some 21, .binOp .sub 3 (.tmp 20) (.const (.int .i64 15)) 3, none⟩,
  .one ⟨some 22, .indexAddr 265 (.tmp 2) (.tmp 21), none⟩,
  .one ⟨some 23, .load 200 (.tmp 22), none⟩,
  .one ⟨some 24, .move (.tmp 3), none⟩,
  .one ⟨some 25, .binOp .sub 3 (.tmp 24) (.const (.int .i64 2)) 3, none⟩,
  .one ⟨some 26, .indexAddr 265 (.tmp 2) (.tmp 25), none⟩,
  .one ⟨some 27, .load 200 (.tmp 26), none⟩,
  .one ⟨some 4, .assign (.tmp 23), none⟩,
  .one ⟨some 5, .assign (.tmp 27), none⟩]
def sum_schedule_R7 : List Itm := [.one ⟨some 28, .move (.tmp 4), none⟩,
  .one ⟨some 29, .call ⟨.value (.func 232), #[.tmp 28, .const (.int .i64 (-7))], #[200, 3]⟩, none⟩,
  .one ⟨some 30, .move (.tmp 4), none⟩,
  .one ⟨some 31, .call ⟨.value (.func 232), #[.tmp 30, .const (.int .i64 (-18))], #[200, 3]⟩, none⟩,
  .one ⟨some 32, .binOp .xor 200 (.tmp 29) (.tmp 31) 200, none⟩,
  .one ⟨some 33, .move (.tmp 4), none⟩,
  .one ⟨some 34, .binOp .shr 200 (.tmp 33) (.const (.int .u64 3)) 165, none⟩,
  .one ⟨some 35, .binOp .xor 200 (.tmp 32) (.tmp 34) 200, none⟩,
  .one ⟨some 6, .assign (.tmp 35), none⟩]
def sum_schedule_R8 : List Itm := [.one ⟨some 36, .move (.tmp 5), none⟩,
  .one ⟨some 37, .call ⟨.value (.func 232), #[.tmp 36, .const (.int .i64 (-17))], #[200, 3]⟩, none⟩,
  .one ⟨some 38, .move (.tmp 5), none⟩,
  .one ⟨some 39, .call ⟨.value (.func 232), #[.tmp 38, .const (.int .i64 (-19))], #[200, 3]⟩, none⟩,
  .one ⟨some 40, .binOp .xor 200 (.tmp 37) (.tmp 39) 200, none⟩,
  .one ⟨some 41, .move (.tmp 5), none⟩,
  .one ⟨some 42, .binOp .shr 200 (.tmp 41) (.const (.int .u64 10)) 165, none⟩,
  .one ⟨some 43, .binOp .xor 200 (.tmp 40) (.tmp 42) 200, none⟩,
  .one ⟨some 7, .assign (.tmp 43), none⟩]
def sum_schedule_R9 : List Itm := [.one ⟨some 44, .move (.tmp 3), none⟩,
  .one ⟨some 45, .move (.tmp 3), none⟩,
  .one ⟨some 46, .binOp .sub 3 (.tmp 45) (.const (.int .i64 16)) 3, none⟩,
  .one ⟨some 47, .indexAddr 265 (.tmp 2) (.tmp 46), none⟩,
  .one ⟨some 48, .load 200 (.tmp 47), none⟩,
  .one ⟨some 49, .move (.tmp 6), none⟩,
  .one ⟨some 50, .binOp .add 200 (.tmp 48) (.tmp 49) 200, none⟩,
  .one ⟨some 51, .move (.tmp 3), none⟩,
  .one ⟨some 52, .binOp .sub 3 (.tmp 51) (.const (.int .i64 7)) 3, none⟩,
  .one ⟨some 53, .indexAddr 265 (.tmp 2) (.tmp 52), none⟩,
  .one ⟨some 54, .load 200 (.tmp 53), none⟩,
  .one ⟨some 55, .binOp .add 200 (.tmp 50) (.tmp 54) 200, none⟩,
  .one ⟨some 56, .move (.tmp 7), none⟩,
  .one ⟨some 57, .binOp .add 200 (.tmp 55) (.tmp 56) 200, none⟩,
  .one ⟨some 58, .indexAddr 265 (.tmp 2) (.tmp 44), none⟩,
  .one ⟨none, .store 200 (.tmp 58) (.tmp 57), none⟩]
def sum_schedule_B1 : MCode := (.seq (.reg 3 sum_schedule_R3 false) (.seq (.seq (.reg 4 sum_schedule_R4 false) (.cond (.tmp 12) (.seq (.reg 5 sum_schedule_R5 false) (.exit 1)) .skip)) (.seq (.reg 6 sum_schedule_R6 true) (.seq (.reg 7 sum_schedule_R7 false) (.seq (.reg 8 sum_schedule_R8 false) (.reg 9 sum_schedule_R9 true))))))
def sum_schedule_R10 : List Itm := [.one ⟨some 59, .binOp .add 3 (.tmp 8) (.const (.int .i64 1)) 3, none⟩,
  .one ⟨some 8, .move (.tmp 59), none⟩]
def sum_schedule_W1 : MCode := (.seq (.reg 2 sum_schedule_R2 false) (.seq (.cond (.tmp 9) .skip (.exit 0)) (.seq (.block 1 sum_schedule_B1) (.reg 10 sum_schedule_R10 false))))
def sum_schedule_B0 : MCode := (.loop sum_schedule_W1)
def sum_schedule_R11 : List Itm := [.one ⟨some 60, .load 265 (.tmp 2), none⟩,
  .one ⟨none, .store 265 (.tmp 2) (.tmp 60), none⟩]
def sum_schedule_L : MCode := (.seq (.reg 0 sum_schedule_R0 false) (.seq (.seq (.reg 1 sum_schedule_R1 false) (.block 0 sum_schedule_B0)) (.seq (.reg 11 sum_schedule_R11 false) .ret)))
def sum_schedule_ks : Nat → List Nat := fun i => match i with
  | 6 => [0, 0, 0, 0, 0, 0, 0, 0, 0, 0]
  | 9 => [0, 0, 0, 0, 0, 0, 0, 0, 0, 0, 0, 0, 0, 0, 0, 2]
  | _ => []
theorem sum_schedule_F : FnL Tryz.prog GW 211 61 sum_schedule_L [.cell 2 265] sum_schedule_ks := ⟨⟨_, Tryz.func211, rfl, by kernel_rfl, by kernel_rfl, rfl⟩, by kernel_rfl, by kernel_rfl⟩
/-! agora/sum.constants -/
def sum_constants_R0 : List Itm := [.one ⟨some 0, .alloc 265, none⟩]
def sum_constants_R1 : List Itm := [.one ⟨some 1, .build 265 #[(0, .const (.int .u32 1116352408)), (1, .const (.int .u32 1899447441)), (2, .const (.int .u32 3049323471)), (3, .const (.int .u32 3921009573)), (4, .const (.int .u32 961987163)), (5, .const (.int .u32 1508970993)), (6, .const (.int .u32 2453635748)), (7, .const (.int .u32 2870763221)), (8, .const (.int .u32 3624381080)), (9, .const (.int .u32 310598401)), (10, .const (.int .u32 607225278)), (11, .const (.int .u32 1426881987)), (12, .const (.int .u32 1925078388)), (13, .const (.int .u32 2162078206)), (14, .const (.int .u32 2614888103)), (15, .const (.int .u32 3248222580)), (16, .const (.int .u32 3835390401)), (17, .const (.int .u32 4022224774)), (18, .const (.int .u32 264347078)), (19, .const (.int .u32 604807628)), (20, .const (.int .u32 770255983)), (21, .const (.int .u32 1249150122)), (22, .const (.int .u32 1555081692)), (23, .const (.int .u32 1996064986)), (24, .const (.int .u32 2554220882)), (25, .const (.int .u32 2821834349)), (26, .const (.int .u32 2952996808)), (27, .const (.int .u32 3210313671)), (28, .const (.int .u32 3336571891)), (29, .const (.int .u32 3584528711)), (30, .const (.int .u32 113926993)), (31, .const (.int .u32 338241895)), (32, .const (.int .u32 666307205)), (33, .const (.int .u32 773529912)), (34, .const (.int .u32 1294757372)), (35, .const (.int .u32 1396182291)), (36, .const (.int .u32 1695183700)), (37, .const (.int .u32 1986661051)), (38, .const (.int .u32 2177026350)), (39, .const (.int .u32 2456956037)), (40, .const (.int .u32 2730485921)), (41, .const (.int .u32 2820302411)), (42, .const (.int .u32 3259730800)), (43, .const (.int .u32 3345764771)), (44, .const (.int .u32 3516065817)), (45, .const (.int .u32 3600352804)), (46, .const (.int .u32 4094571909)), (47, .const (.int .u32 275423344)), (48, .const (.int .u32 430227734)), (49, .const (.int .u32 506948616)), (50, .const (.int .u32 659060556)), (51, .const (.int .u32 883997877)), (52, .const (.int .u32 958139571)), (53, .const (.int .u32 1322822218)), (54, .const (.int .u32 1537002063)), (55, .const (.int .u32 1747873779)), (56, .const (.int .u32 1955562222)), (57, .const (.int .u32 2024104815)), (58, .const (.int .u32 2227730452)), (59, .const (.int .u32 2361852424)), (60, .const (.int .u32 2428436474)), (61, .const (.int .u32 2756734187)), (62, .const (.int .u32 3204031479)), (63, .const (.int .u32 3329325298))], none⟩,
  .one ⟨none, .store 265 (.tmp 0) (.tmp 1), none⟩]
def sum_constants_L : MCode := (.seq (.reg 0 sum_constants_R0 false) (.seq (.reg 1 sum_constants_R1 false) .ret))
def sum_constants_ks : Nat → List Nat := fun i => match i with
  | _ => []
theorem sum_constants_F : FnL Tryz.prog GW 212 2 sum_constants_L [.cell 0 265] sum_constants_ks := ⟨⟨_, Tryz.func212, rfl, by kernel_rfl, by kernel_rfl, rfl⟩, by kernel_rfl, by kernel_rfl⟩
/-! agora/sum.rotations -/
def sum_rotations_R0 : List Itm := [.one ⟨some 8, .assign (.const (.int .u32 0)), none⟩]
def sum_rotations_R1 : List Itm := [.one ⟨some 9, .move (.tmp 0), none⟩,
  .one ⟨some 10, .move (.tmp 1), none⟩,
  .one ⟨some 11, .unOp .neg 3 (.tmp 10), none⟩,
  .one ⟨some 12, .call ⟨.value (.func 232), #[.tmp 9, .tmp 11], #[200, 3]⟩, none⟩,
  .one ⟨some 13, .move (.tmp 0), none⟩,
  .one ⟨some 14, .move (.tmp 2), none⟩,
  .one ⟨some 15, .unOp .neg 3 (.tmp 14), none⟩,
  .one ⟨some 16, .call ⟨.value (.func 232), #[.tmp 13, .tmp 15], #[200, 3]⟩, none⟩,
  .one ⟨some 17, .binOp .xor 200 (.tmp 12) (.tmp 16) 200, none⟩,
  .one ⟨some 18, .move (.tmp 0), none⟩,
  .one ⟨some 19, .move (.tmp 3), none⟩,
  .one ⟨some 20, .unOp .neg 3 (.tmp 19), none⟩,
  .one ⟨some 21, .call ⟨.value (.func 232), #[.tmp 18, .tmp 20], #[200, 3]⟩, none⟩,
  .one ⟨some 22, .binOp .xor 200 (.tmp 17) (.tmp 21) 200, none⟩,
  .one ⟨some 8, .assign (.tmp 22), none⟩]
def sum_rotations_L : MCode := (.seq (.reg 0 sum_rotations_R0 false) (.seq (.reg 1 sum_rotations_R1 false) .ret))
def sum_rotations_ks : Nat → List Nat := fun i => match i with
  | _ => []
theorem sum_rotations_F : FnL Tryz.prog GW 213 23 sum_rotations_L [.tmp 8] sum_rotations_ks := ⟨⟨_, Tryz.func213, rfl, by kernel_rfl, by kernel_rfl, rfl⟩, by kernel_rfl, by kernel_rfl⟩
/-! (agora/sum.state).step -/
def sum_state_step_R0 : List Itm := [.one ⟨some 2, .box 225 (.tmp 0), none⟩,
  .one ⟨some 4, .alloc 225, none⟩]
def sum_state_step_R1 : List Itm := [.one ⟨some 14, .move (.tmp 1), none⟩,
  .one ⟨some 15, .call ⟨.value (.func 211), #[.tmp 14], #[9]⟩, none⟩,
  .one ⟨some 16, .call ⟨.value (.func 212), #[], #[]⟩, none⟩,
  .one ⟨some 17, .load 225 (.tmp 2), none⟩,
  .one ⟨some 5, .alloc 265, none⟩,
  .one ⟨some 6, .alloc 265, none⟩,
  .one ⟨some 7, .alloc 225, none⟩,
  .one ⟨none, .store 265 (.tmp 5) (.tmp 15), none⟩,
  .one ⟨none, .store 265 (.tmp 6) (.tmp 16), none⟩,
  .one ⟨none, .store 225 (.tmp 7) (.tmp 17), none⟩]
def sum_state_step_R2 : List Itm := [.one ⟨some 18, .move (.const (.int .i64 0)), none⟩]
def sum_state_step_R3 : List Itm := [.one ⟨some 19, .binOp .lss 3 (.tmp 18) (.const (.int .i64 64)) 3, none⟩]
def sum_state_step_R4 : List Itm := [.one ⟨some 20, .move (.tmp 18), none⟩,
  .one ⟨some 8, .assign (.tmp 20), none⟩]
def sum_state_step_R5 : List Itm := [.one ⟨some 21, .indexAddr 225 (.tmp 7) (.const (.int .i64 0)), none⟩,
  .one ⟨some 22, .load 200 (.tmp 21), none⟩,
  .one ⟨some 23, .indexAddr 225 (.tmp 7) (.const (.int .i64 4)), none⟩,
  .one ⟨some 24, .load 200 (.tmp 23), none⟩,
  .one ⟨some 9, .assign (.tmp 22), none⟩,
  .one ⟨some 10, .assign (.tmp 24), none⟩]
def sum_state_step_R6 : List Itm := [.one ⟨some 25, .indexAddr 225 (.tmp 7) (.const (.int .i64 7)), none⟩,
  .one ⟨some 26, .load 200 (.tmp 25), none⟩,
  .one ⟨some 27, .move (.tmp 10), none⟩,
  .one ⟨some 28, .call ⟨.value (.func 213), #[.tmp 27, .const (.int .i64 6), .const (.int .i64 11), .const (.int .i64 25)], #[200, 3, 3, 3]⟩, none⟩,
  .one ⟨some 29, .binOp .add 200 (.tmp 26) (.tmp 28) 200, none⟩,
  .one ⟨some 30, .move (.tmp 10), none⟩,
  .one ⟨some 31, .indexAddr 225 (.tmp 7) (.const (.int .i64 5)), none⟩,
  .one ⟨some 32, .load 200 (.tmp 31), none⟩,
  .one ⟨some 33, .binOp .and 200 (.tmp 30) (.tmp 32) 200, none⟩,
  .one ⟨some 34, .move (.tmp 10), none⟩,
  .one ⟨some 35, .unOp .xor 200 (.tmp 34), none⟩,
  .one ⟨some 36, .indexAddr 225 (.tmp 7) (.const (.int .i64 6)), none⟩,
  .one ⟨some 37, .load 200 (.tmp 36), none⟩,
  .one ⟨some 38, .binOp .and 200 (.tmp 35) (.tmp 37) 200, none⟩,
  .one ⟨some 39, .binOp .xor 200 (.tmp 33) (.tmp 38) 200, none⟩,
  .one ⟨some 40, .binOp .add 200 (.tmp 29) (.tmp 39) 200, none⟩,
  .one ⟨some 41, .move (.tmp 8), none⟩,
  .one ⟨some 42, .indexAddr 265 (.tmp 6) (.tmp 41), none⟩,
  .one ⟨some 43, .load 200 (.tmp 42), none⟩,
  .one ⟨some 44, .binOp .add 200 (.tmp 40) (.tmp 43) 200, none⟩,
  .one ⟨some 45, .move (.tmp 8), none⟩,
  .one ⟨some 46, .indexAddr 265 (.tmp 5) (.tmp 45), none⟩,
  .one ⟨some 47, .load 200 (.tmp 46), none⟩,
  .one ⟨some 48, .binOp .add 200 (.tmp 44) (.tmp 47) 200, none⟩,
  .one ⟨some 11, .assign (.tmp 48), none⟩]
def sum_state_step_R7 : List Itm := [.one ⟨some 49, .move (.tmp 9), none⟩,
  .one ⟨some 50, .call ⟨.value (.func 213), #[.tmp 49, .const (.int .i64 2), .const (.int .i64 13), .const (.int .i64 22)], #[200, 3, 3, 3]⟩, none⟩,
  .one ⟨some 51, .move (.tmp 9), none⟩,
  .one ⟨some 52, .indexAddr 225 (.tmp 7) (.const (.int .i64 1)), none⟩,
  .one ⟨some 53, .load 200 (.tmp 52), none⟩,
  .one ⟨some 54, .binOp .and 200 (.tmp 51) (.tmp 53) 200, none⟩,
  .one ⟨some 55, .move (.tmp 9), none⟩,
  .one ⟨some 56, .indexAddr 225 (.tmp 7) (.const (.int .i64 2)), none⟩,
  .one ⟨some 57, .load 200 (.tmp 56), none⟩,
  .one ⟨some 58, .binOp .and 200 (.tmp 55) (.tmp 57) 200, none⟩,
  .one ⟨some 59, .binOp .xor 200 (.tmp 54) (.tmp 58) 200, none⟩,
  .one ⟨some 60, .indexAddr 225 (.tmp 7) (.const (.int .i64 1)), none⟩,
  .one ⟨some 61, .load 200 (.tmp 60), none⟩,
  .one ⟨some 62, .indexAddr 225 (.tmp 7) (.const (.int .i64 2)), none⟩,
  .one ⟨some 63, .load 200 (.tmp 62), none⟩,
  .one ⟨some 64, .binOp .and 200 (.tmp 61) (.tmp 63) 200, none⟩,
  .one ⟨some 65, .binOp .xor 200 (.tmp 59) (.tmp 64) 200, none⟩,
  .one ⟨some 66, .binOp .add 200 (.tmp 50) (.tmp 65) 200, none⟩,
  .one ⟨some 12, .assign (.tmp 66), none⟩]
def sum_state_step_R8 : List Itm := [.one ⟨some 67, .slice 225 (.tmp 7) (some (.const (.int .i64 1))) none none, none⟩,
  .one ⟨some 68, .slice 225 (.tmp 7) none (some (.const (.int .i64 7))) none, none⟩,
  .one ⟨some 69, .call ⟨.builtin .copy, #[.tmp 67, .tmp 68], #[269, 269]⟩, none⟩]
def sum_state_step_R9 : List Itm := [.one ⟨some 70, .indexAddr 225 (.tmp 7) (.const (.int .i64 4)), none⟩,
  .one ⟨some 71, .load 200 (.tmp 70), none⟩,
  .one ⟨some 72, .move (.tmp 11), none⟩,
  .one ⟨some 73, .binOp .add 200 (.tmp 71) (.tmp 72) 200, none⟩,
  .one ⟨some 74, .indexAddr 225 (.tmp 7) (.const (.int .i64 4)), none⟩,
  .one ⟨none, .store 200 (.tmp 74) (.tmp 73), none⟩]
def sum_state_step_R10 : List Itm := [.one ⟨some 75, .move (.tmp 11), none⟩,
  .one ⟨some 76, .move (.tmp 12), none⟩,
  .one ⟨some 77, .binOp .add 200 (.tmp 75) (.tmp 76) 200, none⟩,
  .one ⟨some 78, .indexAddr 225 (.tmp 7) (.const (.int .i64 0)), none⟩,
  .one ⟨none, .store 200 (.tmp 78) (.tmp 77), none⟩]
def sum_state_step_B1 : MCode := (.seq (.reg 4 sum_state_step_R4 false) (.seq (.reg 5 sum_state_step_R5 true) (.seq (.reg 6 sum_state_step_R6 true) (.seq (.reg 7 sum_state_step_R7 true) (.seq (.reg 8 sum_state_step_R8 true) (.seq (.reg 9 sum_state_step_R9 false) (.reg 10 sum_state_step_R10 false)))))))
def sum_state_step_R11 : List Itm := [.one ⟨some 79, .binOp .add 3 (.tmp 18) (.const (.int .i64 1)) 3, none⟩,
  .one ⟨some 18, .move (.tmp 79), none⟩]
def sum_state_step_W1 : MCode := (.seq (.reg 3 sum_state_step_R3 false) (.seq (.cond (.tmp 19) .skip (.exit 0)) (.seq (.block 1 sum_state_step_B1) (.reg 11 sum_state_step_R11 false))))
def sum_state_step_B0 : MCode := (.loop sum_state_step_W1)
def sum_state_step_R12 : List Itm := [.one ⟨some 80, .move (.const (.int .i64 0)), none⟩]
def sum_state_step_R13 : List Itm := [.one ⟨some 81, .binOp .lss 3 (.tmp 80) (.const (.int .i64 8)) 3, none⟩]
def sum_state_step_R14 : List Itm := [.one ⟨some 82, .move (.tmp 80), none⟩,
  .one ⟨some 13, .assign (.tmp 82), none⟩]
def sum_state_step_R15 : List Itm := [.one ⟨some 83, .move (.tmp 13), none⟩,
  .one ⟨some 84, .indexAddr 225 (.tmp 7) (.tmp 83), none⟩,
  .one ⟨some 85, .load 200 (.tmp 84), none⟩,
  .one ⟨some 86, .move (.tmp 13), none⟩,
  .one ⟨some 87, .indexAddr 225 (.tmp 2) (.tmp 86), none⟩,
  .one ⟨some 88, .load 200 (.tmp 87), none⟩,
  .one ⟨some 89, .binOp .add 200 (.tmp 85) (.tmp 88) 200, none⟩,
  .one ⟨some 90, .indexAddr 225 (.tmp 7) (.tmp 83), none⟩,
  .one ⟨none, .store 200 (.tmp 90) (.tmp 89), none⟩]
def sum_state_step_B3 : MCode := (.seq (.reg 14 sum_state_step_R14 false) (.reg 15 sum_state_step_R15 true))
def sum_state_step_R16 : List Itm := [.one ⟨some 91, .binOp .add 3 (.tmp 80) (.const (.int .i64 1)) 3, none⟩,
  .one ⟨some 80, .move (.tmp 91), none⟩]
def sum_state_step_W2 : MCode := (.seq (.reg 13 sum_state_step_R13 false) (.seq (.cond (.tmp 81) .skip (.exit 2)) (.seq (.block 3 sum_state_step_B3) (.reg 16 sum_state_step_R16 false))))
def sum_state_step_B2 : MCode := (.loop sum_state_step_W2)
def sum_state_step_R17 : List Itm := [.one ⟨some 92, .load 225 (.tmp 7), none⟩,
  .one ⟨none, .store 225 (.tmp 4) (.tmp 92), none⟩]
def sum_state_step_L : MCode := (.seq (.reg 0 sum_state_step_R0 false) (.seq (.reg 1 sum_state_step_R1 true) (.seq (.seq (.reg 2 sum_state_step_R2 false) (.block 0 sum_state_step_B0)) (.seq (.seq (.reg 12 sum_state_step_R12 false) (.block 2 sum_state_step_B2)) (.seq (.reg 17 sum_state_step_R17 false) .ret)))))
def sum_state_step_ks : Nat → List Nat := fun i => match i with
  | 1 => [0, 0, 0, 4, 0, 0, 0, 3, 3, 3]
  | 5 => [0, 1, 0, 1, 0, 0]
  | 6 => [0, 1, 0, 0, 0, 0, 0, 1, 0, 0, 0, 0, 1, 0, 0, 0, 0, 0, 1, 0, 0, 0, 1, 0, 0]
  | 7 => [0, 0, 0, 0, 1, 0, 0, 0, 1, 0, 0, 0, 1, 0, 1, 0, 0, 0, 0]
  | 8 => [0, 0, 2]
  | 15 => [0, 0, 1, 0, 0, 1, 0, 0, 2]
  | _ => []
theorem sum_state_step_F : FnL Tryz.prog GW 170 93 sum_state_step_L [.cell 4 225] sum_state_step_ks := ⟨⟨_, Tryz.func170, rfl, by kernel_rfl, by kernel_rfl, rfl⟩, by kernel_rfl, by kernel_rfl⟩
/-! agora/sum.Sha -/
def sum_Sha_R0 : List Itm := [.one ⟨some 2, .assign (.const (.string ⟨#[]⟩)), none⟩]
def sum_Sha_R1 : List Itm := [.one ⟨some 8, .call ⟨.value (.func 168), #[], #[]⟩, none⟩,
  .one ⟨some 3, .alloc 225, none⟩,
  .one ⟨none, .store 225 (.tmp 3) (.tmp 8), none⟩]
def sum_Sha_R2 : List Itm := [.one ⟨some 9, .move (.tmp 0), none⟩,
  .one ⟨some 10, .call ⟨.value (.func 169), #[.tmp 9], #[9]⟩, none⟩,
  .one ⟨some 4, .assign (.tmp 10), none⟩]
def sum_Sha_R3 : List Itm := [.one ⟨some 11, .move (.tmp 4), none⟩,
  .one ⟨some 12, .binOp .neq 9 (.tmp 11) (.const (.string ⟨#[]⟩)) 9, none⟩]
def sum_Sha_R5 : List Itm := [.one ⟨some 15, .load 225 (.tmp 3), none⟩,
  .one ⟨some 16, .move (.tmp 4), none⟩,
  .one ⟨some 17, .slice 9 (.tmp 16) none (some (.const (.int .i64 64))) none, none⟩,
  .one ⟨some 18, .call ⟨.value (.func 170), #[.tmp 15, .tmp 17], #[225, 9]⟩, none⟩,
  .one ⟨none, .store 225 (.tmp 3) (.tmp 18), none⟩]
def sum_Sha_B1 : MCode := (.reg 5 sum_Sha_R5 true)
def sum_Sha_R4 : List Itm := [.one ⟨some 13, .move (.tmp 4), none⟩,
  .one ⟨some 14, .slice 9 (.tmp 13) (some (.const (.int .i64 64))) none none, none⟩,
  .one ⟨some 4, .assign (.tmp 14), none⟩]
def sum_Sha_W1 : MCode := (.seq (.seq (.reg 3 sum_Sha_R3 false) (.cond (.tmp 12) .skip (.exit 0))) (.seq (.block 1 sum_Sha_B1) (.reg 4 sum_Sha_R4 false)))
def sum_Sha_B0 : MCode := (.loop sum_Sha_W1)
def sum_Sha_R6 : List Itm := [.one ⟨some 5, .assign (.const (.slice none 0 0)), none⟩]
def sum_Sha_R7 : List Itm := [.one ⟨some 19, .load 225 (.tmp 3), none⟩,
  .one ⟨some 20, .move (.const (.int .i64 0)), none⟩]
def sum_Sha_R8 : List Itm := [.one ⟨some 21, .binOp .lss 3 (.tmp 20) (.const (.int .i64 8)) 3, none⟩]
def sum_Sha_R9 : List Itm := [.one ⟨some 22, .index 225 (.tmp 19) (.tmp 20), none⟩,
  .one ⟨some 7, .assign (.tmp 22), none⟩]
def sum_Sha_R10 : List Itm := [.one ⟨some 23, .move (.tmp 5), none⟩,
  .one ⟨some 24, .move (.tmp 7), none⟩,
  .one ⟨some 25, .binOp .shr 200 (.tmp 24) (.const (.int .u64 24)) 165, none⟩,
  .one ⟨some 26, .convert 200 5 (.tmp 25), none⟩,
  .one ⟨some 27, .move (.tmp 7), none⟩,
  .one ⟨some 28, .binOp .shr 200 (.tmp 27) (.const (.int .u64 16)) 165, none⟩,
  .one ⟨some 29, .convert 200 5 (.tmp 28), none⟩,
  .one ⟨some 30, .move (.tmp 7), none⟩,
  .one ⟨some 31, .binOp .shr 200 (.tmp 30) (.const (.int .u64 8)) 165, none⟩,
  .one ⟨some 32, .convert 200 5 (.tmp 31), none⟩,
  .one ⟨some 33, .move (.tmp 7), none⟩,
  .one ⟨some 34, .convert 200 5 (.tmp 33), none⟩,
  .one ⟨some 35, .buildSlice 207 4 #[(0, .tmp 26), (1, .tmp 29), (2, .tmp 32), (3, .tmp 34)], none⟩,
  .one ⟨some 36, .call ⟨.builtin .append, #[.tmp 23, .tmp 35], #[207, 207]⟩, none⟩,
  .one ⟨some 5, .assign (.tmp 36), none⟩]
def sum_Sha_B3 : MCode := (.seq (.reg 9 sum_Sha_R9 false) (.reg 10 sum_Sha_R10 false))
def sum_Sha_R11 : List Itm := [.one ⟨some 37, .binOp .add 3 (.tmp 20) (.const (.int .i64 1)) 3, none⟩,
  .one ⟨some 20, .move (.tmp 37), none⟩]
def sum_Sha_W2 : MCode := (.seq (.reg 8 sum_Sha_R8 false) (.seq (.cond (.tmp 21) .skip (.exit 2)) (.seq (.block 3 sum_Sha_B3) (.reg 11 sum_Sha_R11 false))))
def sum_Sha_B2 : MCode := (.loop sum_Sha_W2)
def sum_Sha_R12 : List Itm := [.one ⟨some 38, .move (.tmp 5), none⟩,
  .one ⟨some 39, .convert 207 9 (.tmp 38), none⟩,
  .one ⟨some 2, .assign (.tmp 39), none⟩]
def sum_Sha_L : MCode := (.seq (.reg 0 sum_Sha_R0 false) (.seq (.reg 1 sum_Sha_R1 false) (.seq (.seq (.reg 2 sum_Sha_R2 false) (.block 0 sum_Sha_B0)) (.seq (.reg 6 sum_Sha_R6 false) (.seq (.seq (.reg 7 sum_Sha_R7 false) (.block 2 sum_Sha_B2)) (.seq (.reg 12 sum_Sha_R12 false) .ret))))))
def sum_Sha_ks : Nat → List Nat := fun i => match i with
  | 5 => [4, 0, 0, 0, 3]
  | _ => []
theorem sum_Sha_F : FnL Tryz.prog GW 126 40 sum_Sha_L [.tmp 2] sum_Sha_ks := ⟨⟨_, Tryz.func126, rfl, by kernel_rfl, by kernel_rfl, rfl⟩, by kernel_rfl, by kernel_rfl⟩
end Go.Proofs.YthkmfboffnhkaaaGreatDoor
