/-
  The light code of functions: printed by wip/tools/gen.py.
-/
import Derived.Test.YthkmfboffnhkaaaGreatDoorTY
namespace Go.Proofs.YthkmfboffnhkaaaGreatDoor
open Go Go.L1
set_option linter.all false
set_option maxRecDepth 100000
/-! agora/sum.start -/
def sum_start_R0 : List Itm := [.one ⟨some 0, Op.alloc 225, none⟩]
def sum_start_R1 : List Itm := [.one ⟨some 1, Op.build 225 #[(0, Operand.const (Value.int IntKind.u32 1779033703)), (1, Operand.const (Value.int IntKind.u32 3144134277)), (2, Operand.const (Value.int IntKind.u32 1013904242)), (3, Operand.const (Value.int IntKind.u32 2773480762)), (4, Operand.const (Value.int IntKind.u32 1359893119)), (5, Operand.const (Value.int IntKind.u32 2600822924)), (6, Operand.const (Value.int IntKind.u32 528734635)), (7, Operand.const (Value.int IntKind.u32 1541459225))], none⟩,
  .one ⟨none, Op.store 225 (Operand.tmp 0) (Operand.tmp 1), none⟩]
def sum_start_L : MCode := (.seq (.reg 0 sum_start_R0 false) (.seq (.reg 1 sum_start_R1 false) .ret))
def sum_start_ks : Nat → List Nat := fun i => match i with
  | _ => []
theorem sum_start_hl : Tryz.f168.body.map light = some sum_start_L.flat := by kernel_rfl
theorem sum_start_hk : sum_start_L.ok = true := by kernel_rfl
theorem sum_start_hb : Tryz.f168.body.map (codeB 2 sum_start_ks) = some true := by kernel_rfl
theorem sum_start_hr : Tryz.f168.results.toList = [ResultVar.cell 0 225] := rfl
theorem sum_start_hn : fnB Tryz.prog 168 = true := by kernel_rfl
theorem sum_start_pu {args : List V} {st : List SO} {res : V} (an : Ann) (ha : args.length ≤ 2) (hres : noRef res = true) (h : wpM ⟨Tryz.prog, GW, 2, st.length⟩ an sum_start_ks sum_start_L (argE args 0) st (EndsP ⟨Tryz.prog, GW, 2, st.length⟩ [ResultVar.cell 0 225] res st)) : FnOK Tryz.prog GW 168 args st res st :=
  fn_pure Tryz.func168 sum_start_hr sum_start_hl sum_start_hk sum_start_hb rfl sum_start_hn an ha hres h
/-! agora/sum.padded -/
def sum_padded_R0 : List Itm := [.one ⟨some 2, Op.assign (Operand.const (Value.string { data := #[] })), none⟩]
def sum_padded_R1 : List Itm := [.one ⟨some 3, Op.alloc 213, none⟩]
def sum_padded_R2 : List Itm := [.one ⟨some 6, Op.move (Operand.tmp 0), none⟩,
  .one ⟨some 7, Op.call { callee := Callee.value (Operand.func 164), args := #[Operand.tmp 3, Operand.tmp 6], argTypes := #[213, 9] }, none⟩]
def sum_padded_R3 : List Itm := [.one ⟨some 8, Op.call { callee := Callee.value (Operand.func 209), args := #[Operand.tmp 3, Operand.const (Value.int IntKind.u8 128)], argTypes := #[213, 5] }, none⟩]
def sum_padded_R4 : List Itm := [.one ⟨some 9, Op.call { callee := Callee.value (Operand.func 210), args := #[Operand.tmp 3], argTypes := #[213] }, none⟩,
  .one ⟨some 10, Op.binOp BinOp.rem 3 (Operand.tmp 9) (Operand.const (Value.int IntKind.i64 64)) 3, none⟩,
  .one ⟨some 11, Op.binOp BinOp.neq 3 (Operand.tmp 10) (Operand.const (Value.int IntKind.i64 56)) 3, none⟩]
def sum_padded_R5 : List Itm := [.one ⟨some 12, Op.call { callee := Callee.value (Operand.func 209), args := #[Operand.tmp 3, Operand.const (Value.int IntKind.u8 0)], argTypes := #[213, 5] }, none⟩]
def sum_padded_B1 : MCode := (.reg 5 sum_padded_R5 false)
def sum_padded_W1 : MCode := (.seq (.seq (.reg 4 sum_padded_R4 false) (.cond (Operand.tmp 11) .skip (.exit 0))) (.block 1 sum_padded_B1))
def sum_padded_B0 : MCode := (.loop sum_padded_W1)
def sum_padded_R6 : List Itm := [.one ⟨some 13, Op.move (Operand.tmp 0), none⟩,
  .one ⟨some 14, Op.call { callee := Callee.builtin Builtin.len, args := #[Operand.tmp 13], argTypes := #[9] }, none⟩,
  .one ⟨some 15, Op.convert 3 202 (Operand.tmp 14), none⟩,
  .one ⟨some 16, Op.binOp BinOp.mul 202 (Operand.tmp 15) (Operand.const (Value.int IntKind.u64 8)) 202, none⟩,
  .one ⟨some 4, Op.assign (Operand.tmp 16), none⟩]
def sum_padded_R7 : List Itm := [.one ⟨some 5, Op.assign (Operand.const (Value.int IntKind.i64 56)), none⟩]
def sum_padded_R8 : List Itm := [.one ⟨some 17, Op.move (Operand.tmp 5), none⟩,
  .one ⟨some 18, Op.binOp BinOp.geq 3 (Operand.tmp 17) (Operand.const (Value.int IntKind.i64 0)) 3, none⟩]
def sum_padded_R10 : List Itm := [.one ⟨some 21, Op.move (Operand.tmp 4), none⟩,
  .one ⟨some 22, Op.move (Operand.tmp 5), none⟩,
  .one ⟨some 23, Op.binOp BinOp.shr 202 (Operand.tmp 21) (Operand.tmp 22) 3, none⟩,
  .one ⟨some 24, Op.convert 202 5 (Operand.tmp 23), none⟩,
  .one ⟨some 25, Op.call { callee := Callee.value (Operand.func 209), args := #[Operand.tmp 3, Operand.tmp 24], argTypes := #[213, 5] }, none⟩]
def sum_padded_B3 : MCode := (.reg 10 sum_padded_R10 false)
def sum_padded_R9 : List Itm := [.one ⟨some 19, Op.move (Operand.tmp 5), none⟩,
  .one ⟨some 20, Op.binOp BinOp.sub 3 (Operand.tmp 19) (Operand.const (Value.int IntKind.i64 8)) 3, none⟩,
  .one ⟨some 5, Op.assign (Operand.tmp 20), none⟩]
def sum_padded_W2 : MCode := (.seq (.seq (.reg 8 sum_padded_R8 false) (.cond (Operand.tmp 18) .skip (.exit 2))) (.seq (.block 3 sum_padded_B3) (.reg 9 sum_padded_R9 false)))
def sum_padded_B2 : MCode := (.loop sum_padded_W2)
def sum_padded_R11 : List Itm := [.one ⟨some 26, Op.call { callee := Callee.value (Operand.func 167), args := #[Operand.tmp 3], argTypes := #[213] }, none⟩,
  .one ⟨some 2, Op.assign (Operand.tmp 26), none⟩]
def sum_padded_L : MCode := (.seq (.reg 0 sum_padded_R0 false) (.seq (.reg 1 sum_padded_R1 false) (.seq (.reg 2 sum_padded_R2 false) (.seq (.reg 3 sum_padded_R3 false) (.seq (.block 0 sum_padded_B0) (.seq (.reg 6 sum_padded_R6 false) (.seq (.seq (.reg 7 sum_padded_R7 false) (.block 2 sum_padded_B2)) (.seq (.reg 11 sum_padded_R11 false) .ret))))))))
def sum_padded_ks : Nat → List Nat := fun i => match i with
  | _ => []
theorem sum_padded_hl : Tryz.f169.body.map light = some sum_padded_L.flat := by kernel_rfl
theorem sum_padded_hk : sum_padded_L.ok = true := by kernel_rfl
theorem sum_padded_hb : Tryz.f169.body.map (codeB 27 sum_padded_ks) = some true := by kernel_rfl
theorem sum_padded_hr : Tryz.f169.results.toList = [ResultVar.tmp 2] := rfl
theorem sum_padded_hn : fnB Tryz.prog 169 = true := by kernel_rfl
theorem sum_padded_pu {args : List V} {st : List SO} {res : V} (an : Ann) (ha : args.length ≤ 27) (hres : noRef res = true) (h : wpM ⟨Tryz.prog, GW, 27, st.length⟩ an sum_padded_ks sum_padded_L (argE args 0) st (EndsP ⟨Tryz.prog, GW, 27, st.length⟩ [ResultVar.tmp 2] res st)) : FnOK Tryz.prog GW 169 args st res st :=
  fn_pure Tryz.func169 sum_padded_hr sum_padded_hl sum_padded_hk sum_padded_hb rfl sum_padded_hn an ha hres h
/-! agora/sum.word -/
def sum_word_R0 : List Itm := [.one ⟨some 2, Op.assign (Operand.const (Value.int IntKind.u32 0)), none⟩]
def sum_word_R1 : List Itm := [.one ⟨some 3, Op.move (Operand.tmp 0), none⟩,
  .one ⟨some 4, Op.index 9 (Operand.tmp 3) (Operand.const (Value.int IntKind.i64 0)), none⟩,
  .one ⟨some 5, Op.convert 5 200 (Operand.tmp 4), none⟩,
  .one ⟨some 6, Op.binOp BinOp.shl 200 (Operand.tmp 5) (Operand.const (Value.int IntKind.u64 24)) 165, none⟩,
  .one ⟨some 7, Op.move (Operand.tmp 0), none⟩,
  .one ⟨some 8, Op.index 9 (Operand.tmp 7) (Operand.const (Value.int IntKind.i64 1)), none⟩,
  .one ⟨some 9, Op.convert 5 200 (Operand.tmp 8), none⟩,
  .one ⟨some 10, Op.binOp BinOp.shl 200 (Operand.tmp 9) (Operand.const (Value.int IntKind.u64 16)) 165, none⟩,
  .one ⟨some 11, Op.binOp BinOp.or 200 (Operand.tmp 6) (Operand.tmp 10) 200, none⟩,
  .one ⟨some 12, Op.move (Operand.tmp 0), none⟩,
  .one ⟨some 13, Op.index 9 (Operand.tmp 12) (Operand.const (Value.int IntKind.i64 2)), none⟩,
  .one ⟨some 14, Op.convert 5 200 (Operand.tmp 13), none⟩,
  .one ⟨some 15, Op.binOp BinOp.shl 200 (Operand.tmp 14) (Operand.const (Value.int IntKind.u64 8)) 165, none⟩,
  .one ⟨some 16, Op.binOp BinOp.or 200 (Operand.tmp 11) (Operand.tmp 15) 200, none⟩,
  .one ⟨some 17, Op.move (Operand.tmp 0), none⟩,
  .one ⟨some 18, Op.index 9 (Operand.tmp 17) (Operand.const (Value.int IntKind.i64 3)), none⟩,
  .one ⟨some 19, Op.convert 5 200 (Operand.tmp 18), none⟩,
  .one ⟨some 20, Op.binOp BinOp.or 200 (Operand.tmp 16) (Operand.tmp 19) 200, none⟩,
  .one ⟨some 2, Op.assign (Operand.tmp 20), none⟩]
def sum_word_L : MCode := (.seq (.reg 0 sum_word_R0 false) (.seq (.reg 1 sum_word_R1 true) .ret))
def sum_word_ks : Nat → List Nat := fun i => match i with
  | 1 => [0, 0, 0, 0, 0, 0, 0, 0, 0, 0, 0, 0, 0, 0, 0, 0, 0, 0, 0]
  | _ => []
theorem sum_word_hl : Tryz.f231.body.map light = some sum_word_L.flat := by kernel_rfl
theorem sum_word_hk : sum_word_L.ok = true := by kernel_rfl
theorem sum_word_hb : Tryz.f231.body.map (codeB 21 sum_word_ks) = some true := by kernel_rfl
theorem sum_word_hr : Tryz.f231.results.toList = [ResultVar.tmp 2] := rfl
theorem sum_word_hn : fnB Tryz.prog 231 = true := by kernel_rfl
theorem sum_word_pu {args : List V} {st : List SO} {res : V} (an : Ann) (ha : args.length ≤ 21) (hres : noRef res = true) (h : wpM ⟨Tryz.prog, GW, 21, st.length⟩ an sum_word_ks sum_word_L (argE args 0) st (EndsP ⟨Tryz.prog, GW, 21, st.length⟩ [ResultVar.tmp 2] res st)) : FnOK Tryz.prog GW 231 args st res st :=
  fn_pure Tryz.func231 sum_word_hr sum_word_hl sum_word_hk sum_word_hb rfl sum_word_hn an ha hres h
/-! math/bits.RotateLeft32 -/
def math_bits_RotateLeft32_R0 : List Itm := [.one ⟨some 4, Op.assign (Operand.const (Value.int IntKind.u32 0)), none⟩]
def math_bits_RotateLeft32_R1 : List Itm := [.one ⟨some 6, Op.move (Operand.tmp 1), none⟩,
  .one ⟨some 7, Op.convert 3 165 (Operand.tmp 6), none⟩,
  .one ⟨some 8, Op.binOp BinOp.and 165 (Operand.tmp 7) (Operand.const (Value.int IntKind.u64 31)) 165, none⟩,
  .one ⟨some 5, Op.assign (Operand.tmp 8), none⟩]
def math_bits_RotateLeft32_R2 : List Itm := [.one ⟨some 9, Op.move (Operand.tmp 0), none⟩,
  .one ⟨some 10, Op.move (Operand.tmp 5), none⟩,
  .one ⟨some 11, Op.binOp BinOp.shl 200 (Operand.tmp 9) (Operand.tmp 10) 165, none⟩,
  .one ⟨some 12, Op.move (Operand.tmp 0), none⟩,
  .one ⟨some 13, Op.move (Operand.tmp 5), none⟩,
  .one ⟨some 14, Op.binOp BinOp.sub 165 (Operand.const (Value.int IntKind.u64 32)) (Operand.tmp 13) 165, none⟩,
  .one ⟨some 15, Op.binOp BinOp.shr 200 (Operand.tmp 12) (Operand.tmp 14) 165, none⟩,
  .one ⟨some 16, Op.binOp BinOp.or 200 (Operand.tmp 11) (Operand.tmp 15) 200, none⟩,
  .one ⟨some 4, Op.assign (Operand.tmp 16), none⟩]
def math_bits_RotateLeft32_L : MCode := (.seq (.reg 0 math_bits_RotateLeft32_R0 false) (.seq (.reg 1 math_bits_RotateLeft32_R1 false) (.seq (.reg 2 math_bits_RotateLeft32_R2 false) .ret)))
def math_bits_RotateLeft32_ks : Nat → List Nat := fun i => match i with
  | _ => []
theorem math_bits_RotateLeft32_hl : Tryz.f232.body.map light = some math_bits_RotateLeft32_L.flat := by kernel_rfl
theorem math_bits_RotateLeft32_hk : math_bits_RotateLeft32_L.ok = true := by kernel_rfl
theorem math_bits_RotateLeft32_hb : Tryz.f232.body.map (codeB 17 math_bits_RotateLeft32_ks) = some true := by kernel_rfl
theorem math_bits_RotateLeft32_hr : Tryz.f232.results.toList = [ResultVar.tmp 4] := rfl
theorem math_bits_RotateLeft32_hn : fnB Tryz.prog 232 = true := by kernel_rfl
theorem math_bits_RotateLeft32_pu {args : List V} {st : List SO} {res : V} (an : Ann) (ha : args.length ≤ 17) (hres : noRef res = true) (h : wpM ⟨Tryz.prog, GW, 17, st.length⟩ an math_bits_RotateLeft32_ks math_bits_RotateLeft32_L (argE args 0) st (EndsP ⟨Tryz.prog, GW, 17, st.length⟩ [ResultVar.tmp 4] res st)) : FnOK Tryz.prog GW 232 args st res st :=
  fn_pure Tryz.func232 math_bits_RotateLeft32_hr math_bits_RotateLeft32_hl math_bits_RotateLeft32_hk math_bits_RotateLeft32_hb rfl math_bits_RotateLeft32_hn an ha hres h
/-! agora/sum.schedule -/
def sum_schedule_R0 : List Itm := [.one ⟨some 2, Op.alloc 265, none⟩]
def sum_schedule_R1 : List Itm := [.one ⟨some 8, Op.move (Operand.const (Value.int IntKind.i64 0)), none⟩]
def sum_schedule_R2 : List Itm := [.one ⟨some 9, Op.binOp BinOp.lss 3 (Operand.tmp 8) (Operand.const (Value.int IntKind.i64 64)) 3, none⟩]
def sum_schedule_R3 : List Itm := [.one ⟨some 10, Op.move (Operand.tmp 8), none⟩,
  .one ⟨some 3, Op.assign (Operand.tmp 10), none⟩]
def sum_schedule_R4 : List Itm := [.one ⟨some 11, Op.move (Operand.tmp 3), none⟩,
  .one ⟨some 12, Op.binOp BinOp.lss 3 (Operand.tmp 11) (Operand.const (Value.int IntKind.i64 16)) 3, none⟩]
def sum_schedule_R5 : List Itm := [.one ⟨some 13, Op.move (Operand.tmp 3), none⟩,
  .one ⟨some 14, Op.move (Operand.tmp 0), none⟩,
  .one ⟨some 15, Op.move (Operand.tmp 3), none⟩,
  .one ⟨some 16, Op.binOp BinOp.mul 3 (Operand.const (Value.int IntKind.i64 4)) (Operand.tmp 15) 3, none⟩,
  .one ⟨some 17, Op.slice 9 (Operand.tmp 14) (some (Operand.tmp 16)) none none, none⟩,
  .one ⟨some 18, Op.call { callee := Callee.value (Operand.func 231), args := #[Operand.tmp 17], argTypes := #[9] }, none⟩,
  .one ⟨some 19, Op.indexAddr 265 (Operand.tmp 2) (Operand.tmp 13), none⟩,
  .one ⟨none, Op.store 200 (Operand.tmp 19) (Operand.tmp 18), none⟩]
def sum_schedule_R6 : List Itm := [.one ⟨some 20, Op.move (Operand.tmp 3), none⟩,
  .one ⟨some 21, Op.binOp BinOp.sub 3 (Operand.tmp 20) (Operand.const (Value.int IntKind.i64 15)) 3, none⟩,
  .one ⟨some 22, Op.indexAddr 265 (Operand.tmp 2) (Operand.tmp 21), none⟩,
  .one ⟨some 23, Op.load 200 (Operand.tmp 22), none⟩,
  .one ⟨some 24, Op.move (Operand.tmp 3), none⟩,
  .one ⟨some 25, Op.binOp BinOp.sub 3 (Operand.tmp 24) (Operand.const (Value.int IntKind.i64 2)) 3, none⟩,
  .one ⟨some 26, Op.indexAddr 265 (Operand.tmp 2) (Operand.tmp 25), none⟩,
  .one ⟨some 27, Op.load 200 (Operand.tmp 26), none⟩,
  .one ⟨some 4, Op.assign (Operand.tmp 23), none⟩,
  .one ⟨some 5, Op.assign (Operand.tmp 27), none⟩]
def sum_schedule_R7 : List Itm := [.one ⟨some 28, Op.move (Operand.tmp 4), none⟩,
  .one ⟨some 29, Op.call { callee := Callee.value (Operand.func 232), args := #[Operand.tmp 28, Operand.const (Value.int IntKind.i64 (-7))], argTypes := #[200, 3] }, none⟩,
  .one ⟨some 30, Op.move (Operand.tmp 4), none⟩,
  .one ⟨some 31, Op.call { callee := Callee.value (Operand.func 232), args := #[Operand.tmp 30, Operand.const (Value.int IntKind.i64 (-18))], argTypes := #[200, 3] }, none⟩,
  .one ⟨some 32, Op.binOp BinOp.xor 200 (Operand.tmp 29) (Operand.tmp 31) 200, none⟩,
  .one ⟨some 33, Op.move (Operand.tmp 4), none⟩,
  .one ⟨some 34, Op.binOp BinOp.shr 200 (Operand.tmp 33) (Operand.const (Value.int IntKind.u64 3)) 165, none⟩,
  .one ⟨some 35, Op.binOp BinOp.xor 200 (Operand.tmp 32) (Operand.tmp 34) 200, none⟩,
  .one ⟨some 6, Op.assign (Operand.tmp 35), none⟩]
def sum_schedule_R8 : List Itm := [.one ⟨some 36, Op.move (Operand.tmp 5), none⟩,
  .one ⟨some 37, Op.call { callee := Callee.value (Operand.func 232), args := #[Operand.tmp 36, Operand.const (Value.int IntKind.i64 (-17))], argTypes := #[200, 3] }, none⟩,
  .one ⟨some 38, Op.move (Operand.tmp 5), none⟩,
  .one ⟨some 39, Op.call { callee := Callee.value (Operand.func 232), args := #[Operand.tmp 38, Operand.const (Value.int IntKind.i64 (-19))], argTypes := #[200, 3] }, none⟩,
  .one ⟨some 40, Op.binOp BinOp.xor 200 (Operand.tmp 37) (Operand.tmp 39) 200, none⟩,
  .one ⟨some 41, Op.move (Operand.tmp 5), none⟩,
  .one ⟨some 42, Op.binOp BinOp.shr 200 (Operand.tmp 41) (Operand.const (Value.int IntKind.u64 10)) 165, none⟩,
  .one ⟨some 43, Op.binOp BinOp.xor 200 (Operand.tmp 40) (Operand.tmp 42) 200, none⟩,
  .one ⟨some 7, Op.assign (Operand.tmp 43), none⟩]
def sum_schedule_R9 : List Itm := [.one ⟨some 44, Op.move (Operand.tmp 3), none⟩,
  .one ⟨some 45, Op.move (Operand.tmp 3), none⟩,
  .one ⟨some 46, Op.binOp BinOp.sub 3 (Operand.tmp 45) (Operand.const (Value.int IntKind.i64 16)) 3, none⟩,
  .one ⟨some 47, Op.indexAddr 265 (Operand.tmp 2) (Operand.tmp 46), none⟩,
  .one ⟨some 48, Op.load 200 (Operand.tmp 47), none⟩,
  .one ⟨some 49, Op.move (Operand.tmp 6), none⟩,
  .one ⟨some 50, Op.binOp BinOp.add 200 (Operand.tmp 48) (Operand.tmp 49) 200, none⟩,
  .one ⟨some 51, Op.move (Operand.tmp 3), none⟩,
  .one ⟨some 52, Op.binOp BinOp.sub 3 (Operand.tmp 51) (Operand.const (Value.int IntKind.i64 7)) 3, none⟩,
  .one ⟨some 53, Op.indexAddr 265 (Operand.tmp 2) (Operand.tmp 52), none⟩,
  .one ⟨some 54, Op.load 200 (Operand.tmp 53), none⟩,
  .one ⟨some 55, Op.binOp BinOp.add 200 (Operand.tmp 50) (Operand.tmp 54) 200, none⟩,
  .one ⟨some 56, Op.move (Operand.tmp 7), none⟩,
  .one ⟨some 57, Op.binOp BinOp.add 200 (Operand.tmp 55) (Operand.tmp 56) 200, none⟩,
  .one ⟨some 58, Op.indexAddr 265 (Operand.tmp 2) (Operand.tmp 44), none⟩,
  .one ⟨none, Op.store 200 (Operand.tmp 58) (Operand.tmp 57), none⟩]
def sum_schedule_B1 : MCode := (.seq (.reg 3 sum_schedule_R3 false) (.seq (.seq (.reg 4 sum_schedule_R4 false) (.cond (Operand.tmp 12) (.seq (.reg 5 sum_schedule_R5 false) (.exit 1)) .skip)) (.seq (.reg 6 sum_schedule_R6 true) (.seq (.reg 7 sum_schedule_R7 false) (.seq (.reg 8 sum_schedule_R8 false) (.reg 9 sum_schedule_R9 true))))))
def sum_schedule_R10 : List Itm := [.one ⟨some 59, Op.binOp BinOp.add 3 (Operand.tmp 8) (Operand.const (Value.int IntKind.i64 1)) 3, none⟩,
  .one ⟨some 8, Op.move (Operand.tmp 59), none⟩]
def sum_schedule_W1 : MCode := (.seq (.reg 2 sum_schedule_R2 false) (.seq (.cond (Operand.tmp 9) .skip (.exit 0)) (.seq (.block 1 sum_schedule_B1) (.reg 10 sum_schedule_R10 false))))
def sum_schedule_B0 : MCode := (.loop sum_schedule_W1)
def sum_schedule_R11 : List Itm := [.one ⟨some 60, Op.load 265 (Operand.tmp 2), none⟩,
  .one ⟨none, Op.store 265 (Operand.tmp 2) (Operand.tmp 60), none⟩]
def sum_schedule_L : MCode := (.seq (.reg 0 sum_schedule_R0 false) (.seq (.seq (.reg 1 sum_schedule_R1 false) (.block 0 sum_schedule_B0)) (.seq (.reg 11 sum_schedule_R11 false) .ret)))
def sum_schedule_ks : Nat → List Nat := fun i => match i with
  | 6 => [0, 0, 0, 0, 0, 0, 0, 0, 0, 0]
  | 9 => [0, 0, 0, 0, 0, 0, 0, 0, 0, 0, 0, 0, 0, 0, 0, 2]
  | _ => []
theorem sum_schedule_hl : Tryz.f211.body.map light = some sum_schedule_L.flat := by kernel_rfl
theorem sum_schedule_hk : sum_schedule_L.ok = true := by kernel_rfl
theorem sum_schedule_hb : Tryz.f211.body.map (codeB 61 sum_schedule_ks) = some true := by kernel_rfl
theorem sum_schedule_hr : Tryz.f211.results.toList = [ResultVar.cell 2 265] := rfl
theorem sum_schedule_hn : fnB Tryz.prog 211 = true := by kernel_rfl
theorem sum_schedule_pu {args : List V} {st : List SO} {res : V} (an : Ann) (ha : args.length ≤ 61) (hres : noRef res = true) (h : wpM ⟨Tryz.prog, GW, 61, st.length⟩ an sum_schedule_ks sum_schedule_L (argE args 0) st (EndsP ⟨Tryz.prog, GW, 61, st.length⟩ [ResultVar.cell 2 265] res st)) : FnOK Tryz.prog GW 211 args st res st :=
  fn_pure Tryz.func211 sum_schedule_hr sum_schedule_hl sum_schedule_hk sum_schedule_hb rfl sum_schedule_hn an ha hres h
/-! agora/sum.constants -/
def sum_constants_R0 : List Itm := [.one ⟨some 0, Op.alloc 265, none⟩]
def sum_constants_R1 : List Itm := [.one ⟨some 1, Op.build 265 #[(0, Operand.const (Value.int IntKind.u32 1116352408)), (1, Operand.const (Value.int IntKind.u32 1899447441)), (2, Operand.const (Value.int IntKind.u32 3049323471)), (3, Operand.const (Value.int IntKind.u32 3921009573)), (4, Operand.const (Value.int IntKind.u32 961987163)), (5, Operand.const (Value.int IntKind.u32 1508970993)), (6, Operand.const (Value.int IntKind.u32 2453635748)), (7, Operand.const (Value.int IntKind.u32 2870763221)), (8, Operand.const (Value.int IntKind.u32 3624381080)), (9, Operand.const (Value.int IntKind.u32 310598401)), (10, Operand.const (Value.int IntKind.u32 607225278)), (11, Operand.const (Value.int IntKind.u32 1426881987)), (12, Operand.const (Value.int IntKind.u32 1925078388)), (13, Operand.const (Value.int IntKind.u32 2162078206)), (14, Operand.const (Value.int IntKind.u32 2614888103)), (15, Operand.const (Value.int IntKind.u32 3248222580)), (16, Operand.const (Value.int IntKind.u32 3835390401)), (17, Operand.const (Value.int IntKind.u32 4022224774)), (18, Operand.const (Value.int IntKind.u32 264347078)), (19, Operand.const (Value.int IntKind.u32 604807628)), (20, Operand.const (Value.int IntKind.u32 770255983)), (21, Operand.const (Value.int IntKind.u32 1249150122)), (22, Operand.const (Value.int IntKind.u32 1555081692)), (23, Operand.const (Value.int IntKind.u32 1996064986)), (24, Operand.const (Value.int IntKind.u32 2554220882)), (25, Operand.const (Value.int IntKind.u32 2821834349)), (26, Operand.const (Value.int IntKind.u32 2952996808)), (27, Operand.const (Value.int IntKind.u32 3210313671)), (28, Operand.const (Value.int IntKind.u32 3336571891)), (29, Operand.const (Value.int IntKind.u32 3584528711)), (30, Operand.const (Value.int IntKind.u32 113926993)), (31, Operand.const (Value.int IntKind.u32 338241895)), (32, Operand.const (Value.int IntKind.u32 666307205)), (33, Operand.const (Value.int IntKind.u32 773529912)), (34, Operand.const (Value.int IntKind.u32 1294757372)), (35, Operand.const (Value.int IntKind.u32 1396182291)), (36, Operand.const (Value.int IntKind.u32 1695183700)), (37, Operand.const (Value.int IntKind.u32 1986661051)), (38, Operand.const (Value.int IntKind.u32 2177026350)), (39, Operand.const (Value.int IntKind.u32 2456956037)), (40, Operand.const (Value.int IntKind.u32 2730485921)), (41, Operand.const (Value.int IntKind.u32 2820302411)), (42, Operand.const (Value.int IntKind.u32 3259730800)), (43, Operand.const (Value.int IntKind.u32 3345764771)), (44, Operand.const (Value.int IntKind.u32 3516065817)), (45, Operand.const (Value.int IntKind.u32 3600352804)), (46, Operand.const (Value.int IntKind.u32 4094571909)), (47, Operand.const (Value.int IntKind.u32 275423344)), (48, Operand.const (Value.int IntKind.u32 430227734)), (49, Operand.const (Value.int IntKind.u32 506948616)), (50, Operand.const (Value.int IntKind.u32 659060556)), (51, Operand.const (Value.int IntKind.u32 883997877)), (52, Operand.const (Value.int IntKind.u32 958139571)), (53, Operand.const (Value.int IntKind.u32 1322822218)), (54, Operand.const (Value.int IntKind.u32 1537002063)), (55, Operand.const (Value.int IntKind.u32 1747873779)), (56, Operand.const (Value.int IntKind.u32 1955562222)), (57, Operand.const (Value.int IntKind.u32 2024104815)), (58, Operand.const (Value.int IntKind.u32 2227730452)), (59, Operand.const (Value.int IntKind.u32 2361852424)), (60, Operand.const (Value.int IntKind.u32 2428436474)), (61, Operand.const (Value.int IntKind.u32 2756734187)), (62, Operand.const (Value.int IntKind.u32 3204031479)), (63, Operand.const (Value.int IntKind.u32 3329325298))], none⟩,
  .one ⟨none, Op.store 265 (Operand.tmp 0) (Operand.tmp 1), none⟩]
def sum_constants_L : MCode := (.seq (.reg 0 sum_constants_R0 false) (.seq (.reg 1 sum_constants_R1 false) .ret))
def sum_constants_ks : Nat → List Nat := fun i => match i with
  | _ => []
theorem sum_constants_hl : Tryz.f212.body.map light = some sum_constants_L.flat := by kernel_rfl
theorem sum_constants_hk : sum_constants_L.ok = true := by kernel_rfl
theorem sum_constants_hb : Tryz.f212.body.map (codeB 2 sum_constants_ks) = some true := by kernel_rfl
theorem sum_constants_hr : Tryz.f212.results.toList = [ResultVar.cell 0 265] := rfl
theorem sum_constants_hn : fnB Tryz.prog 212 = true := by kernel_rfl
theorem sum_constants_pu {args : List V} {st : List SO} {res : V} (an : Ann) (ha : args.length ≤ 2) (hres : noRef res = true) (h : wpM ⟨Tryz.prog, GW, 2, st.length⟩ an sum_constants_ks sum_constants_L (argE args 0) st (EndsP ⟨Tryz.prog, GW, 2, st.length⟩ [ResultVar.cell 0 265] res st)) : FnOK Tryz.prog GW 212 args st res st :=
  fn_pure Tryz.func212 sum_constants_hr sum_constants_hl sum_constants_hk sum_constants_hb rfl sum_constants_hn an ha hres h
/-! agora/sum.rotations -/
def sum_rotations_R0 : List Itm := [.one ⟨some 8, Op.assign (Operand.const (Value.int IntKind.u32 0)), none⟩]
def sum_rotations_R1 : List Itm := [.one ⟨some 9, Op.move (Operand.tmp 0), none⟩,
  .one ⟨some 10, Op.move (Operand.tmp 1), none⟩,
  .one ⟨some 11, Op.unOp UnOp.neg 3 (Operand.tmp 10), none⟩,
  .one ⟨some 12, Op.call { callee := Callee.value (Operand.func 232), args := #[Operand.tmp 9, Operand.tmp 11], argTypes := #[200, 3] }, none⟩,
  .one ⟨some 13, Op.move (Operand.tmp 0), none⟩,
  .one ⟨some 14, Op.move (Operand.tmp 2), none⟩,
  .one ⟨some 15, Op.unOp UnOp.neg 3 (Operand.tmp 14), none⟩,
  .one ⟨some 16, Op.call { callee := Callee.value (Operand.func 232), args := #[Operand.tmp 13, Operand.tmp 15], argTypes := #[200, 3] }, none⟩,
  .one ⟨some 17, Op.binOp BinOp.xor 200 (Operand.tmp 12) (Operand.tmp 16) 200, none⟩,
  .one ⟨some 18, Op.move (Operand.tmp 0), none⟩,
  .one ⟨some 19, Op.move (Operand.tmp 3), none⟩,
  .one ⟨some 20, Op.unOp UnOp.neg 3 (Operand.tmp 19), none⟩,
  .one ⟨some 21, Op.call { callee := Callee.value (Operand.func 232), args := #[Operand.tmp 18, Operand.tmp 20], argTypes := #[200, 3] }, none⟩,
  .one ⟨some 22, Op.binOp BinOp.xor 200 (Operand.tmp 17) (Operand.tmp 21) 200, none⟩,
  .one ⟨some 8, Op.assign (Operand.tmp 22), none⟩]
def sum_rotations_L : MCode := (.seq (.reg 0 sum_rotations_R0 false) (.seq (.reg 1 sum_rotations_R1 false) .ret))
def sum_rotations_ks : Nat → List Nat := fun i => match i with
  | _ => []
theorem sum_rotations_hl : Tryz.f213.body.map light = some sum_rotations_L.flat := by kernel_rfl
theorem sum_rotations_hk : sum_rotations_L.ok = true := by kernel_rfl
theorem sum_rotations_hb : Tryz.f213.body.map (codeB 23 sum_rotations_ks) = some true := by kernel_rfl
theorem sum_rotations_hr : Tryz.f213.results.toList = [ResultVar.tmp 8] := rfl
theorem sum_rotations_hn : fnB Tryz.prog 213 = true := by kernel_rfl
theorem sum_rotations_pu {args : List V} {st : List SO} {res : V} (an : Ann) (ha : args.length ≤ 23) (hres : noRef res = true) (h : wpM ⟨Tryz.prog, GW, 23, st.length⟩ an sum_rotations_ks sum_rotations_L (argE args 0) st (EndsP ⟨Tryz.prog, GW, 23, st.length⟩ [ResultVar.tmp 8] res st)) : FnOK Tryz.prog GW 213 args st res st :=
  fn_pure Tryz.func213 sum_rotations_hr sum_rotations_hl sum_rotations_hk sum_rotations_hb rfl sum_rotations_hn an ha hres h
/-! (agora/sum.state).step -/
def sum_state_step_R0 : List Itm := [.one ⟨some 2, Op.box 225 (Operand.tmp 0), none⟩,
  .one ⟨some 4, Op.alloc 225, none⟩]
def sum_state_step_R1 : List Itm := [.one ⟨some 14, Op.move (Operand.tmp 1), none⟩,
  .one ⟨some 15, Op.call { callee := Callee.value (Operand.func 211), args := #[Operand.tmp 14], argTypes := #[9] }, none⟩,
  .one ⟨some 16, Op.call { callee := Callee.value (Operand.func 212), args := #[], argTypes := #[] }, none⟩,
  .one ⟨some 17, Op.load 225 (Operand.tmp 2), none⟩,
  .one ⟨some 5, Op.alloc 265, none⟩,
  .one ⟨some 6, Op.alloc 265, none⟩,
  .one ⟨some 7, Op.alloc 225, none⟩,
  .one ⟨none, Op.store 265 (Operand.tmp 5) (Operand.tmp 15), none⟩,
  .one ⟨none, Op.store 265 (Operand.tmp 6) (Operand.tmp 16), none⟩,
  .one ⟨none, Op.store 225 (Operand.tmp 7) (Operand.tmp 17), none⟩]
def sum_state_step_R2 : List Itm := [.one ⟨some 18, Op.move (Operand.const (Value.int IntKind.i64 0)), none⟩]
def sum_state_step_R3 : List Itm := [.one ⟨some 19, Op.binOp BinOp.lss 3 (Operand.tmp 18) (Operand.const (Value.int IntKind.i64 64)) 3, none⟩]
def sum_state_step_R4 : List Itm := [.one ⟨some 20, Op.move (Operand.tmp 18), none⟩,
  .one ⟨some 8, Op.assign (Operand.tmp 20), none⟩]
def sum_state_step_R5 : List Itm := [.one ⟨some 21, Op.indexAddr 225 (Operand.tmp 7) (Operand.const (Value.int IntKind.i64 0)), none⟩,
  .one ⟨some 22, Op.load 200 (Operand.tmp 21), none⟩,
  .one ⟨some 23, Op.indexAddr 225 (Operand.tmp 7) (Operand.const (Value.int IntKind.i64 4)), none⟩,
  .one ⟨some 24, Op.load 200 (Operand.tmp 23), none⟩,
  .one ⟨some 9, Op.assign (Operand.tmp 22), none⟩,
  .one ⟨some 10, Op.assign (Operand.tmp 24), none⟩]
def sum_state_step_R6 : List Itm := [.one ⟨some 25, Op.indexAddr 225 (Operand.tmp 7) (Operand.const (Value.int IntKind.i64 7)), none⟩,
  .one ⟨some 26, Op.load 200 (Operand.tmp 25), none⟩,
  .one ⟨some 27, Op.move (Operand.tmp 10), none⟩,
  .one ⟨some 28, Op.call { callee := Callee.value (Operand.func 213), args := #[Operand.tmp 27, Operand.const (Value.int IntKind.i64 6), Operand.const (Value.int IntKind.i64 11), Operand.const (Value.int IntKind.i64 25)], argTypes := #[200, 3, 3, 3] }, none⟩,
  .one ⟨some 29, Op.binOp BinOp.add 200 (Operand.tmp 26) (Operand.tmp 28) 200, none⟩,
  .one ⟨some 30, Op.move (Operand.tmp 10), none⟩,
  .one ⟨some 31, Op.indexAddr 225 (Operand.tmp 7) (Operand.const (Value.int IntKind.i64 5)), none⟩,
  .one ⟨some 32, Op.load 200 (Operand.tmp 31), none⟩,
  .one ⟨some 33, Op.binOp BinOp.and 200 (Operand.tmp 30) (Operand.tmp 32) 200, none⟩,
  .one ⟨some 34, Op.move (Operand.tmp 10), none⟩,
  .one ⟨some 35, Op.unOp UnOp.xor 200 (Operand.tmp 34), none⟩,
  .one ⟨some 36, Op.indexAddr 225 (Operand.tmp 7) (Operand.const (Value.int IntKind.i64 6)), none⟩,
  .one ⟨some 37, Op.load 200 (Operand.tmp 36), none⟩,
  .one ⟨some 38, Op.binOp BinOp.and 200 (Operand.tmp 35) (Operand.tmp 37) 200, none⟩,
  .one ⟨some 39, Op.binOp BinOp.xor 200 (Operand.tmp 33) (Operand.tmp 38) 200, none⟩,
  .one ⟨some 40, Op.binOp BinOp.add 200 (Operand.tmp 29) (Operand.tmp 39) 200, none⟩,
  .one ⟨some 41, Op.move (Operand.tmp 8), none⟩,
  .one ⟨some 42, Op.indexAddr 265 (Operand.tmp 6) (Operand.tmp 41), none⟩,
  .one ⟨some 43, Op.load 200 (Operand.tmp 42), none⟩,
  .one ⟨some 44, Op.binOp BinOp.add 200 (Operand.tmp 40) (Operand.tmp 43) 200, none⟩,
  .one ⟨some 45, Op.move (Operand.tmp 8), none⟩,
  .one ⟨some 46, Op.indexAddr 265 (Operand.tmp 5) (Operand.tmp 45), none⟩,
  .one ⟨some 47, Op.load 200 (Operand.tmp 46), none⟩,
  .one ⟨some 48, Op.binOp BinOp.add 200 (Operand.tmp 44) (Operand.tmp 47) 200, none⟩,
  .one ⟨some 11, Op.assign (Operand.tmp 48), none⟩]
def sum_state_step_R7 : List Itm := [.one ⟨some 49, Op.move (Operand.tmp 9), none⟩,
  .one ⟨some 50, Op.call { callee := Callee.value (Operand.func 213), args := #[Operand.tmp 49, Operand.const (Value.int IntKind.i64 2), Operand.const (Value.int IntKind.i64 13), Operand.const (Value.int IntKind.i64 22)], argTypes := #[200, 3, 3, 3] }, none⟩,
  .one ⟨some 51, Op.move (Operand.tmp 9), none⟩,
  .one ⟨some 52, Op.indexAddr 225 (Operand.tmp 7) (Operand.const (Value.int IntKind.i64 1)), none⟩,
  .one ⟨some 53, Op.load 200 (Operand.tmp 52), none⟩,
  .one ⟨some 54, Op.binOp BinOp.and 200 (Operand.tmp 51) (Operand.tmp 53) 200, none⟩,
  .one ⟨some 55, Op.move (Operand.tmp 9), none⟩,
  .one ⟨some 56, Op.indexAddr 225 (Operand.tmp 7) (Operand.const (Value.int IntKind.i64 2)), none⟩,
  .one ⟨some 57, Op.load 200 (Operand.tmp 56), none⟩,
  .one ⟨some 58, Op.binOp BinOp.and 200 (Operand.tmp 55) (Operand.tmp 57) 200, none⟩,
  .one ⟨some 59, Op.binOp BinOp.xor 200 (Operand.tmp 54) (Operand.tmp 58) 200, none⟩,
  .one ⟨some 60, Op.indexAddr 225 (Operand.tmp 7) (Operand.const (Value.int IntKind.i64 1)), none⟩,
  .one ⟨some 61, Op.load 200 (Operand.tmp 60), none⟩,
  .one ⟨some 62, Op.indexAddr 225 (Operand.tmp 7) (Operand.const (Value.int IntKind.i64 2)), none⟩,
  .one ⟨some 63, Op.load 200 (Operand.tmp 62), none⟩,
  .one ⟨some 64, Op.binOp BinOp.and 200 (Operand.tmp 61) (Operand.tmp 63) 200, none⟩,
  .one ⟨some 65, Op.binOp BinOp.xor 200 (Operand.tmp 59) (Operand.tmp 64) 200, none⟩,
  .one ⟨some 66, Op.binOp BinOp.add 200 (Operand.tmp 50) (Operand.tmp 65) 200, none⟩,
  .one ⟨some 12, Op.assign (Operand.tmp 66), none⟩]
def sum_state_step_R8 : List Itm := [.one ⟨some 67, Op.slice 225 (Operand.tmp 7) (some (Operand.const (Value.int IntKind.i64 1))) none none, none⟩,
  .one ⟨some 68, Op.slice 225 (Operand.tmp 7) none (some (Operand.const (Value.int IntKind.i64 7))) none, none⟩,
  .one ⟨some 69, Op.call { callee := Callee.builtin Builtin.copy, args := #[Operand.tmp 67, Operand.tmp 68], argTypes := #[269, 269] }, none⟩]
def sum_state_step_R9 : List Itm := [.one ⟨some 70, Op.indexAddr 225 (Operand.tmp 7) (Operand.const (Value.int IntKind.i64 4)), none⟩,
  .one ⟨some 71, Op.load 200 (Operand.tmp 70), none⟩,
  .one ⟨some 72, Op.move (Operand.tmp 11), none⟩,
  .one ⟨some 73, Op.binOp BinOp.add 200 (Operand.tmp 71) (Operand.tmp 72) 200, none⟩,
  .one ⟨some 74, Op.indexAddr 225 (Operand.tmp 7) (Operand.const (Value.int IntKind.i64 4)), none⟩,
  .one ⟨none, Op.store 200 (Operand.tmp 74) (Operand.tmp 73), none⟩]
def sum_state_step_R10 : List Itm := [.one ⟨some 75, Op.move (Operand.tmp 11), none⟩,
  .one ⟨some 76, Op.move (Operand.tmp 12), none⟩,
  .one ⟨some 77, Op.binOp BinOp.add 200 (Operand.tmp 75) (Operand.tmp 76) 200, none⟩,
  .one ⟨some 78, Op.indexAddr 225 (Operand.tmp 7) (Operand.const (Value.int IntKind.i64 0)), none⟩,
  .one ⟨none, Op.store 200 (Operand.tmp 78) (Operand.tmp 77), none⟩]
def sum_state_step_B1 : MCode := (.seq (.reg 4 sum_state_step_R4 false) (.seq (.reg 5 sum_state_step_R5 true) (.seq (.reg 6 sum_state_step_R6 true) (.seq (.reg 7 sum_state_step_R7 true) (.seq (.reg 8 sum_state_step_R8 true) (.seq (.reg 9 sum_state_step_R9 false) (.reg 10 sum_state_step_R10 false)))))))
def sum_state_step_R11 : List Itm := [.one ⟨some 79, Op.binOp BinOp.add 3 (Operand.tmp 18) (Operand.const (Value.int IntKind.i64 1)) 3, none⟩,
  .one ⟨some 18, Op.move (Operand.tmp 79), none⟩]
def sum_state_step_W1 : MCode := (.seq (.reg 3 sum_state_step_R3 false) (.seq (.cond (Operand.tmp 19) .skip (.exit 0)) (.seq (.block 1 sum_state_step_B1) (.reg 11 sum_state_step_R11 false))))
def sum_state_step_B0 : MCode := (.loop sum_state_step_W1)
def sum_state_step_R12 : List Itm := [.one ⟨some 80, Op.move (Operand.const (Value.int IntKind.i64 0)), none⟩]
def sum_state_step_R13 : List Itm := [.one ⟨some 81, Op.binOp BinOp.lss 3 (Operand.tmp 80) (Operand.const (Value.int IntKind.i64 8)) 3, none⟩]
def sum_state_step_R14 : List Itm := [.one ⟨some 82, Op.move (Operand.tmp 80), none⟩,
  .one ⟨some 13, Op.assign (Operand.tmp 82), none⟩]
def sum_state_step_R15 : List Itm := [.one ⟨some 83, Op.move (Operand.tmp 13), none⟩,
  .one ⟨some 84, Op.indexAddr 225 (Operand.tmp 7) (Operand.tmp 83), none⟩,
  .one ⟨some 85, Op.load 200 (Operand.tmp 84), none⟩,
  .one ⟨some 86, Op.move (Operand.tmp 13), none⟩,
  .one ⟨some 87, Op.indexAddr 225 (Operand.tmp 2) (Operand.tmp 86), none⟩,
  .one ⟨some 88, Op.load 200 (Operand.tmp 87), none⟩,
  .one ⟨some 89, Op.binOp BinOp.add 200 (Operand.tmp 85) (Operand.tmp 88) 200, none⟩,
  .one ⟨some 90, Op.indexAddr 225 (Operand.tmp 7) (Operand.tmp 83), none⟩,
  .one ⟨none, Op.store 200 (Operand.tmp 90) (Operand.tmp 89), none⟩]
def sum_state_step_B3 : MCode := (.seq (.reg 14 sum_state_step_R14 false) (.reg 15 sum_state_step_R15 true))
def sum_state_step_R16 : List Itm := [.one ⟨some 91, Op.binOp BinOp.add 3 (Operand.tmp 80) (Operand.const (Value.int IntKind.i64 1)) 3, none⟩,
  .one ⟨some 80, Op.move (Operand.tmp 91), none⟩]
def sum_state_step_W2 : MCode := (.seq (.reg 13 sum_state_step_R13 false) (.seq (.cond (Operand.tmp 81) .skip (.exit 2)) (.seq (.block 3 sum_state_step_B3) (.reg 16 sum_state_step_R16 false))))
def sum_state_step_B2 : MCode := (.loop sum_state_step_W2)
def sum_state_step_R17 : List Itm := [.one ⟨some 92, Op.load 225 (Operand.tmp 7), none⟩,
  .one ⟨none, Op.store 225 (Operand.tmp 4) (Operand.tmp 92), none⟩]
def sum_state_step_L : MCode := (.seq (.reg 0 sum_state_step_R0 false) (.seq (.reg 1 sum_state_step_R1 true) (.seq (.seq (.reg 2 sum_state_step_R2 false) (.block 0 sum_state_step_B0)) (.seq (.seq (.reg 12 sum_state_step_R12 false) (.block 2 sum_state_step_B2)) (.seq (.reg 17 sum_state_step_R17 false) .ret)))))
def sum_state_step_ks : Nat → List Nat := fun i => match i with
  | 1 => [0, 0, 0, 4, 0, 0, 0, 3, 3, 3]
  | 5 => [0, 1, 0, 1, 0, 0]
  | 6 => [0, 1, 0, 0, 0, 0, 0, 1, 0, 0, 0, 0, 1, 0, 0, 0, 0, 0, 1, 0, 0, 0, 1, 0, 0]
  | 7 => [0, 0, 0, 0, 1, 0, 0, 0, 1, 0, 0, 0, 1, 0, 1, 0, 0, 0, 0]
  | 8 => [0, 0, 2]
  | 15 => [0, 0, 1, 0, 0, 1, 0, 0, 2]
  | _ => []
theorem sum_state_step_hl : Tryz.f170.body.map light = some sum_state_step_L.flat := by kernel_rfl
theorem sum_state_step_hk : sum_state_step_L.ok = true := by kernel_rfl
theorem sum_state_step_hb : Tryz.f170.body.map (codeB 93 sum_state_step_ks) = some true := by kernel_rfl
theorem sum_state_step_hr : Tryz.f170.results.toList = [ResultVar.cell 4 225] := rfl
theorem sum_state_step_hn : fnB Tryz.prog 170 = true := by kernel_rfl
theorem sum_state_step_pu {args : List V} {st : List SO} {res : V} (an : Ann) (ha : args.length ≤ 93) (hres : noRef res = true) (h : wpM ⟨Tryz.prog, GW, 93, st.length⟩ an sum_state_step_ks sum_state_step_L (argE args 0) st (EndsP ⟨Tryz.prog, GW, 93, st.length⟩ [ResultVar.cell 4 225] res st)) : FnOK Tryz.prog GW 170 args st res st :=
  fn_pure Tryz.func170 sum_state_step_hr sum_state_step_hl sum_state_step_hk sum_state_step_hb rfl sum_state_step_hn an ha hres h
/-! agora/sum.Sha -/
def sum_Sha_R0 : List Itm := [.one ⟨some 2, Op.assign (Operand.const (Value.string { data := #[] })), none⟩]
def sum_Sha_R1 : List Itm := [.one ⟨some 8, Op.call { callee := Callee.value (Operand.func 168), args := #[], argTypes := #[] }, none⟩,
  .one ⟨some 3, Op.alloc 225, none⟩,
  .one ⟨none, Op.store 225 (Operand.tmp 3) (Operand.tmp 8), none⟩]
def sum_Sha_R2 : List Itm := [.one ⟨some 9, Op.move (Operand.tmp 0), none⟩,
  .one ⟨some 10, Op.call { callee := Callee.value (Operand.func 169), args := #[Operand.tmp 9], argTypes := #[9] }, none⟩,
  .one ⟨some 4, Op.assign (Operand.tmp 10), none⟩]
def sum_Sha_R3 : List Itm := [.one ⟨some 11, Op.move (Operand.tmp 4), none⟩,
  .one ⟨some 12, Op.binOp BinOp.neq 9 (Operand.tmp 11) (Operand.const (Value.string { data := #[] })) 9, none⟩]
def sum_Sha_R5 : List Itm := [.one ⟨some 15, Op.load 225 (Operand.tmp 3), none⟩,
  .one ⟨some 16, Op.move (Operand.tmp 4), none⟩,
  .one ⟨some 17, Op.slice 9 (Operand.tmp 16) none (some (Operand.const (Value.int IntKind.i64 64))) none, none⟩,
  .one ⟨some 18, Op.call { callee := Callee.value (Operand.func 170), args := #[Operand.tmp 15, Operand.tmp 17], argTypes := #[225, 9] }, none⟩,
  .one ⟨none, Op.store 225 (Operand.tmp 3) (Operand.tmp 18), none⟩]
def sum_Sha_B1 : MCode := (.reg 5 sum_Sha_R5 true)
def sum_Sha_R4 : List Itm := [.one ⟨some 13, Op.move (Operand.tmp 4), none⟩,
  .one ⟨some 14, Op.slice 9 (Operand.tmp 13) (some (Operand.const (Value.int IntKind.i64 64))) none none, none⟩,
  .one ⟨some 4, Op.assign (Operand.tmp 14), none⟩]
def sum_Sha_W1 : MCode := (.seq (.seq (.reg 3 sum_Sha_R3 false) (.cond (Operand.tmp 12) .skip (.exit 0))) (.seq (.block 1 sum_Sha_B1) (.reg 4 sum_Sha_R4 false)))
def sum_Sha_B0 : MCode := (.loop sum_Sha_W1)
def sum_Sha_R6 : List Itm := [.one ⟨some 5, Op.assign (Operand.const (Value.slice none 0 0)), none⟩]
def sum_Sha_R7 : List Itm := [.one ⟨some 19, Op.load 225 (Operand.tmp 3), none⟩,
  .one ⟨some 20, Op.move (Operand.const (Value.int IntKind.i64 0)), none⟩]
def sum_Sha_R8 : List Itm := [.one ⟨some 21, Op.binOp BinOp.lss 3 (Operand.tmp 20) (Operand.const (Value.int IntKind.i64 8)) 3, none⟩]
def sum_Sha_R9 : List Itm := [.one ⟨some 22, Op.index 225 (Operand.tmp 19) (Operand.tmp 20), none⟩,
  .one ⟨some 7, Op.assign (Operand.tmp 22), none⟩]
def sum_Sha_R10 : List Itm := [.one ⟨some 23, Op.move (Operand.tmp 5), none⟩,
  .one ⟨some 24, Op.move (Operand.tmp 7), none⟩,
  .one ⟨some 25, Op.binOp BinOp.shr 200 (Operand.tmp 24) (Operand.const (Value.int IntKind.u64 24)) 165, none⟩,
  .one ⟨some 26, Op.convert 200 5 (Operand.tmp 25), none⟩,
  .one ⟨some 27, Op.move (Operand.tmp 7), none⟩,
  .one ⟨some 28, Op.binOp BinOp.shr 200 (Operand.tmp 27) (Operand.const (Value.int IntKind.u64 16)) 165, none⟩,
  .one ⟨some 29, Op.convert 200 5 (Operand.tmp 28), none⟩,
  .one ⟨some 30, Op.move (Operand.tmp 7), none⟩,
  .one ⟨some 31, Op.binOp BinOp.shr 200 (Operand.tmp 30) (Operand.const (Value.int IntKind.u64 8)) 165, none⟩,
  .one ⟨some 32, Op.convert 200 5 (Operand.tmp 31), none⟩,
  .one ⟨some 33, Op.move (Operand.tmp 7), none⟩,
  .one ⟨some 34, Op.convert 200 5 (Operand.tmp 33), none⟩,
  .one ⟨some 35, Op.buildSlice 207 4 #[(0, Operand.tmp 26), (1, Operand.tmp 29), (2, Operand.tmp 32), (3, Operand.tmp 34)], none⟩,
  .one ⟨some 36, Op.call { callee := Callee.builtin Builtin.append, args := #[Operand.tmp 23, Operand.tmp 35], argTypes := #[207, 207] }, none⟩,
  .one ⟨some 5, Op.assign (Operand.tmp 36), none⟩]
def sum_Sha_B3 : MCode := (.seq (.reg 9 sum_Sha_R9 false) (.reg 10 sum_Sha_R10 false))
def sum_Sha_R11 : List Itm := [.one ⟨some 37, Op.binOp BinOp.add 3 (Operand.tmp 20) (Operand.const (Value.int IntKind.i64 1)) 3, none⟩,
  .one ⟨some 20, Op.move (Operand.tmp 37), none⟩]
def sum_Sha_W2 : MCode := (.seq (.reg 8 sum_Sha_R8 false) (.seq (.cond (Operand.tmp 21) .skip (.exit 2)) (.seq (.block 3 sum_Sha_B3) (.reg 11 sum_Sha_R11 false))))
def sum_Sha_B2 : MCode := (.loop sum_Sha_W2)
def sum_Sha_R12 : List Itm := [.one ⟨some 38, Op.move (Operand.tmp 5), none⟩,
  .one ⟨some 39, Op.convert 207 9 (Operand.tmp 38), none⟩,
  .one ⟨some 2, Op.assign (Operand.tmp 39), none⟩]
def sum_Sha_L : MCode := (.seq (.reg 0 sum_Sha_R0 false) (.seq (.reg 1 sum_Sha_R1 false) (.seq (.seq (.reg 2 sum_Sha_R2 false) (.block 0 sum_Sha_B0)) (.seq (.reg 6 sum_Sha_R6 false) (.seq (.seq (.reg 7 sum_Sha_R7 false) (.block 2 sum_Sha_B2)) (.seq (.reg 12 sum_Sha_R12 false) .ret))))))
def sum_Sha_ks : Nat → List Nat := fun i => match i with
  | 5 => [4, 0, 0, 0, 3]
  | _ => []
theorem sum_Sha_hl : Tryz.f126.body.map light = some sum_Sha_L.flat := by kernel_rfl
theorem sum_Sha_hk : sum_Sha_L.ok = true := by kernel_rfl
theorem sum_Sha_hb : Tryz.f126.body.map (codeB 40 sum_Sha_ks) = some true := by kernel_rfl
theorem sum_Sha_hr : Tryz.f126.results.toList = [ResultVar.tmp 2] := rfl
theorem sum_Sha_hn : fnB Tryz.prog 126 = true := by kernel_rfl
theorem sum_Sha_pu {args : List V} {st : List SO} {res : V} (an : Ann) (ha : args.length ≤ 40) (hres : noRef res = true) (h : wpM ⟨Tryz.prog, GW, 40, st.length⟩ an sum_Sha_ks sum_Sha_L (argE args 0) st (EndsP ⟨Tryz.prog, GW, 40, st.length⟩ [ResultVar.tmp 2] res st)) : FnOK Tryz.prog GW 126 args st res st :=
  fn_pure Tryz.func126 sum_Sha_hr sum_Sha_hl sum_Sha_hk sum_Sha_hb rfl sum_Sha_hn an ha hres h
end Go.Proofs.YthkmfboffnhkaaaGreatDoor
