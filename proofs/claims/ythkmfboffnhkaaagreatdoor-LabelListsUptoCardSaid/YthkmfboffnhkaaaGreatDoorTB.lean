/-
  The light code of functions: printed by wip/tools/gen.py.
-/
import Derived.Test.YthkmfboffnhkaaaGreatDoorTY
namespace Go.Proofs.YthkmfboffnhkaaaGreatDoor
open Go Go.L1
set_option linter.all false
set_option maxRecDepth 100000
/-! agora/code.Num -/
def code_Num_R0 : List Itm := [.one ⟨some 2, Op.assign (Operand.const (Value.string { data := #[] })), none⟩]
def code_Num_R1 : List Itm := [.one ⟨some 4, Op.move (Operand.tmp 0), none⟩,
  .one ⟨some 5, Op.binOp BinOp.lss 3 (Operand.tmp 4) (Operand.const (Value.int IntKind.i64 0)) 3, none⟩]
def code_Num_R2 : List Itm := [.one ⟨some 2, Op.assign (Operand.const (Value.string { data := #[] })), none⟩]
def code_Num_R3 : List Itm := [.one ⟨some 6, Op.makeSlice 207 (Operand.const (Value.int IntKind.i64 0)) (Operand.const (Value.int IntKind.i64 9)), none⟩,
  .one ⟨some 3, Op.assign (Operand.tmp 6), none⟩]
def code_Num_R4 : List Itm := [.one ⟨some 7, Op.move (Operand.tmp 0), none⟩,
  .one ⟨some 8, Op.binOp BinOp.geq 3 (Operand.tmp 7) (Operand.const (Value.int IntKind.i64 128)) 3, none⟩]
def code_Num_R5 : List Itm := [.one ⟨some 9, Op.move (Operand.tmp 3), none⟩,
  .one ⟨some 10, Op.move (Operand.tmp 0), none⟩,
  .one ⟨some 11, Op.binOp BinOp.rem 3 (Operand.tmp 10) (Operand.const (Value.int IntKind.i64 128)) 3, none⟩,
  .one ⟨some 12, Op.binOp BinOp.or 3 (Operand.tmp 11) (Operand.const (Value.int IntKind.i64 128)) 3, none⟩,
  .one ⟨some 13, Op.convert 3 5 (Operand.tmp 12), none⟩,
  .one ⟨some 14, Op.buildSlice 207 1 #[(0, Operand.tmp 13)], none⟩,
  .one ⟨some 15, Op.call { callee := Callee.builtin Builtin.append, args := #[Operand.tmp 9, Operand.tmp 14], argTypes := #[207, 207] }, none⟩,
  .one ⟨some 3, Op.assign (Operand.tmp 15), none⟩]
def code_Num_R6 : List Itm := [.one ⟨some 16, Op.move (Operand.tmp 0), none⟩,
  .one ⟨some 17, Op.binOp BinOp.quo 3 (Operand.tmp 16) (Operand.const (Value.int IntKind.i64 128)) 3, none⟩,
  .one ⟨some 0, Op.assign (Operand.tmp 17), none⟩]
def code_Num_B1 : MCode := (.seq (.reg 5 code_Num_R5 false) (.reg 6 code_Num_R6 false))
def code_Num_W1 : MCode := (.seq (.seq (.reg 4 code_Num_R4 false) (.cond (Operand.tmp 8) .skip (.exit 0))) (.block 1 code_Num_B1))
def code_Num_B0 : MCode := (.loop code_Num_W1)
def code_Num_R7 : List Itm := [.one ⟨some 18, Op.move (Operand.tmp 3), none⟩,
  .one ⟨some 19, Op.move (Operand.tmp 0), none⟩,
  .one ⟨some 20, Op.convert 3 5 (Operand.tmp 19), none⟩,
  .one ⟨some 21, Op.buildSlice 207 1 #[(0, Operand.tmp 20)], none⟩,
  .one ⟨some 22, Op.call { callee := Callee.builtin Builtin.append, args := #[Operand.tmp 18, Operand.tmp 21], argTypes := #[207, 207] }, none⟩,
  .one ⟨some 23, Op.convert 207 9 (Operand.tmp 22), none⟩,
  .one ⟨some 2, Op.assign (Operand.tmp 23), none⟩]
def code_Num_L : MCode := (.seq (.reg 0 code_Num_R0 false) (.seq (.seq (.reg 1 code_Num_R1 false) (.cond (Operand.tmp 5) (.seq (.reg 2 code_Num_R2 false) .ret) .skip)) (.seq (.reg 3 code_Num_R3 false) (.seq (.block 0 code_Num_B0) (.seq (.reg 7 code_Num_R7 false) .ret)))))
def code_Num_ks : Nat → List Nat := fun i => match i with
  | _ => []
theorem code_Num_hl : Tryz.f161.body.map light = some code_Num_L.flat := by kernel_rfl
theorem code_Num_hk : code_Num_L.ok = true := by kernel_rfl
theorem code_Num_hb : Tryz.f161.body.map (codeB 24 code_Num_ks) = some true := by kernel_rfl
theorem code_Num_hr : Tryz.f161.results.toList = [ResultVar.tmp 2] := rfl
theorem code_Num_hn : fnB Tryz.prog 161 = true := by kernel_rfl
theorem code_Num_pu {args : List V} {st : List SO} {res : V} (an : Ann) (ha : args.length ≤ 24) (hres : noRef res = true) (h : wpM ⟨Tryz.prog, GW, 24, st.length⟩ an code_Num_ks code_Num_L (argE args 0) st (EndsP ⟨Tryz.prog, GW, 24, st.length⟩ [ResultVar.tmp 2] res st)) : FnOK Tryz.prog GW 161 args st res st :=
  fn_pure Tryz.func161 code_Num_hr code_Num_hl code_Num_hk code_Num_hb rfl code_Num_hn an ha hres h
/-! agora/code.Text -/
def code_Text_R0 : List Itm := [.one ⟨some 2, Op.assign (Operand.const (Value.string { data := #[] })), none⟩]
def code_Text_R1 : List Itm := [.one ⟨some 3, Op.move (Operand.tmp 0), none⟩,
  .one ⟨some 4, Op.call { callee := Callee.builtin Builtin.len, args := #[Operand.tmp 3], argTypes := #[9] }, none⟩,
  .one ⟨some 5, Op.call { callee := Callee.value (Operand.func 161), args := #[Operand.tmp 4], argTypes := #[3] }, none⟩,
  .one ⟨some 6, Op.move (Operand.tmp 0), none⟩,
  .one ⟨some 7, Op.binOp BinOp.add 9 (Operand.tmp 5) (Operand.tmp 6) 9, none⟩,
  .one ⟨some 2, Op.assign (Operand.tmp 7), none⟩]
def code_Text_L : MCode := (.seq (.reg 0 code_Text_R0 false) (.seq (.reg 1 code_Text_R1 false) .ret))
def code_Text_ks : Nat → List Nat := fun i => match i with
  | _ => []
theorem code_Text_hl : Tryz.f160.body.map light = some code_Text_L.flat := by kernel_rfl
theorem code_Text_hk : code_Text_L.ok = true := by kernel_rfl
theorem code_Text_hb : Tryz.f160.body.map (codeB 8 code_Text_ks) = some true := by kernel_rfl
theorem code_Text_hr : Tryz.f160.results.toList = [ResultVar.tmp 2] := rfl
theorem code_Text_hn : fnB Tryz.prog 160 = true := by kernel_rfl
theorem code_Text_pu {args : List V} {st : List SO} {res : V} (an : Ann) (ha : args.length ≤ 8) (hres : noRef res = true) (h : wpM ⟨Tryz.prog, GW, 8, st.length⟩ an code_Text_ks code_Text_L (argE args 0) st (EndsP ⟨Tryz.prog, GW, 8, st.length⟩ [ResultVar.tmp 2] res st)) : FnOK Tryz.prog GW 160 args st res st :=
  fn_pure Tryz.func160 code_Text_hr code_Text_hl code_Text_hk code_Text_hb rfl code_Text_hn an ha hres h
/-! agora/code.write[string] -/
def code_write_string_R0 : List Itm := [.one ⟨some 4, Op.assign (Operand.const (Value.string { data := #[] })), none⟩]
def code_write_string_R1 : List Itm := [.one ⟨some 5, Op.alloc 213, none⟩]
def code_write_string_R2 : List Itm := [.one ⟨some 8, Op.move (Operand.tmp 0), none⟩,
  .one ⟨some 9, Op.call { callee := Callee.builtin Builtin.len, args := #[Operand.tmp 8], argTypes := #[23] }, none⟩,
  .one ⟨some 10, Op.call { callee := Callee.value (Operand.func 161), args := #[Operand.tmp 9], argTypes := #[3] }, none⟩,
  .one ⟨some 11, Op.call { callee := Callee.value (Operand.func 164), args := #[Operand.tmp 5, Operand.tmp 10], argTypes := #[213, 9] }, none⟩]
def code_write_string_R3 : List Itm := [.one ⟨some 12, Op.move (Operand.tmp 0), none⟩,
  .one ⟨some 13, Op.call { callee := Callee.builtin Builtin.len, args := #[Operand.tmp 12], argTypes := #[23] }, none⟩,
  .one ⟨some 14, Op.move (Operand.const (Value.int IntKind.i64 0)), none⟩]
def code_write_string_R4 : List Itm := [.one ⟨some 15, Op.binOp BinOp.lss 3 (Operand.tmp 14) (Operand.tmp 13) 3, none⟩]
def code_write_string_R5 : List Itm := [.one ⟨some 16, Op.indexAddr 23 (Operand.tmp 12) (Operand.tmp 14), none⟩,
  .one ⟨some 17, Op.load 9 (Operand.tmp 16), none⟩,
  .one ⟨some 7, Op.assign (Operand.tmp 17), none⟩]
def code_write_string_R6 : List Itm := [.one ⟨some 18, Op.move (Operand.tmp 1), none⟩,
  .one ⟨some 19, Op.move (Operand.tmp 7), none⟩,
  .one ⟨some 20, Op.call { callee := Callee.value (Operand.tmp 18), args := #[Operand.tmp 19], argTypes := #[9] }, none⟩,
  .one ⟨some 21, Op.call { callee := Callee.value (Operand.func 164), args := #[Operand.tmp 5, Operand.tmp 20], argTypes := #[213, 9] }, none⟩]
def code_write_string_B1 : MCode := (.seq (.reg 5 code_write_string_R5 false) (.reg 6 code_write_string_R6 false))
def code_write_string_R7 : List Itm := [.one ⟨some 22, Op.binOp BinOp.add 3 (Operand.tmp 14) (Operand.const (Value.int IntKind.i64 1)) 3, none⟩,
  .one ⟨some 14, Op.move (Operand.tmp 22), none⟩]
def code_write_string_W1 : MCode := (.seq (.reg 4 code_write_string_R4 false) (.seq (.cond (Operand.tmp 15) .skip (.exit 0)) (.seq (.block 1 code_write_string_B1) (.reg 7 code_write_string_R7 false))))
def code_write_string_B0 : MCode := (.loop code_write_string_W1)
def code_write_string_R8 : List Itm := [.one ⟨some 23, Op.call { callee := Callee.value (Operand.func 167), args := #[Operand.tmp 5], argTypes := #[213] }, none⟩,
  .one ⟨some 4, Op.assign (Operand.tmp 23), none⟩]
def code_write_string_L : MCode := (.seq (.reg 0 code_write_string_R0 false) (.seq (.reg 1 code_write_string_R1 false) (.seq (.reg 2 code_write_string_R2 false) (.seq (.seq (.reg 3 code_write_string_R3 false) (.block 0 code_write_string_B0)) (.seq (.reg 8 code_write_string_R8 false) .ret)))))
def code_write_string_ks : Nat → List Nat := fun i => match i with
  | _ => []
theorem code_write_string_hl : Tryz.f223.body.map light = some code_write_string_L.flat := by kernel_rfl
theorem code_write_string_hk : code_write_string_L.ok = true := by kernel_rfl
theorem code_write_string_hb : Tryz.f223.body.map (codeB 24 code_write_string_ks) = some true := by kernel_rfl
theorem code_write_string_hr : Tryz.f223.results.toList = [ResultVar.tmp 4] := rfl
theorem code_write_string_hn : fnB Tryz.prog 223 = true := by kernel_rfl
theorem code_write_string_pu {args : List V} {st : List SO} {res : V} (an : Ann) (ha : args.length ≤ 24) (hres : noRef res = true) (h : wpM ⟨Tryz.prog, GW, 24, st.length⟩ an code_write_string_ks code_write_string_L (argE args 0) st (EndsP ⟨Tryz.prog, GW, 24, st.length⟩ [ResultVar.tmp 4] res st)) : FnOK Tryz.prog GW 223 args st res st :=
  fn_pure Tryz.func223 code_write_string_hr code_write_string_hl code_write_string_hk code_write_string_hb rfl code_write_string_hn an ha hres h
/-! agora/code.List -/
def code_List_R0 : List Itm := [.one ⟨some 2, Op.assign (Operand.const (Value.string { data := #[] })), none⟩]
def code_List_R1 : List Itm := [.one ⟨some 3, Op.move (Operand.tmp 0), none⟩,
  .one ⟨some 4, Op.call { callee := Callee.value (Operand.func 223), args := #[Operand.tmp 3, Operand.func 160], argTypes := #[23, 180] }, none⟩,
  .one ⟨some 2, Op.assign (Operand.tmp 4), none⟩]
def code_List_L : MCode := (.seq (.reg 0 code_List_R0 false) (.seq (.reg 1 code_List_R1 false) .ret))
def code_List_ks : Nat → List Nat := fun i => match i with
  | _ => []
theorem code_List_hl : Tryz.f198.body.map light = some code_List_L.flat := by kernel_rfl
theorem code_List_hk : code_List_L.ok = true := by kernel_rfl
theorem code_List_hb : Tryz.f198.body.map (codeB 5 code_List_ks) = some true := by kernel_rfl
theorem code_List_hr : Tryz.f198.results.toList = [ResultVar.tmp 2] := rfl
theorem code_List_hn : fnB Tryz.prog 198 = true := by kernel_rfl
theorem code_List_pu {args : List V} {st : List SO} {res : V} (an : Ann) (ha : args.length ≤ 5) (hres : noRef res = true) (h : wpM ⟨Tryz.prog, GW, 5, st.length⟩ an code_List_ks code_List_L (argE args 0) st (EndsP ⟨Tryz.prog, GW, 5, st.length⟩ [ResultVar.tmp 2] res st)) : FnOK Tryz.prog GW 198 args st res st :=
  fn_pure Tryz.func198 code_List_hr code_List_hl code_List_hk code_List_hb rfl code_List_hn an ha hres h
/-! agora/act.box -/
def act_box_R0 : List Itm := [.one ⟨some 1, Op.box 44 (Operand.tmp 0), none⟩,
  .one ⟨some 2, Op.assign (Operand.const (Value.string { data := #[] })), none⟩]
def act_box_R1 : List Itm := [.one ⟨some 3, Op.fieldAddr 44 (Operand.tmp 1) 0, none⟩,
  .one ⟨some 4, Op.load 9 (Operand.tmp 3), none⟩,
  .one ⟨some 5, Op.call { callee := Callee.value (Operand.func 160), args := #[Operand.tmp 4], argTypes := #[9] }, none⟩,
  .one ⟨some 6, Op.fieldAddr 44 (Operand.tmp 1) 1, none⟩,
  .one ⟨some 7, Op.load 9 (Operand.tmp 6), none⟩,
  .one ⟨some 8, Op.call { callee := Callee.value (Operand.func 160), args := #[Operand.tmp 7], argTypes := #[9] }, none⟩,
  .one ⟨some 9, Op.binOp BinOp.add 9 (Operand.tmp 5) (Operand.tmp 8) 9, none⟩,
  .one ⟨some 10, Op.fieldAddr 44 (Operand.tmp 1) 2, none⟩,
  .one ⟨some 11, Op.load 9 (Operand.tmp 10), none⟩,
  .one ⟨some 12, Op.call { callee := Callee.value (Operand.func 160), args := #[Operand.tmp 11], argTypes := #[9] }, none⟩,
  .one ⟨some 13, Op.binOp BinOp.add 9 (Operand.tmp 9) (Operand.tmp 12) 9, none⟩,
  .one ⟨some 2, Op.assign (Operand.tmp 13), none⟩]
def act_box_L : MCode := (.seq (.reg 0 act_box_R0 false) (.seq (.reg 1 act_box_R1 true) .ret))
def act_box_ks : Nat → List Nat := fun i => match i with
  | 1 => [0, 0, 0, 0, 0, 0, 0, 0, 0, 0, 0, 0]
  | _ => []
theorem act_box_hl : Tryz.f199.body.map light = some act_box_L.flat := by kernel_rfl
theorem act_box_hk : act_box_L.ok = true := by kernel_rfl
theorem act_box_hb : Tryz.f199.body.map (codeB 14 act_box_ks) = some true := by kernel_rfl
theorem act_box_hr : Tryz.f199.results.toList = [ResultVar.tmp 2] := rfl
theorem act_box_hn : fnB Tryz.prog 199 = true := by kernel_rfl
theorem act_box_pu {args : List V} {st : List SO} {res : V} (an : Ann) (ha : args.length ≤ 14) (hres : noRef res = true) (h : wpM ⟨Tryz.prog, GW, 14, st.length⟩ an act_box_ks act_box_L (argE args 0) st (EndsP ⟨Tryz.prog, GW, 14, st.length⟩ [ResultVar.tmp 2] res st)) : FnOK Tryz.prog GW 199 args st res st :=
  fn_pure Tryz.func199 act_box_hr act_box_hl act_box_hk act_box_hb rfl act_box_hn an ha hres h
/-! agora/act.Core -/
def act_Core_R0 : List Itm := [.one ⟨some 1, Op.box 49 (Operand.tmp 0), none⟩,
  .one ⟨some 2, Op.assign (Operand.const (Value.string { data := #[] })), none⟩]
def act_Core_R1 : List Itm := [.one ⟨some 8, Op.load 49 (Operand.tmp 1), none⟩,
  .one ⟨some 9, Op.call { callee := Callee.value (Operand.func 152), args := #[Operand.tmp 8], argTypes := #[49] }, none⟩,
  .one ⟨some 10, Op.unOp UnOp.not 4 (Operand.tmp 9), none⟩]
def act_Core_R2 : List Itm := [.one ⟨some 2, Op.assign (Operand.const (Value.string { data := #[] })), none⟩]
def act_Core_R3 : List Itm := [.one ⟨some 3, Op.alloc 213, none⟩]
def act_Core_R4 : List Itm := [.one ⟨some 11, Op.call { callee := Callee.value (Operand.func 160), args := #[Operand.const (Value.string { data := #[97, 99, 116] })], argTypes := #[9] }, none⟩,
  .one ⟨some 12, Op.fieldAddr 49 (Operand.tmp 1) 0, none⟩,
  .one ⟨some 13, Op.load 9 (Operand.tmp 12), none⟩,
  .one ⟨some 14, Op.call { callee := Callee.value (Operand.func 160), args := #[Operand.tmp 13], argTypes := #[9] }, none⟩,
  .one ⟨some 15, Op.fieldAddr 49 (Operand.tmp 1) 1, none⟩,
  .one ⟨some 16, Op.load 3 (Operand.tmp 15), none⟩,
  .one ⟨some 17, Op.call { callee := Callee.value (Operand.func 161), args := #[Operand.tmp 16], argTypes := #[3] }, none⟩,
  .one ⟨some 18, Op.fieldAddr 49 (Operand.tmp 1) 2, none⟩,
  .one ⟨some 19, Op.load 9 (Operand.tmp 18), none⟩,
  .one ⟨some 20, Op.call { callee := Callee.value (Operand.func 160), args := #[Operand.tmp 19], argTypes := #[9] }, none⟩,
  .one ⟨some 21, Op.fieldAddr 49 (Operand.tmp 1) 3, none⟩,
  .one ⟨some 22, Op.load 3 (Operand.tmp 21), none⟩,
  .one ⟨some 23, Op.call { callee := Callee.value (Operand.func 161), args := #[Operand.tmp 22], argTypes := #[3] }, none⟩,
  .one ⟨some 24, Op.fieldAddr 49 (Operand.tmp 1) 4, none⟩,
  .one ⟨some 25, Op.load 3 (Operand.tmp 24), none⟩,
  .one ⟨some 26, Op.call { callee := Callee.value (Operand.func 161), args := #[Operand.tmp 25], argTypes := #[3] }, none⟩,
  .one ⟨some 27, Op.fieldAddr 49 (Operand.tmp 1) 5, none⟩,
  .one ⟨some 28, Op.load 9 (Operand.tmp 27), none⟩,
  .one ⟨some 29, Op.call { callee := Callee.value (Operand.func 160), args := #[Operand.tmp 28], argTypes := #[9] }, none⟩,
  .one ⟨some 30, Op.fieldAddr 49 (Operand.tmp 1) 6, none⟩,
  .one ⟨some 31, Op.load 9 (Operand.tmp 30), none⟩,
  .one ⟨some 32, Op.call { callee := Callee.value (Operand.func 160), args := #[Operand.tmp 31], argTypes := #[9] }, none⟩,
  .one ⟨some 33, Op.fieldAddr 49 (Operand.tmp 1) 7, none⟩,
  .one ⟨some 34, Op.load 3 (Operand.tmp 33), none⟩,
  .one ⟨some 35, Op.call { callee := Callee.value (Operand.func 161), args := #[Operand.tmp 34], argTypes := #[3] }, none⟩,
  .one ⟨some 36, Op.fieldAddr 49 (Operand.tmp 1) 8, none⟩,
  .one ⟨some 37, Op.load 9 (Operand.tmp 36), none⟩,
  .one ⟨some 38, Op.call { callee := Callee.value (Operand.func 160), args := #[Operand.tmp 37], argTypes := #[9] }, none⟩,
  .one ⟨some 39, Op.fieldAddr 49 (Operand.tmp 1) 9, none⟩,
  .one ⟨some 40, Op.load 23 (Operand.tmp 39), none⟩,
  .one ⟨some 41, Op.call { callee := Callee.value (Operand.func 198), args := #[Operand.tmp 40], argTypes := #[23] }, none⟩,
  .one ⟨some 42, Op.fieldAddr 49 (Operand.tmp 1) 10, none⟩,
  .one ⟨some 43, Op.load 9 (Operand.tmp 42), none⟩,
  .one ⟨some 44, Op.call { callee := Callee.value (Operand.func 160), args := #[Operand.tmp 43], argTypes := #[9] }, none⟩,
  .one ⟨some 45, Op.fieldAddr 49 (Operand.tmp 1) 11, none⟩,
  .one ⟨some 46, Op.load 44 (Operand.tmp 45), none⟩,
  .one ⟨some 47, Op.call { callee := Callee.value (Operand.func 199), args := #[Operand.tmp 46], argTypes := #[44] }, none⟩,
  .one ⟨some 48, Op.fieldAddr 49 (Operand.tmp 1) 12, none⟩,
  .one ⟨some 49, Op.load 3 (Operand.tmp 48), none⟩,
  .one ⟨some 50, Op.call { callee := Callee.value (Operand.func 161), args := #[Operand.tmp 49], argTypes := #[3] }, none⟩,
  .one ⟨some 51, Op.fieldAddr 49 (Operand.tmp 1) 13, none⟩,
  .one ⟨some 52, Op.load 45 (Operand.tmp 51), none⟩,
  .one ⟨some 53, Op.call { callee := Callee.builtin Builtin.len, args := #[Operand.tmp 52], argTypes := #[45] }, none⟩,
  .one ⟨some 54, Op.call { callee := Callee.value (Operand.func 161), args := #[Operand.tmp 53], argTypes := #[3] }, none⟩,
  .one ⟨some 55, Op.buildSlice 23 15 #[(0, Operand.tmp 11), (1, Operand.tmp 14), (2, Operand.tmp 17), (3, Operand.tmp 20), (4, Operand.tmp 23), (5, Operand.tmp 26), (6, Operand.tmp 29), (7, Operand.tmp 32), (8, Operand.tmp 35), (9, Operand.tmp 38), (10, Operand.tmp 41), (11, Operand.tmp 44), (12, Operand.tmp 47), (13, Operand.tmp 50), (14, Operand.tmp 54)], none⟩,
  .one ⟨some 56, Op.call { callee := Callee.builtin Builtin.len, args := #[Operand.tmp 55], argTypes := #[23] }, none⟩,
  .one ⟨some 57, Op.move (Operand.const (Value.int IntKind.i64 0)), none⟩]
def act_Core_R5 : List Itm := [.one ⟨some 58, Op.binOp BinOp.lss 3 (Operand.tmp 57) (Operand.tmp 56) 3, none⟩]
def act_Core_R6 : List Itm := [.one ⟨some 59, Op.indexAddr 23 (Operand.tmp 55) (Operand.tmp 57), none⟩,
  .one ⟨some 60, Op.load 9 (Operand.tmp 59), none⟩,
  .one ⟨some 5, Op.assign (Operand.tmp 60), none⟩]
def act_Core_R7 : List Itm := [.one ⟨some 61, Op.move (Operand.tmp 5), none⟩,
  .one ⟨some 62, Op.call { callee := Callee.value (Operand.func 164), args := #[Operand.tmp 3, Operand.tmp 61], argTypes := #[213, 9] }, none⟩]
def act_Core_B1 : MCode := (.seq (.reg 6 act_Core_R6 false) (.reg 7 act_Core_R7 false))
def act_Core_R8 : List Itm := [.one ⟨some 63, Op.binOp BinOp.add 3 (Operand.tmp 57) (Operand.const (Value.int IntKind.i64 1)) 3, none⟩,
  .one ⟨some 57, Op.move (Operand.tmp 63), none⟩]
def act_Core_W1 : MCode := (.seq (.reg 5 act_Core_R5 false) (.seq (.cond (Operand.tmp 58) .skip (.exit 0)) (.seq (.block 1 act_Core_B1) (.reg 8 act_Core_R8 false))))
def act_Core_B0 : MCode := (.loop act_Core_W1)
def act_Core_R9 : List Itm := [.one ⟨some 64, Op.fieldAddr 49 (Operand.tmp 1) 13, none⟩,
  .one ⟨some 65, Op.load 45 (Operand.tmp 64), none⟩,
  .one ⟨some 66, Op.call { callee := Callee.builtin Builtin.len, args := #[Operand.tmp 65], argTypes := #[45] }, none⟩,
  .one ⟨some 67, Op.move (Operand.const (Value.int IntKind.i64 0)), none⟩]
def act_Core_R10 : List Itm := [.one ⟨some 68, Op.binOp BinOp.lss 3 (Operand.tmp 67) (Operand.tmp 66) 3, none⟩]
def act_Core_R11 : List Itm := [.one ⟨some 69, Op.indexAddr 45 (Operand.tmp 65) (Operand.tmp 67), none⟩,
  .one ⟨some 70, Op.load 230 (Operand.tmp 69), none⟩,
  .one ⟨some 7, Op.alloc 230, none⟩,
  .one ⟨none, Op.store 230 (Operand.tmp 7) (Operand.tmp 70), none⟩]
def act_Core_R12 : List Itm := [.one ⟨some 71, Op.fieldAddr 230 (Operand.tmp 7) 0, none⟩,
  .one ⟨some 72, Op.load 3 (Operand.tmp 71), none⟩,
  .one ⟨some 73, Op.call { callee := Callee.value (Operand.func 161), args := #[Operand.tmp 72], argTypes := #[3] }, none⟩,
  .one ⟨some 74, Op.fieldAddr 230 (Operand.tmp 7) 1, none⟩,
  .one ⟨some 75, Op.load 3 (Operand.tmp 74), none⟩,
  .one ⟨some 76, Op.call { callee := Callee.value (Operand.func 161), args := #[Operand.tmp 75], argTypes := #[3] }, none⟩,
  .one ⟨some 77, Op.binOp BinOp.add 9 (Operand.tmp 73) (Operand.tmp 76) 9, none⟩,
  .one ⟨some 78, Op.fieldAddr 230 (Operand.tmp 7) 2, none⟩,
  .one ⟨some 79, Op.load 44 (Operand.tmp 78), none⟩,
  .one ⟨some 80, Op.call { callee := Callee.value (Operand.func 199), args := #[Operand.tmp 79], argTypes := #[44] }, none⟩,
  .one ⟨some 81, Op.binOp BinOp.add 9 (Operand.tmp 77) (Operand.tmp 80) 9, none⟩,
  .one ⟨some 82, Op.call { callee := Callee.value (Operand.func 164), args := #[Operand.tmp 3, Operand.tmp 81], argTypes := #[213, 9] }, none⟩]
def act_Core_B3 : MCode := (.seq (.reg 11 act_Core_R11 false) (.reg 12 act_Core_R12 true))
def act_Core_R13 : List Itm := [.one ⟨some 83, Op.binOp BinOp.add 3 (Operand.tmp 67) (Operand.const (Value.int IntKind.i64 1)) 3, none⟩,
  .one ⟨some 67, Op.move (Operand.tmp 83), none⟩]
def act_Core_W2 : MCode := (.seq (.reg 10 act_Core_R10 false) (.seq (.cond (Operand.tmp 68) .skip (.exit 2)) (.seq (.block 3 act_Core_B3) (.reg 13 act_Core_R13 false))))
def act_Core_B2 : MCode := (.loop act_Core_W2)
def act_Core_R14 : List Itm := [.one ⟨some 84, Op.fieldAddr 49 (Operand.tmp 1) 14, none⟩,
  .one ⟨some 85, Op.load 3 (Operand.tmp 84), none⟩,
  .one ⟨some 86, Op.call { callee := Callee.value (Operand.func 161), args := #[Operand.tmp 85], argTypes := #[3] }, none⟩,
  .one ⟨some 87, Op.fieldAddr 49 (Operand.tmp 1) 15, none⟩,
  .one ⟨some 88, Op.load 3 (Operand.tmp 87), none⟩,
  .one ⟨some 89, Op.call { callee := Callee.value (Operand.func 161), args := #[Operand.tmp 88], argTypes := #[3] }, none⟩,
  .one ⟨some 90, Op.binOp BinOp.add 9 (Operand.tmp 86) (Operand.tmp 89) 9, none⟩,
  .one ⟨some 91, Op.call { callee := Callee.value (Operand.func 164), args := #[Operand.tmp 3, Operand.tmp 90], argTypes := #[213, 9] }, none⟩]
def act_Core_R15 : List Itm := [.one ⟨some 92, Op.call { callee := Callee.value (Operand.func 167), args := #[Operand.tmp 3], argTypes := #[213] }, none⟩,
  .one ⟨some 2, Op.assign (Operand.tmp 92), none⟩]
def act_Core_L : MCode := (.seq (.reg 0 act_Core_R0 false) (.seq (.seq (.reg 1 act_Core_R1 false) (.cond (Operand.tmp 10) (.seq (.reg 2 act_Core_R2 false) .ret) .skip)) (.seq (.reg 3 act_Core_R3 false) (.seq (.seq (.reg 4 act_Core_R4 true) (.block 0 act_Core_B0)) (.seq (.seq (.reg 9 act_Core_R9 false) (.block 2 act_Core_B2)) (.seq (.reg 14 act_Core_R14 true) (.seq (.reg 15 act_Core_R15 false) .ret)))))))
def act_Core_ks : Nat → List Nat := fun i => match i with
  | 4 => [0, 0, 0, 0, 0, 0, 0, 0, 0, 0, 0, 0, 0, 0, 0, 0, 0, 0, 0, 0, 0, 0, 0, 0, 0, 0, 0, 0, 0, 0, 0, 0, 0, 0, 0, 0, 0, 0, 0, 0, 0, 0, 0, 0, 0, 0, 0]
  | 12 => [0, 0, 0, 0, 0, 0, 0, 0, 0, 0, 0, 2]
  | 14 => [0, 0, 0, 0, 0, 0, 0, 2]
  | _ => []
theorem act_Core_hl : Tryz.f155.body.map light = some act_Core_L.flat := by kernel_rfl
theorem act_Core_hk : act_Core_L.ok = true := by kernel_rfl
theorem act_Core_hb : Tryz.f155.body.map (codeB 93 act_Core_ks) = some true := by kernel_rfl
theorem act_Core_hr : Tryz.f155.results.toList = [ResultVar.tmp 2] := rfl
theorem act_Core_hn : fnB Tryz.prog 155 = true := by kernel_rfl
theorem act_Core_pu {args : List V} {st : List SO} {res : V} (an : Ann) (ha : args.length ≤ 93) (hres : noRef res = true) (h : wpM ⟨Tryz.prog, GW, 93, st.length⟩ an act_Core_ks act_Core_L (argE args 0) st (EndsP ⟨Tryz.prog, GW, 93, st.length⟩ [ResultVar.tmp 2] res st)) : FnOK Tryz.prog GW 155 args st res st :=
  fn_pure Tryz.func155 act_Core_hr act_Core_hl act_Core_hk act_Core_hb rfl act_Core_hn an ha hres h
/-! agora/act.Bytes -/
def act_Bytes_R0 : List Itm := [.one ⟨some 1, Op.box 49 (Operand.tmp 0), none⟩,
  .one ⟨some 2, Op.assign (Operand.const (Value.string { data := #[] })), none⟩]
def act_Bytes_R1 : List Itm := [.one ⟨some 4, Op.load 49 (Operand.tmp 1), none⟩,
  .one ⟨some 5, Op.call { callee := Callee.value (Operand.func 155), args := #[Operand.tmp 4], argTypes := #[49] }, none⟩,
  .one ⟨some 3, Op.assign (Operand.tmp 5), none⟩]
def act_Bytes_R2 : List Itm := [.one ⟨some 6, Op.move (Operand.tmp 3), none⟩,
  .one ⟨some 7, Op.binOp BinOp.eql 9 (Operand.tmp 6) (Operand.const (Value.string { data := #[] })) 9, none⟩]
def act_Bytes_R3 : List Itm := [.one ⟨some 2, Op.assign (Operand.const (Value.string { data := #[] })), none⟩]
def act_Bytes_R4 : List Itm := [.one ⟨some 8, Op.move (Operand.tmp 3), none⟩,
  .one ⟨some 9, Op.fieldAddr 49 (Operand.tmp 1) 16, none⟩,
  .one ⟨some 10, Op.fieldAddr 47 (Operand.tmp 9) 0, none⟩,
  .one ⟨some 11, Op.load 3 (Operand.tmp 10), none⟩,
  .one ⟨some 12, Op.call { callee := Callee.value (Operand.func 161), args := #[Operand.tmp 11], argTypes := #[3] }, none⟩,
  .one ⟨some 13, Op.binOp BinOp.add 9 (Operand.tmp 8) (Operand.tmp 12) 9, none⟩,
  .one ⟨some 14, Op.fieldAddr 49 (Operand.tmp 1) 16, none⟩,
  .one ⟨some 15, Op.fieldAddr 47 (Operand.tmp 14) 1, none⟩,
  .one ⟨some 16, Op.load 3 (Operand.tmp 15), none⟩,
  .one ⟨some 17, Op.call { callee := Callee.value (Operand.func 161), args := #[Operand.tmp 16], argTypes := #[3] }, none⟩,
  .one ⟨some 18, Op.binOp BinOp.add 9 (Operand.tmp 13) (Operand.tmp 17) 9, none⟩,
  .one ⟨some 2, Op.assign (Operand.tmp 18), none⟩]
def act_Bytes_L : MCode := (.seq (.reg 0 act_Bytes_R0 false) (.seq (.reg 1 act_Bytes_R1 false) (.seq (.seq (.reg 2 act_Bytes_R2 false) (.cond (Operand.tmp 7) (.seq (.reg 3 act_Bytes_R3 false) .ret) .skip)) (.seq (.reg 4 act_Bytes_R4 true) .ret))))
def act_Bytes_ks : Nat → List Nat := fun i => match i with
  | 4 => [0, 0, 0, 0, 0, 0, 0, 0, 0, 0, 0, 0]
  | _ => []
theorem act_Bytes_hl : Tryz.f165.body.map light = some act_Bytes_L.flat := by kernel_rfl
theorem act_Bytes_hk : act_Bytes_L.ok = true := by kernel_rfl
theorem act_Bytes_hb : Tryz.f165.body.map (codeB 19 act_Bytes_ks) = some true := by kernel_rfl
theorem act_Bytes_hr : Tryz.f165.results.toList = [ResultVar.tmp 2] := rfl
theorem act_Bytes_hn : fnB Tryz.prog 165 = true := by kernel_rfl
theorem act_Bytes_pu {args : List V} {st : List SO} {res : V} (an : Ann) (ha : args.length ≤ 19) (hres : noRef res = true) (h : wpM ⟨Tryz.prog, GW, 19, st.length⟩ an act_Bytes_ks act_Bytes_L (argE args 0) st (EndsP ⟨Tryz.prog, GW, 19, st.length⟩ [ResultVar.tmp 2] res st)) : FnOK Tryz.prog GW 165 args st res st :=
  fn_pure Tryz.func165 act_Bytes_hr act_Bytes_hl act_Bytes_hk act_Bytes_hb rfl act_Bytes_hn an ha hres h
/-! (*agora/item.builder).nums -/
def pitem_builder_nums_R0 : List Itm := [.one ⟨some 6, Op.move (Operand.tmp 1), none⟩,
  .one ⟨some 7, Op.call { callee := Callee.builtin Builtin.len, args := #[Operand.tmp 6], argTypes := #[84] }, none⟩,
  .one ⟨some 8, Op.move (Operand.const (Value.int IntKind.i64 0)), none⟩]
def pitem_builder_nums_R1 : List Itm := [.one ⟨some 9, Op.binOp BinOp.lss 3 (Operand.tmp 8) (Operand.tmp 7) 3, none⟩]
def pitem_builder_nums_R2 : List Itm := [.one ⟨some 10, Op.indexAddr 84 (Operand.tmp 6) (Operand.tmp 8), none⟩,
  .one ⟨some 11, Op.load 3 (Operand.tmp 10), none⟩,
  .one ⟨some 5, Op.assign (Operand.tmp 11), none⟩]
def pitem_builder_nums_R3 : List Itm := [.one ⟨some 12, Op.move (Operand.tmp 0), none⟩,
  .one ⟨some 13, Op.nilCheck (Operand.tmp 12), none⟩,
  .one ⟨some 14, Op.fieldAddr 215 (Operand.tmp 13) 0, none⟩,
  .one ⟨some 15, Op.move (Operand.tmp 5), none⟩,
  .one ⟨some 16, Op.call { callee := Callee.value (Operand.func 161), args := #[Operand.tmp 15], argTypes := #[3] }, none⟩,
  .one ⟨some 17, Op.call { callee := Callee.value (Operand.func 164), args := #[Operand.tmp 14, Operand.tmp 16], argTypes := #[213, 9] }, none⟩]
def pitem_builder_nums_B1 : MCode := (.seq (.reg 2 pitem_builder_nums_R2 false) (.reg 3 pitem_builder_nums_R3 true))
def pitem_builder_nums_R4 : List Itm := [.one ⟨some 18, Op.binOp BinOp.add 3 (Operand.tmp 8) (Operand.const (Value.int IntKind.i64 1)) 3, none⟩,
  .one ⟨some 8, Op.move (Operand.tmp 18), none⟩]
def pitem_builder_nums_W1 : MCode := (.seq (.reg 1 pitem_builder_nums_R1 false) (.seq (.cond (Operand.tmp 9) .skip (.exit 0)) (.seq (.block 1 pitem_builder_nums_B1) (.reg 4 pitem_builder_nums_R4 false))))
def pitem_builder_nums_B0 : MCode := (.loop pitem_builder_nums_W1)
def pitem_builder_nums_L : MCode := (.seq (.reg 0 pitem_builder_nums_R0 false) (.block 0 pitem_builder_nums_B0))
def pitem_builder_nums_ks : Nat → List Nat := fun i => match i with
  | 3 => [0, 0, 0, 0, 0, 2]
  | _ => []
theorem pitem_builder_nums_hl : Tryz.f163.body.map light = some pitem_builder_nums_L.flat := by kernel_rfl
theorem pitem_builder_nums_hk : pitem_builder_nums_L.ok = true := by kernel_rfl
theorem pitem_builder_nums_hb : Tryz.f163.body.map (codeB 19 pitem_builder_nums_ks) = some true := by kernel_rfl
theorem pitem_builder_nums_hr : Tryz.f163.results.toList = [] := rfl
theorem pitem_builder_nums_hn : fnB Tryz.prog 163 = true := by kernel_rfl
theorem pitem_builder_nums_ef {args : List V} {st st' : List SO} {res : V} (an : Ann) (ha : args.length ≤ 19) (hres : noRef res = true) (hok : StOk st → StOk st') (hlen : st.length ≤ st'.length) (h : wpM ⟨Tryz.prog, GW, 19, st.length⟩ an pitem_builder_nums_ks pitem_builder_nums_L (argE args 0) st (EndsP ⟨Tryz.prog, GW, 19, st.length⟩ [] res st')) : FnOK Tryz.prog GW 163 args st res st' :=
  fn_eff Tryz.func163 pitem_builder_nums_hr pitem_builder_nums_hl pitem_builder_nums_hk pitem_builder_nums_hb rfl pitem_builder_nums_hn an ha hres hok hlen h
/-! agora/item.Bytes -/
def item_Bytes_R0 : List Itm := [.one ⟨some 1, Op.box 149 (Operand.tmp 0), none⟩,
  .one ⟨some 2, Op.assign (Operand.const (Value.string { data := #[] })), none⟩]
def item_Bytes_R1 : List Itm := [.one ⟨some 5, Op.load 149 (Operand.tmp 1), none⟩,
  .one ⟨some 6, Op.call { callee := Callee.value (Operand.func 162), args := #[Operand.tmp 5], argTypes := #[149] }, none⟩,
  .one ⟨some 7, Op.unOp UnOp.not 4 (Operand.tmp 6), none⟩]
def item_Bytes_R2 : List Itm := [.one ⟨some 2, Op.assign (Operand.const (Value.string { data := #[] })), none⟩]
def item_Bytes_R3 : List Itm := [.one ⟨some 3, Op.alloc 215, none⟩]
def item_Bytes_R4 : List Itm := [.one ⟨some 8, Op.fieldAddr 149 (Operand.tmp 1) 0, none⟩,
  .one ⟨some 9, Op.load 3 (Operand.tmp 8), none⟩,
  .one ⟨some 10, Op.buildSlice 84 1 #[(0, Operand.tmp 9)], none⟩,
  .one ⟨some 11, Op.call { callee := Callee.value (Operand.func 163), args := #[Operand.tmp 3, Operand.tmp 10], argTypes := #[215, 84] }, none⟩]
def item_Bytes_R5 : List Itm := [.one ⟨some 12, Op.fieldAddr 149 (Operand.tmp 1) 0, none⟩,
  .one ⟨some 13, Op.load 3 (Operand.tmp 12), none⟩,
  .one ⟨some 14, Op.binOp BinOp.eql 3 (Operand.tmp 13) (Operand.const (Value.int IntKind.i64 0)) 3, none⟩]
def item_Bytes_R6 : List Itm := [.one ⟨some 15, Op.fieldAddr 215 (Operand.tmp 3) 0, none⟩,
  .one ⟨some 16, Op.fieldAddr 149 (Operand.tmp 1) 1, none⟩,
  .one ⟨some 17, Op.load 49 (Operand.tmp 16), none⟩,
  .one ⟨some 18, Op.call { callee := Callee.value (Operand.func 165), args := #[Operand.tmp 17], argTypes := #[49] }, none⟩,
  .one ⟨some 19, Op.call { callee := Callee.value (Operand.func 164), args := #[Operand.tmp 15, Operand.tmp 18], argTypes := #[213, 9] }, none⟩]
def item_Bytes_R7 : List Itm := [.one ⟨some 20, Op.load 149 (Operand.tmp 1), none⟩,
  .one ⟨some 21, Op.call { callee := Callee.value (Operand.func 166), args := #[Operand.tmp 3, Operand.tmp 20], argTypes := #[222, 149] }, none⟩,
  .one ⟨some 4, Op.alloc 47, none⟩,
  .one ⟨none, Op.store 47 (Operand.tmp 4) (Operand.tmp 21), none⟩]
def item_Bytes_R8 : List Itm := [.one ⟨some 22, Op.fieldAddr 47 (Operand.tmp 4) 0, none⟩,
  .one ⟨some 23, Op.load 3 (Operand.tmp 22), none⟩,
  .one ⟨some 24, Op.fieldAddr 47 (Operand.tmp 4) 1, none⟩,
  .one ⟨some 25, Op.load 3 (Operand.tmp 24), none⟩,
  .one ⟨some 26, Op.buildSlice 84 2 #[(0, Operand.tmp 23), (1, Operand.tmp 25)], none⟩,
  .one ⟨some 27, Op.call { callee := Callee.value (Operand.func 163), args := #[Operand.tmp 3, Operand.tmp 26], argTypes := #[215, 84] }, none⟩]
def item_Bytes_R9 : List Itm := [.one ⟨some 28, Op.fieldAddr 215 (Operand.tmp 3) 0, none⟩,
  .one ⟨some 29, Op.call { callee := Callee.value (Operand.func 167), args := #[Operand.tmp 28], argTypes := #[213] }, none⟩,
  .one ⟨some 2, Op.assign (Operand.tmp 29), none⟩]
def item_Bytes_L : MCode := (.seq (.reg 0 item_Bytes_R0 false) (.seq (.seq (.reg 1 item_Bytes_R1 false) (.cond (Operand.tmp 7) (.seq (.reg 2 item_Bytes_R2 false) .ret) .skip)) (.seq (.reg 3 item_Bytes_R3 false) (.seq (.reg 4 item_Bytes_R4 false) (.seq (.seq (.reg 5 item_Bytes_R5 false) (.cond (Operand.tmp 14) (.reg 6 item_Bytes_R6 false) (.seq (.reg 7 item_Bytes_R7 false) (.reg 8 item_Bytes_R8 false)))) (.seq (.reg 9 item_Bytes_R9 false) .ret))))))
def item_Bytes_ks : Nat → List Nat := fun i => match i with
  | _ => []
theorem item_Bytes_hl : Tryz.f125.body.map light = some item_Bytes_L.flat := by kernel_rfl
theorem item_Bytes_hk : item_Bytes_L.ok = true := by kernel_rfl
theorem item_Bytes_hb : Tryz.f125.body.map (codeB 30 item_Bytes_ks) = some true := by kernel_rfl
theorem item_Bytes_hr : Tryz.f125.results.toList = [ResultVar.tmp 2] := rfl
theorem item_Bytes_hn : fnB Tryz.prog 125 = true := by kernel_rfl
theorem item_Bytes_pu {args : List V} {st : List SO} {res : V} (an : Ann) (ha : args.length ≤ 30) (hres : noRef res = true) (h : wpM ⟨Tryz.prog, GW, 30, st.length⟩ an item_Bytes_ks item_Bytes_L (argE args 0) st (EndsP ⟨Tryz.prog, GW, 30, st.length⟩ [ResultVar.tmp 2] res st)) : FnOK Tryz.prog GW 125 args st res st :=
  fn_pure Tryz.func125 item_Bytes_hr item_Bytes_hl item_Bytes_hk item_Bytes_hb rfl item_Bytes_hn an ha hres h
/-! slices.Clone[list of string,string] -/
def slices_Clone_Lstring_string_R0 : List Itm := [.one ⟨some 2, Op.assign (Operand.const (Value.slice none 0 0)), none⟩]
def slices_Clone_Lstring_string_R1 : List Itm := [.one ⟨some 3, Op.move (Operand.tmp 0), none⟩,
  .one ⟨some 4, Op.binOp BinOp.eql 23 (Operand.tmp 3) (Operand.const (Value.slice none 0 0)) 23, none⟩]
def slices_Clone_Lstring_string_R2 : List Itm := [.one ⟨some 2, Op.assign (Operand.const (Value.slice none 0 0)), none⟩]
def slices_Clone_Lstring_string_R3 : List Itm := [.one ⟨some 5, Op.buildSlice 23 0 #[], none⟩,
  .one ⟨some 6, Op.move (Operand.tmp 0), none⟩,
  .one ⟨some 7, Op.call { callee := Callee.builtin Builtin.append, args := #[Operand.tmp 5, Operand.tmp 6], argTypes := #[23, 23] }, none⟩,
  .one ⟨some 2, Op.assign (Operand.tmp 7), none⟩]
def slices_Clone_Lstring_string_L : MCode := (.seq (.reg 0 slices_Clone_Lstring_string_R0 false) (.seq (.seq (.reg 1 slices_Clone_Lstring_string_R1 false) (.cond (Operand.tmp 4) (.seq (.reg 2 slices_Clone_Lstring_string_R2 false) .ret) .skip)) (.seq (.reg 3 slices_Clone_Lstring_string_R3 false) .ret)))
def slices_Clone_Lstring_string_ks : Nat → List Nat := fun i => match i with
  | _ => []
theorem slices_Clone_Lstring_string_hl : Tryz.f68.body.map light = some slices_Clone_Lstring_string_L.flat := by kernel_rfl
theorem slices_Clone_Lstring_string_hk : slices_Clone_Lstring_string_L.ok = true := by kernel_rfl
theorem slices_Clone_Lstring_string_hb : Tryz.f68.body.map (codeB 8 slices_Clone_Lstring_string_ks) = some true := by kernel_rfl
theorem slices_Clone_Lstring_string_hr : Tryz.f68.results.toList = [ResultVar.tmp 2] := rfl
theorem slices_Clone_Lstring_string_hn : fnB Tryz.prog 68 = true := by kernel_rfl
theorem slices_Clone_Lstring_string_pu {args : List V} {st : List SO} {res : V} (an : Ann) (ha : args.length ≤ 8) (hres : noRef res = true) (h : wpM ⟨Tryz.prog, GW, 8, st.length⟩ an slices_Clone_Lstring_string_ks slices_Clone_Lstring_string_L (argE args 0) st (EndsP ⟨Tryz.prog, GW, 8, st.length⟩ [ResultVar.tmp 2] res st)) : FnOK Tryz.prog GW 68 args st res st :=
  fn_pure Tryz.func68 slices_Clone_Lstring_string_hr slices_Clone_Lstring_string_hl slices_Clone_Lstring_string_hk slices_Clone_Lstring_string_hb rfl slices_Clone_Lstring_string_hn an ha hres h
/-! slices.Clone[list of agora/api.Wrap,agora/api.Wrap] -/
def slices_Clone_Lapi_Wrap_api_Wrap_R0 : List Itm := [.one ⟨some 2, Op.assign (Operand.const (Value.slice none 0 0)), none⟩]
def slices_Clone_Lapi_Wrap_api_Wrap_R1 : List Itm := [.one ⟨some 3, Op.move (Operand.tmp 0), none⟩,
  .one ⟨some 4, Op.binOp BinOp.eql 45 (Operand.tmp 3) (Operand.const (Value.slice none 0 0)) 45, none⟩]
def slices_Clone_Lapi_Wrap_api_Wrap_R2 : List Itm := [.one ⟨some 2, Op.assign (Operand.const (Value.slice none 0 0)), none⟩]
def slices_Clone_Lapi_Wrap_api_Wrap_R3 : List Itm := [.one ⟨some 5, Op.buildSlice 45 0 #[], none⟩,
  .one ⟨some 6, Op.move (Operand.tmp 0), none⟩,
  .one ⟨some 7, Op.call { callee := Callee.builtin Builtin.append, args := #[Operand.tmp 5, Operand.tmp 6], argTypes := #[45, 45] }, none⟩,
  .one ⟨some 2, Op.assign (Operand.tmp 7), none⟩]
def slices_Clone_Lapi_Wrap_api_Wrap_L : MCode := (.seq (.reg 0 slices_Clone_Lapi_Wrap_api_Wrap_R0 false) (.seq (.seq (.reg 1 slices_Clone_Lapi_Wrap_api_Wrap_R1 false) (.cond (Operand.tmp 4) (.seq (.reg 2 slices_Clone_Lapi_Wrap_api_Wrap_R2 false) .ret) .skip)) (.seq (.reg 3 slices_Clone_Lapi_Wrap_api_Wrap_R3 false) .ret)))
def slices_Clone_Lapi_Wrap_api_Wrap_ks : Nat → List Nat := fun i => match i with
  | _ => []
theorem slices_Clone_Lapi_Wrap_api_Wrap_hl : Tryz.f171.body.map light = some slices_Clone_Lapi_Wrap_api_Wrap_L.flat := by kernel_rfl
theorem slices_Clone_Lapi_Wrap_api_Wrap_hk : slices_Clone_Lapi_Wrap_api_Wrap_L.ok = true := by kernel_rfl
theorem slices_Clone_Lapi_Wrap_api_Wrap_hb : Tryz.f171.body.map (codeB 8 slices_Clone_Lapi_Wrap_api_Wrap_ks) = some true := by kernel_rfl
theorem slices_Clone_Lapi_Wrap_api_Wrap_hr : Tryz.f171.results.toList = [ResultVar.tmp 2] := rfl
theorem slices_Clone_Lapi_Wrap_api_Wrap_hn : fnB Tryz.prog 171 = true := by kernel_rfl
theorem slices_Clone_Lapi_Wrap_api_Wrap_pu {args : List V} {st : List SO} {res : V} (an : Ann) (ha : args.length ≤ 8) (hres : noRef res = true) (h : wpM ⟨Tryz.prog, GW, 8, st.length⟩ an slices_Clone_Lapi_Wrap_api_Wrap_ks slices_Clone_Lapi_Wrap_api_Wrap_L (argE args 0) st (EndsP ⟨Tryz.prog, GW, 8, st.length⟩ [ResultVar.tmp 2] res st)) : FnOK Tryz.prog GW 171 args st res st :=
  fn_pure Tryz.func171 slices_Clone_Lapi_Wrap_api_Wrap_hr slices_Clone_Lapi_Wrap_api_Wrap_hl slices_Clone_Lapi_Wrap_api_Wrap_hk slices_Clone_Lapi_Wrap_api_Wrap_hb rfl slices_Clone_Lapi_Wrap_api_Wrap_hn an ha hres h
/-! agora/item.cloned -/
def item_cloned_R0 : List Itm := [.one ⟨some 1, Op.box 49 (Operand.tmp 0), none⟩,
  .one ⟨some 2, Op.alloc 49, none⟩]
def item_cloned_R1 : List Itm := [.one ⟨some 3, Op.fieldAddr 49 (Operand.tmp 1) 9, none⟩,
  .one ⟨some 4, Op.load 23 (Operand.tmp 3), none⟩,
  .one ⟨some 5, Op.call { callee := Callee.value (Operand.func 68), args := #[Operand.tmp 4], argTypes := #[23] }, none⟩,
  .one ⟨some 6, Op.fieldAddr 49 (Operand.tmp 1) 13, none⟩,
  .one ⟨some 7, Op.load 45 (Operand.tmp 6), none⟩,
  .one ⟨some 8, Op.call { callee := Callee.value (Operand.func 171), args := #[Operand.tmp 7], argTypes := #[45] }, none⟩,
  .one ⟨some 9, Op.fieldAddr 49 (Operand.tmp 1) 9, none⟩,
  .one ⟨none, Op.store 23 (Operand.tmp 9) (Operand.tmp 5), none⟩,
  .one ⟨some 10, Op.fieldAddr 49 (Operand.tmp 1) 13, none⟩,
  .one ⟨none, Op.store 45 (Operand.tmp 10) (Operand.tmp 8), none⟩]
def item_cloned_R2 : List Itm := [.one ⟨some 11, Op.load 49 (Operand.tmp 1), none⟩,
  .one ⟨none, Op.store 49 (Operand.tmp 2) (Operand.tmp 11), none⟩]
def item_cloned_L : MCode := (.seq (.reg 0 item_cloned_R0 false) (.seq (.reg 1 item_cloned_R1 true) (.seq (.reg 2 item_cloned_R2 false) .ret)))
def item_cloned_ks : Nat → List Nat := fun i => match i with
  | 1 => [0, 0, 0, 0, 0, 0, 0, 2, 0, 2]
  | _ => []
theorem item_cloned_hl : Tryz.f127.body.map light = some item_cloned_L.flat := by kernel_rfl
theorem item_cloned_hk : item_cloned_L.ok = true := by kernel_rfl
theorem item_cloned_hb : Tryz.f127.body.map (codeB 12 item_cloned_ks) = some true := by kernel_rfl
theorem item_cloned_hr : Tryz.f127.results.toList = [ResultVar.cell 2 49] := rfl
theorem item_cloned_hn : fnB Tryz.prog 127 = true := by kernel_rfl
theorem item_cloned_pu {args : List V} {st : List SO} {res : V} (an : Ann) (ha : args.length ≤ 12) (hres : noRef res = true) (h : wpM ⟨Tryz.prog, GW, 12, st.length⟩ an item_cloned_ks item_cloned_L (argE args 0) st (EndsP ⟨Tryz.prog, GW, 12, st.length⟩ [ResultVar.cell 2 49] res st)) : FnOK Tryz.prog GW 127 args st res st :=
  fn_pure Tryz.func127 item_cloned_hr item_cloned_hl item_cloned_hk item_cloned_hb rfl item_cloned_hn an ha hres h
/-! agora/item.OfAct -/
def item_OfAct_R0 : List Itm := [.one ⟨some 1, Op.box 49 (Operand.tmp 0), none⟩,
  .one ⟨some 2, Op.alloc 149, none⟩]
def item_OfAct_R1 : List Itm := [.one ⟨some 3, Op.load 49 (Operand.tmp 1), none⟩,
  .one ⟨some 4, Op.call { callee := Callee.value (Operand.func 127), args := #[Operand.tmp 3], argTypes := #[49] }, none⟩,
  .one ⟨some 5, Op.build 149 #[(0, Operand.const (Value.int IntKind.i64 0)), (1, Operand.tmp 4)], none⟩,
  .one ⟨none, Op.store 149 (Operand.tmp 2) (Operand.tmp 5), none⟩]
def item_OfAct_L : MCode := (.seq (.reg 0 item_OfAct_R0 false) (.seq (.reg 1 item_OfAct_R1 false) .ret))
def item_OfAct_ks : Nat → List Nat := fun i => match i with
  | _ => []
theorem item_OfAct_hl : Tryz.f85.body.map light = some item_OfAct_L.flat := by kernel_rfl
theorem item_OfAct_hk : item_OfAct_L.ok = true := by kernel_rfl
theorem item_OfAct_hb : Tryz.f85.body.map (codeB 6 item_OfAct_ks) = some true := by kernel_rfl
theorem item_OfAct_hr : Tryz.f85.results.toList = [ResultVar.cell 2 149] := rfl
theorem item_OfAct_hn : fnB Tryz.prog 85 = true := by kernel_rfl
theorem item_OfAct_pu {args : List V} {st : List SO} {res : V} (an : Ann) (ha : args.length ≤ 6) (hres : noRef res = true) (h : wpM ⟨Tryz.prog, GW, 6, st.length⟩ an item_OfAct_ks item_OfAct_L (argE args 0) st (EndsP ⟨Tryz.prog, GW, 6, st.length⟩ [ResultVar.cell 2 149] res st)) : FnOK Tryz.prog GW 85 args st res st :=
  fn_pure Tryz.func85 item_OfAct_hr item_OfAct_hl item_OfAct_hk item_OfAct_hb rfl item_OfAct_hn an ha hres h
/-! agora/chain.Index$1 -/
def chain_Index_1_R0 : List Itm := [.one ⟨some 2, Op.box 49 (Operand.tmp 0), none⟩,
  .one ⟨some 3, Op.assign (Operand.const (Value.bool false)), none⟩]
def chain_Index_1_R1 : List Itm := [.one ⟨some 4, Op.load 49 (Operand.tmp 2), none⟩,
  .one ⟨some 5, Op.call { callee := Callee.value (Operand.func 85), args := #[Operand.tmp 4], argTypes := #[49] }, none⟩,
  .one ⟨some 6, Op.call { callee := Callee.value (Operand.func 84), args := #[Operand.tmp 5], argTypes := #[149] }, none⟩,
  .one ⟨some 7, Op.load 9 (Operand.tmp 1), none⟩,
  .one ⟨some 8, Op.binOp BinOp.eql 9 (Operand.tmp 6) (Operand.tmp 7) 9, none⟩,
  .one ⟨some 3, Op.assign (Operand.tmp 8), none⟩]
def chain_Index_1_L : MCode := (.seq (.reg 0 chain_Index_1_R0 false) (.seq (.reg 1 chain_Index_1_R1 true) .ret))
def chain_Index_1_ks : Nat → List Nat := fun i => match i with
  | 1 => [1, 0, 0, 1, 0, 0]
  | _ => []
theorem chain_Index_1_hl : Tryz.f83.body.map light = some chain_Index_1_L.flat := by kernel_rfl
theorem chain_Index_1_hk : chain_Index_1_L.ok = true := by kernel_rfl
theorem chain_Index_1_hb : Tryz.f83.body.map (codeB 9 chain_Index_1_ks) = some true := by kernel_rfl
theorem chain_Index_1_hr : Tryz.f83.results.toList = [ResultVar.tmp 3] := rfl
theorem chain_Index_1_hn : fnB Tryz.prog 83 = true := by kernel_rfl
theorem chain_Index_1_pu {args : List V} {st : List SO} {res : V} (an : Ann) (ha : args.length ≤ 9) (hres : noRef res = true) (h : wpM ⟨Tryz.prog, GW, 9, st.length⟩ an chain_Index_1_ks chain_Index_1_L (argE args 0) st (EndsP ⟨Tryz.prog, GW, 9, st.length⟩ [ResultVar.tmp 3] res st)) : FnOK Tryz.prog GW 83 args st res st :=
  fn_pure Tryz.func83 chain_Index_1_hr chain_Index_1_hl chain_Index_1_hk chain_Index_1_hb rfl chain_Index_1_hn an ha hres h
/-! agora/chain.Index -/
def chain_Index_R0 : List Itm := [.one ⟨some 2, Op.box 40 (Operand.tmp 0), none⟩,
  .one ⟨some 3, Op.box 9 (Operand.tmp 1), none⟩,
  .one ⟨some 4, Op.assign (Operand.const (Value.int IntKind.i64 0)), none⟩,
  .one ⟨some 5, Op.assign (Operand.const (Value.bool false)), none⟩]
def chain_Index_R1 : List Itm := [.one ⟨some 7, Op.fieldAddr 40 (Operand.tmp 2) 1, none⟩,
  .one ⟨some 8, Op.load 37 (Operand.tmp 7), none⟩,
  .one ⟨some 9, Op.makeFunc (Fn.func 83) #[] #[Operand.tmp 3], none⟩,
  .one ⟨some 10, Op.call { callee := Callee.value (Operand.func 82), args := #[Operand.tmp 8, Operand.tmp 9], argTypes := #[37, 151] }, none⟩,
  .one ⟨some 6, Op.assign (Operand.tmp 10), none⟩]
def chain_Index_R2 : List Itm := [.one ⟨some 11, Op.move (Operand.tmp 6), none⟩,
  .one ⟨some 12, Op.call { callee := Callee.builtin Builtin.max, args := #[Operand.tmp 11, Operand.const (Value.int IntKind.i64 0)], argTypes := #[3, 3] }, none⟩,
  .one ⟨some 13, Op.move (Operand.tmp 6), none⟩,
  .one ⟨some 14, Op.binOp BinOp.geq 3 (Operand.tmp 13) (Operand.const (Value.int IntKind.i64 0)) 3, none⟩,
  .one ⟨some 4, Op.assign (Operand.tmp 12), none⟩,
  .one ⟨some 5, Op.assign (Operand.tmp 14), none⟩]
def chain_Index_L : MCode := (.seq (.reg 0 chain_Index_R0 false) (.seq (.reg 1 chain_Index_R1 false) (.seq (.reg 2 chain_Index_R2 false) .ret)))
def chain_Index_ks : Nat → List Nat := fun i => match i with
  | _ => []
theorem chain_Index_hl : Tryz.f45.body.map light = some chain_Index_L.flat := by kernel_rfl
theorem chain_Index_hk : chain_Index_L.ok = true := by kernel_rfl
theorem chain_Index_hb : Tryz.f45.body.map (codeB 15 chain_Index_ks) = some true := by kernel_rfl
theorem chain_Index_hr : Tryz.f45.results.toList = [ResultVar.tmp 4, ResultVar.tmp 5] := rfl
theorem chain_Index_hn : fnB Tryz.prog 45 = true := by kernel_rfl
theorem chain_Index_pu {args : List V} {st : List SO} {res : V} (an : Ann) (ha : args.length ≤ 15) (hres : noRef res = true) (h : wpM ⟨Tryz.prog, GW, 15, st.length⟩ an chain_Index_ks chain_Index_L (argE args 0) st (EndsP ⟨Tryz.prog, GW, 15, st.length⟩ [ResultVar.tmp 4, ResultVar.tmp 5] res st)) : FnOK Tryz.prog GW 45 args st res st :=
  fn_pure Tryz.func45 chain_Index_hr chain_Index_hl chain_Index_hk chain_Index_hb rfl chain_Index_hn an ha hres h
/-! agora/item.Digest -/
def item_Digest_R0 : List Itm := [.one ⟨some 1, Op.box 149 (Operand.tmp 0), none⟩,
  .one ⟨some 2, Op.assign (Operand.const (Value.string { data := #[] })), none⟩]
def item_Digest_R1 : List Itm := [.one ⟨some 4, Op.load 149 (Operand.tmp 1), none⟩,
  .one ⟨some 5, Op.call { callee := Callee.value (Operand.func 125), args := #[Operand.tmp 4], argTypes := #[149] }, none⟩,
  .one ⟨some 3, Op.assign (Operand.tmp 5), none⟩]
def item_Digest_R2 : List Itm := [.one ⟨some 6, Op.move (Operand.tmp 3), none⟩,
  .one ⟨some 7, Op.binOp BinOp.eql 9 (Operand.tmp 6) (Operand.const (Value.string { data := #[] })) 9, none⟩]
def item_Digest_R3 : List Itm := [.one ⟨some 2, Op.assign (Operand.const (Value.string { data := #[] })), none⟩]
def item_Digest_R4 : List Itm := [.one ⟨some 8, Op.move (Operand.tmp 3), none⟩,
  .one ⟨some 9, Op.call { callee := Callee.value (Operand.func 126), args := #[Operand.tmp 8], argTypes := #[9] }, none⟩,
  .one ⟨some 2, Op.assign (Operand.tmp 9), none⟩]
def item_Digest_L : MCode := (.seq (.reg 0 item_Digest_R0 false) (.seq (.reg 1 item_Digest_R1 false) (.seq (.seq (.reg 2 item_Digest_R2 false) (.cond (Operand.tmp 7) (.seq (.reg 3 item_Digest_R3 false) .ret) .skip)) (.seq (.reg 4 item_Digest_R4 false) .ret))))
def item_Digest_ks : Nat → List Nat := fun i => match i with
  | _ => []
theorem item_Digest_hl : Tryz.f84.body.map light = some item_Digest_L.flat := by kernel_rfl
theorem item_Digest_hk : item_Digest_L.ok = true := by kernel_rfl
theorem item_Digest_hb : Tryz.f84.body.map (codeB 10 item_Digest_ks) = some true := by kernel_rfl
theorem item_Digest_hr : Tryz.f84.results.toList = [ResultVar.tmp 2] := rfl
theorem item_Digest_hn : fnB Tryz.prog 84 = true := by kernel_rfl
theorem item_Digest_pu {args : List V} {st : List SO} {res : V} (an : Ann) (ha : args.length ≤ 10) (hres : noRef res = true) (h : wpM ⟨Tryz.prog, GW, 10, st.length⟩ an item_Digest_ks item_Digest_L (argE args 0) st (EndsP ⟨Tryz.prog, GW, 10, st.length⟩ [ResultVar.tmp 2] res st)) : FnOK Tryz.prog GW 84 args st res st :=
  fn_pure Tryz.func84 item_Digest_hr item_Digest_hl item_Digest_hk item_Digest_hb rfl item_Digest_hn an ha hres h
/-! (*strings.Builder).copyCheck -/
def pstrings_Builder_copyCheck_R0 : List Itm := [.one ⟨some 2, Op.move (Operand.tmp 0), none⟩,
  .one ⟨some 3, Op.nilCheck (Operand.tmp 2), none⟩,
  .one ⟨some 4, Op.fieldAddr 213 (Operand.tmp 3) 0, none⟩,
  .one ⟨some 5, Op.load 211 (Operand.tmp 4), none⟩,
  .one ⟨some 6, Op.binOp BinOp.eql 211 (Operand.tmp 5) (Operand.const (Value.pointer none)) 211, none⟩]
def pstrings_Builder_copyCheck_R1 : List Itm := [.one ⟨some 7, Op.move (Operand.tmp 0), none⟩,
  .one ⟨some 8, Op.move (Operand.tmp 0), none⟩,
  .one ⟨some 9, Op.convert 211 282 (Operand.tmp 8), none⟩,
  .one ⟨some 10, Op.call { callee := Callee.value (Operand.func 229), args := #[Operand.tmp 9], argTypes := #[282] }, none⟩,
  .one ⟨some 11, Op.convert 282 211 (Operand.tmp 10), none⟩,
  .one ⟨some 12, Op.nilCheck (Operand.tmp 7), none⟩,
  .one ⟨some 13, Op.fieldAddr 213 (Operand.tmp 12) 0, none⟩,
  .one ⟨none, Op.store 211 (Operand.tmp 13) (Operand.tmp 11), none⟩]
def pstrings_Builder_copyCheck_R2 : List Itm := [.one ⟨some 14, Op.move (Operand.tmp 0), none⟩,
  .one ⟨some 15, Op.nilCheck (Operand.tmp 14), none⟩,
  .one ⟨some 16, Op.fieldAddr 213 (Operand.tmp 15) 0, none⟩,
  .one ⟨some 17, Op.load 211 (Operand.tmp 16), none⟩,
  .one ⟨some 18, Op.move (Operand.tmp 0), none⟩,
  .one ⟨some 19, Op.binOp BinOp.neq 211 (Operand.tmp 17) (Operand.tmp 18) 211, none⟩]
def pstrings_Builder_copyCheck_L : MCode := (.seq (.reg 0 pstrings_Builder_copyCheck_R0 false) (.cond (Operand.tmp 6) (.reg 1 pstrings_Builder_copyCheck_R1 false) (.seq (.reg 2 pstrings_Builder_copyCheck_R2 false) (.cond (Operand.tmp 19) .other .skip))))
def pstrings_Builder_copyCheck_ks : Nat → List Nat := fun i => match i with
  | _ => []
theorem pstrings_Builder_copyCheck_hl : Tryz.f205.body.map light = some pstrings_Builder_copyCheck_L.flat := by kernel_rfl
theorem pstrings_Builder_copyCheck_hk : pstrings_Builder_copyCheck_L.ok = true := by kernel_rfl
theorem pstrings_Builder_copyCheck_hb : Tryz.f205.body.map (codeB 20 pstrings_Builder_copyCheck_ks) = some true := by kernel_rfl
theorem pstrings_Builder_copyCheck_hr : Tryz.f205.results.toList = [] := rfl
theorem pstrings_Builder_copyCheck_hn : fnB Tryz.prog 205 = true := by kernel_rfl
theorem pstrings_Builder_copyCheck_ef {args : List V} {st st' : List SO} {res : V} (an : Ann) (ha : args.length ≤ 20) (hres : noRef res = true) (hok : StOk st → StOk st') (hlen : st.length ≤ st'.length) (h : wpM ⟨Tryz.prog, GW, 20, st.length⟩ an pstrings_Builder_copyCheck_ks pstrings_Builder_copyCheck_L (argE args 0) st (EndsP ⟨Tryz.prog, GW, 20, st.length⟩ [] res st')) : FnOK Tryz.prog GW 205 args st res st' :=
  fn_eff Tryz.func205 pstrings_Builder_copyCheck_hr pstrings_Builder_copyCheck_hl pstrings_Builder_copyCheck_hk pstrings_Builder_copyCheck_hb rfl pstrings_Builder_copyCheck_hn an ha hres hok hlen h
/-! (*strings.Builder).WriteString -/
def pstrings_Builder_WriteString_R0 : List Itm := [.one ⟨some 4, Op.assign (Operand.const (Value.int IntKind.i64 0)), none⟩,
  .one ⟨some 5, Op.assign (Operand.const Value.nilIface), none⟩]
def pstrings_Builder_WriteString_R1 : List Itm := [.one ⟨some 6, Op.move (Operand.tmp 0), none⟩,
  .one ⟨some 7, Op.call { callee := Callee.value (Operand.func 205), args := #[Operand.tmp 6], argTypes := #[211] }, none⟩]
def pstrings_Builder_WriteString_R2 : List Itm := [.one ⟨some 8, Op.move (Operand.tmp 0), none⟩,
  .one ⟨some 9, Op.move (Operand.tmp 0), none⟩,
  .one ⟨some 10, Op.nilCheck (Operand.tmp 9), none⟩,
  .one ⟨some 11, Op.fieldAddr 213 (Operand.tmp 10) 1, none⟩,
  .one ⟨some 12, Op.load 207 (Operand.tmp 11), none⟩,
  .one ⟨some 13, Op.move (Operand.tmp 1), none⟩,
  .one ⟨some 14, Op.call { callee := Callee.builtin Builtin.append, args := #[Operand.tmp 12, Operand.tmp 13], argTypes := #[207, 9] }, none⟩,
  .one ⟨some 15, Op.nilCheck (Operand.tmp 8), none⟩,
  .one ⟨some 16, Op.fieldAddr 213 (Operand.tmp 15) 1, none⟩,
  .one ⟨none, Op.store 207 (Operand.tmp 16) (Operand.tmp 14), none⟩]
def pstrings_Builder_WriteString_R3 : List Itm := [.one ⟨some 17, Op.move (Operand.tmp 1), none⟩,
  .one ⟨some 18, Op.call { callee := Callee.builtin Builtin.len, args := #[Operand.tmp 17], argTypes := #[9] }, none⟩,
  .one ⟨some 4, Op.assign (Operand.tmp 18), none⟩,
  .one ⟨some 5, Op.assign (Operand.const Value.nilIface), none⟩]
def pstrings_Builder_WriteString_L : MCode := (.seq (.reg 0 pstrings_Builder_WriteString_R0 false) (.seq (.reg 1 pstrings_Builder_WriteString_R1 false) (.seq (.reg 2 pstrings_Builder_WriteString_R2 false) (.seq (.reg 3 pstrings_Builder_WriteString_R3 false) .ret))))
def pstrings_Builder_WriteString_ks : Nat → List Nat := fun i => match i with
  | _ => []
theorem pstrings_Builder_WriteString_hl : Tryz.f164.body.map light = some pstrings_Builder_WriteString_L.flat := by kernel_rfl
theorem pstrings_Builder_WriteString_hk : pstrings_Builder_WriteString_L.ok = true := by kernel_rfl
theorem pstrings_Builder_WriteString_hb : Tryz.f164.body.map (codeB 19 pstrings_Builder_WriteString_ks) = some true := by kernel_rfl
theorem pstrings_Builder_WriteString_hr : Tryz.f164.results.toList = [ResultVar.tmp 4, ResultVar.tmp 5] := rfl
theorem pstrings_Builder_WriteString_hn : fnB Tryz.prog 164 = true := by kernel_rfl
theorem pstrings_Builder_WriteString_ef {args : List V} {st st' : List SO} {res : V} (an : Ann) (ha : args.length ≤ 19) (hres : noRef res = true) (hok : StOk st → StOk st') (hlen : st.length ≤ st'.length) (h : wpM ⟨Tryz.prog, GW, 19, st.length⟩ an pstrings_Builder_WriteString_ks pstrings_Builder_WriteString_L (argE args 0) st (EndsP ⟨Tryz.prog, GW, 19, st.length⟩ [ResultVar.tmp 4, ResultVar.tmp 5] res st')) : FnOK Tryz.prog GW 164 args st res st' :=
  fn_eff Tryz.func164 pstrings_Builder_WriteString_hr pstrings_Builder_WriteString_hl pstrings_Builder_WriteString_hk pstrings_Builder_WriteString_hb rfl pstrings_Builder_WriteString_hn an ha hres hok hlen h
/-! (*strings.Builder).String -/
def pstrings_Builder_String_R0 : List Itm := [.one ⟨some 2, Op.assign (Operand.const (Value.string { data := #[] })), none⟩]
def pstrings_Builder_String_R1 : List Itm := [.one ⟨some 3, Op.move (Operand.tmp 0), none⟩,
  .one ⟨some 4, Op.nilCheck (Operand.tmp 3), none⟩,
  .one ⟨some 5, Op.fieldAddr 213 (Operand.tmp 4) 1, none⟩,
  .one ⟨some 6, Op.load 207 (Operand.tmp 5), none⟩,
  .one ⟨some 7, Op.call { callee := Callee.builtin Builtin.unsafeSliceData, args := #[Operand.tmp 6], argTypes := #[207] }, none⟩,
  .one ⟨some 8, Op.move (Operand.tmp 0), none⟩,
  .one ⟨some 9, Op.nilCheck (Operand.tmp 8), none⟩,
  .one ⟨some 10, Op.fieldAddr 213 (Operand.tmp 9) 1, none⟩,
  .one ⟨some 11, Op.load 207 (Operand.tmp 10), none⟩,
  .one ⟨some 12, Op.call { callee := Callee.builtin Builtin.len, args := #[Operand.tmp 11], argTypes := #[207] }, none⟩,
  .one ⟨some 13, Op.call { callee := Callee.builtin Builtin.unsafeString, args := #[Operand.tmp 7, Operand.tmp 12], argTypes := #[262, 3] }, none⟩,
  .one ⟨some 2, Op.assign (Operand.tmp 13), none⟩]
def pstrings_Builder_String_L : MCode := (.seq (.reg 0 pstrings_Builder_String_R0 false) (.seq (.reg 1 pstrings_Builder_String_R1 true) .ret))
def pstrings_Builder_String_ks : Nat → List Nat := fun i => match i with
  | 1 => [0, 0, 0, 1, 1, 0, 0, 0, 1, 1, 2, 0]
  | _ => []
theorem pstrings_Builder_String_hl : Tryz.f167.body.map light = some pstrings_Builder_String_L.flat := by kernel_rfl
theorem pstrings_Builder_String_hk : pstrings_Builder_String_L.ok = true := by kernel_rfl
theorem pstrings_Builder_String_hb : Tryz.f167.body.map (codeB 14 pstrings_Builder_String_ks) = some true := by kernel_rfl
theorem pstrings_Builder_String_hr : Tryz.f167.results.toList = [ResultVar.tmp 2] := rfl
theorem pstrings_Builder_String_hn : fnB Tryz.prog 167 = true := by kernel_rfl
theorem pstrings_Builder_String_ef {args : List V} {st st' : List SO} {res : V} (an : Ann) (ha : args.length ≤ 14) (hres : noRef res = true) (hok : StOk st → StOk st') (hlen : st.length ≤ st'.length) (h : wpM ⟨Tryz.prog, GW, 14, st.length⟩ an pstrings_Builder_String_ks pstrings_Builder_String_L (argE args 0) st (EndsP ⟨Tryz.prog, GW, 14, st.length⟩ [ResultVar.tmp 2] res st')) : FnOK Tryz.prog GW 167 args st res st' :=
  fn_eff Tryz.func167 pstrings_Builder_String_hr pstrings_Builder_String_hl pstrings_Builder_String_hk pstrings_Builder_String_hb rfl pstrings_Builder_String_hn an ha hres hok hlen h
/-! (*strings.Builder).WriteByte -/
def pstrings_Builder_WriteByte_R0 : List Itm := [.one ⟨some 4, Op.assign (Operand.const Value.nilIface), none⟩]
def pstrings_Builder_WriteByte_R1 : List Itm := [.one ⟨some 5, Op.move (Operand.tmp 0), none⟩,
  .one ⟨some 6, Op.call { callee := Callee.value (Operand.func 205), args := #[Operand.tmp 5], argTypes := #[211] }, none⟩]
def pstrings_Builder_WriteByte_R2 : List Itm := [.one ⟨some 7, Op.move (Operand.tmp 0), none⟩,
  .one ⟨some 8, Op.move (Operand.tmp 0), none⟩,
  .one ⟨some 9, Op.nilCheck (Operand.tmp 8), none⟩,
  .one ⟨some 10, Op.fieldAddr 213 (Operand.tmp 9) 1, none⟩,
  .one ⟨some 11, Op.load 207 (Operand.tmp 10), none⟩,
  .one ⟨some 12, Op.move (Operand.tmp 1), none⟩,
  .one ⟨some 13, Op.buildSlice 207 1 #[(0, Operand.tmp 12)], none⟩,
  .one ⟨some 14, Op.call { callee := Callee.builtin Builtin.append, args := #[Operand.tmp 11, Operand.tmp 13], argTypes := #[207, 207] }, none⟩,
  .one ⟨some 15, Op.nilCheck (Operand.tmp 7), none⟩,
  .one ⟨some 16, Op.fieldAddr 213 (Operand.tmp 15) 1, none⟩,
  .one ⟨none, Op.store 207 (Operand.tmp 16) (Operand.tmp 14), none⟩]
def pstrings_Builder_WriteByte_R3 : List Itm := [.one ⟨some 4, Op.assign (Operand.const Value.nilIface), none⟩]
def pstrings_Builder_WriteByte_L : MCode := (.seq (.reg 0 pstrings_Builder_WriteByte_R0 false) (.seq (.reg 1 pstrings_Builder_WriteByte_R1 false) (.seq (.reg 2 pstrings_Builder_WriteByte_R2 false) (.seq (.reg 3 pstrings_Builder_WriteByte_R3 false) .ret))))
def pstrings_Builder_WriteByte_ks : Nat → List Nat := fun i => match i with
  | _ => []
theorem pstrings_Builder_WriteByte_hl : Tryz.f209.body.map light = some pstrings_Builder_WriteByte_L.flat := by kernel_rfl
theorem pstrings_Builder_WriteByte_hk : pstrings_Builder_WriteByte_L.ok = true := by kernel_rfl
theorem pstrings_Builder_WriteByte_hb : Tryz.f209.body.map (codeB 17 pstrings_Builder_WriteByte_ks) = some true := by kernel_rfl
theorem pstrings_Builder_WriteByte_hr : Tryz.f209.results.toList = [ResultVar.tmp 4] := rfl
theorem pstrings_Builder_WriteByte_hn : fnB Tryz.prog 209 = true := by kernel_rfl
theorem pstrings_Builder_WriteByte_ef {args : List V} {st st' : List SO} {res : V} (an : Ann) (ha : args.length ≤ 17) (hres : noRef res = true) (hok : StOk st → StOk st') (hlen : st.length ≤ st'.length) (h : wpM ⟨Tryz.prog, GW, 17, st.length⟩ an pstrings_Builder_WriteByte_ks pstrings_Builder_WriteByte_L (argE args 0) st (EndsP ⟨Tryz.prog, GW, 17, st.length⟩ [ResultVar.tmp 4] res st')) : FnOK Tryz.prog GW 209 args st res st' :=
  fn_eff Tryz.func209 pstrings_Builder_WriteByte_hr pstrings_Builder_WriteByte_hl pstrings_Builder_WriteByte_hk pstrings_Builder_WriteByte_hb rfl pstrings_Builder_WriteByte_hn an ha hres hok hlen h
/-! (*strings.Builder).Len -/
def pstrings_Builder_Len_R0 : List Itm := [.one ⟨some 2, Op.assign (Operand.const (Value.int IntKind.i64 0)), none⟩]
def pstrings_Builder_Len_R1 : List Itm := [.one ⟨some 3, Op.move (Operand.tmp 0), none⟩,
  .one ⟨some 4, Op.nilCheck (Operand.tmp 3), none⟩,
  .one ⟨some 5, Op.fieldAddr 213 (Operand.tmp 4) 1, none⟩,
  .one ⟨some 6, Op.load 207 (Operand.tmp 5), none⟩,
  .one ⟨some 7, Op.call { callee := Callee.builtin Builtin.len, args := #[Operand.tmp 6], argTypes := #[207] }, none⟩,
  .one ⟨some 2, Op.assign (Operand.tmp 7), none⟩]
def pstrings_Builder_Len_L : MCode := (.seq (.reg 0 pstrings_Builder_Len_R0 false) (.seq (.reg 1 pstrings_Builder_Len_R1 false) .ret))
def pstrings_Builder_Len_ks : Nat → List Nat := fun i => match i with
  | _ => []
theorem pstrings_Builder_Len_hl : Tryz.f210.body.map light = some pstrings_Builder_Len_L.flat := by kernel_rfl
theorem pstrings_Builder_Len_hk : pstrings_Builder_Len_L.ok = true := by kernel_rfl
theorem pstrings_Builder_Len_hb : Tryz.f210.body.map (codeB 8 pstrings_Builder_Len_ks) = some true := by kernel_rfl
theorem pstrings_Builder_Len_hr : Tryz.f210.results.toList = [ResultVar.tmp 2] := rfl
theorem pstrings_Builder_Len_hn : fnB Tryz.prog 210 = true := by kernel_rfl
theorem pstrings_Builder_Len_pu {args : List V} {st : List SO} {res : V} (an : Ann) (ha : args.length ≤ 8) (hres : noRef res = true) (h : wpM ⟨Tryz.prog, GW, 8, st.length⟩ an pstrings_Builder_Len_ks pstrings_Builder_Len_L (argE args 0) st (EndsP ⟨Tryz.prog, GW, 8, st.length⟩ [ResultVar.tmp 2] res st)) : FnOK Tryz.prog GW 210 args st res st :=
  fn_pure Tryz.func210 pstrings_Builder_Len_hr pstrings_Builder_Len_hl pstrings_Builder_Len_hk pstrings_Builder_Len_hb rfl pstrings_Builder_Len_hn an ha hres h
end Go.Proofs.YthkmfboffnhkaaaGreatDoor
