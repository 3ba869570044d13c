/-
  The light code of functions: printed by wip/tools/gen.py.
-/
import Derived.Test.YthkmfboffnhkaaaGreatDoorTY
namespace Go.Proofs.YthkmfboffnhkaaaGreatDoor
open Go Go.L1
set_option linter.all false
set_option maxRecDepth 100000
/-! slices.IndexFunc[list of agora/api.Chain,agora/api.Chain] -/
def slices_IndexFunc_Lapi_Chain_api_Chain_R0 : List Itm := [.one ⟨some 4, Op.assign (Operand.const (Value.int IntKind.i64 0)), none⟩]
def slices_IndexFunc_Lapi_Chain_api_Chain_R1 : List Itm := [.one ⟨some 6, Op.move (Operand.tmp 0), none⟩,
  .one ⟨some 7, Op.call { callee := Callee.builtin Builtin.len, args := #[Operand.tmp 6], argTypes := #[22] }, none⟩,
  .one ⟨some 8, Op.move (Operand.const (Value.int IntKind.i64 0)), none⟩]
def slices_IndexFunc_Lapi_Chain_api_Chain_R2 : List Itm := [.one ⟨some 9, Op.binOp BinOp.lss 3 (Operand.tmp 8) (Operand.tmp 7) 3, none⟩]
def slices_IndexFunc_Lapi_Chain_api_Chain_R3 : List Itm := [.one ⟨some 10, Op.move (Operand.tmp 8), none⟩,
  .one ⟨some 5, Op.assign (Operand.tmp 10), none⟩]
def slices_IndexFunc_Lapi_Chain_api_Chain_R4 : List Itm := [.one ⟨some 11, Op.move (Operand.tmp 1), none⟩,
  .one ⟨some 12, Op.move (Operand.tmp 0), none⟩,
  .one ⟨some 13, Op.move (Operand.tmp 5), none⟩,
  .one ⟨some 14, Op.indexAddr 22 (Operand.tmp 12) (Operand.tmp 13), none⟩,
  .one ⟨some 15, Op.load 40 (Operand.tmp 14), none⟩,
  .one ⟨some 16, Op.call { callee := Callee.value (Operand.tmp 11), args := #[Operand.tmp 15], argTypes := #[40] }, none⟩]
def slices_IndexFunc_Lapi_Chain_api_Chain_R5 : List Itm := [.one ⟨some 17, Op.move (Operand.tmp 5), none⟩,
  .one ⟨some 4, Op.assign (Operand.tmp 17), none⟩]
def slices_IndexFunc_Lapi_Chain_api_Chain_B1 : MCode := (.seq (.reg 3 slices_IndexFunc_Lapi_Chain_api_Chain_R3 false) (.seq (.reg 4 slices_IndexFunc_Lapi_Chain_api_Chain_R4 false) (.cond (Operand.tmp 16) (.seq (.reg 5 slices_IndexFunc_Lapi_Chain_api_Chain_R5 false) .ret) .skip)))
def slices_IndexFunc_Lapi_Chain_api_Chain_R6 : List Itm := [.one ⟨some 18, Op.binOp BinOp.add 3 (Operand.tmp 8) (Operand.const (Value.int IntKind.i64 1)) 3, none⟩,
  .one ⟨some 8, Op.move (Operand.tmp 18), none⟩]
def slices_IndexFunc_Lapi_Chain_api_Chain_W1 : MCode := (.seq (.reg 2 slices_IndexFunc_Lapi_Chain_api_Chain_R2 false) (.seq (.cond (Operand.tmp 9) .skip (.exit 0)) (.seq (.block 1 slices_IndexFunc_Lapi_Chain_api_Chain_B1) (.reg 6 slices_IndexFunc_Lapi_Chain_api_Chain_R6 false))))
def slices_IndexFunc_Lapi_Chain_api_Chain_B0 : MCode := (.loop slices_IndexFunc_Lapi_Chain_api_Chain_W1)
def slices_IndexFunc_Lapi_Chain_api_Chain_R7 : List Itm := [.one ⟨some 4, Op.assign (Operand.const (Value.int IntKind.i64 (-1))), none⟩]
def slices_IndexFunc_Lapi_Chain_api_Chain_L : MCode := (.seq (.reg 0 slices_IndexFunc_Lapi_Chain_api_Chain_R0 false) (.seq (.seq (.reg 1 slices_IndexFunc_Lapi_Chain_api_Chain_R1 false) (.block 0 slices_IndexFunc_Lapi_Chain_api_Chain_B0)) (.seq (.reg 7 slices_IndexFunc_Lapi_Chain_api_Chain_R7 false) .ret)))
def slices_IndexFunc_Lapi_Chain_api_Chain_ks : Nat → List Nat := fun i => match i with
  | _ => []
theorem slices_IndexFunc_Lapi_Chain_api_Chain_hl : Tryz.f62.body.map light = some slices_IndexFunc_Lapi_Chain_api_Chain_L.flat := by kernel_rfl
theorem slices_IndexFunc_Lapi_Chain_api_Chain_hk : slices_IndexFunc_Lapi_Chain_api_Chain_L.ok = true := by kernel_rfl
theorem slices_IndexFunc_Lapi_Chain_api_Chain_hb : Tryz.f62.body.map (codeB 19 slices_IndexFunc_Lapi_Chain_api_Chain_ks) = some true := by kernel_rfl
theorem slices_IndexFunc_Lapi_Chain_api_Chain_hr : Tryz.f62.results.toList = [ResultVar.tmp 4] := rfl
theorem slices_IndexFunc_Lapi_Chain_api_Chain_hn : fnB Tryz.prog 62 = true := by kernel_rfl
theorem slices_IndexFunc_Lapi_Chain_api_Chain_pu {args : List V} {st : List SO} {res : V} (an : Ann) (ha : args.length ≤ 19) (hres : noRef res = true) (h : wpM ⟨Tryz.prog, GW, 19, st.length⟩ an slices_IndexFunc_Lapi_Chain_api_Chain_ks slices_IndexFunc_Lapi_Chain_api_Chain_L (argE args 0) st (EndsP ⟨Tryz.prog, GW, 19, st.length⟩ [ResultVar.tmp 4] res st)) : FnOK Tryz.prog GW 62 args st res st :=
  fn_pure Tryz.func62 slices_IndexFunc_Lapi_Chain_api_Chain_hr slices_IndexFunc_Lapi_Chain_api_Chain_hl slices_IndexFunc_Lapi_Chain_api_Chain_hk slices_IndexFunc_Lapi_Chain_api_Chain_hb rfl slices_IndexFunc_Lapi_Chain_api_Chain_hn an ha hres h
/-! agora/chain.Find$1 -/
def chain_Find_1_R0 : List Itm := [.one ⟨some 2, Op.box 40 (Operand.tmp 0), none⟩,
  .one ⟨some 3, Op.assign (Operand.const (Value.bool false)), none⟩]
def chain_Find_1_R1 : List Itm := [.one ⟨some 4, Op.fieldAddr 40 (Operand.tmp 2) 0, none⟩,
  .one ⟨some 5, Op.load 9 (Operand.tmp 4), none⟩,
  .one ⟨some 6, Op.load 9 (Operand.tmp 1), none⟩,
  .one ⟨some 7, Op.binOp BinOp.eql 9 (Operand.tmp 5) (Operand.tmp 6) 9, none⟩,
  .one ⟨some 3, Op.assign (Operand.tmp 7), none⟩]
def chain_Find_1_L : MCode := (.seq (.reg 0 chain_Find_1_R0 false) (.seq (.reg 1 chain_Find_1_R1 false) .ret))
def chain_Find_1_ks : Nat → List Nat := fun i => match i with
  | _ => []
theorem chain_Find_1_hl : Tryz.f63.body.map light = some chain_Find_1_L.flat := by kernel_rfl
theorem chain_Find_1_hk : chain_Find_1_L.ok = true := by kernel_rfl
theorem chain_Find_1_hb : Tryz.f63.body.map (codeB 8 chain_Find_1_ks) = some true := by kernel_rfl
theorem chain_Find_1_hr : Tryz.f63.results.toList = [ResultVar.tmp 3] := rfl
theorem chain_Find_1_hn : fnB Tryz.prog 63 = true := by kernel_rfl
theorem chain_Find_1_pu {args : List V} {st : List SO} {res : V} (an : Ann) (ha : args.length ≤ 8) (hres : noRef res = true) (h : wpM ⟨Tryz.prog, GW, 8, st.length⟩ an chain_Find_1_ks chain_Find_1_L (argE args 0) st (EndsP ⟨Tryz.prog, GW, 8, st.length⟩ [ResultVar.tmp 3] res st)) : FnOK Tryz.prog GW 63 args st res st :=
  fn_pure Tryz.func63 chain_Find_1_hr chain_Find_1_hl chain_Find_1_hk chain_Find_1_hb rfl chain_Find_1_hn an ha hres h
/-! agora/chain.Find -/
def chain_Find_R0 : List Itm := [.one ⟨some 3, Op.box 9 (Operand.tmp 1), none⟩,
  .one ⟨some 4, Op.alloc 40, none⟩,
  .one ⟨some 5, Op.assign (Operand.const (Value.bool false)), none⟩]
def chain_Find_R1 : List Itm := [.one ⟨some 7, Op.move (Operand.tmp 0), none⟩,
  .one ⟨some 8, Op.makeFunc (Fn.func 63) #[] #[Operand.tmp 3], none⟩,
  .one ⟨some 9, Op.call { callee := Callee.value (Operand.func 62), args := #[Operand.tmp 7, Operand.tmp 8], argTypes := #[22, 58] }, none⟩,
  .one ⟨some 6, Op.assign (Operand.tmp 9), none⟩]
def chain_Find_R2 : List Itm := [.one ⟨some 10, Op.move (Operand.tmp 6), none⟩,
  .one ⟨some 11, Op.binOp BinOp.lss 3 (Operand.tmp 10) (Operand.const (Value.int IntKind.i64 0)) 3, none⟩]
def chain_Find_R3 : List Itm := [.one ⟨some 12, Op.build 40 #[], none⟩,
  .one ⟨none, Op.store 40 (Operand.tmp 4) (Operand.tmp 12), none⟩,
  .one ⟨some 5, Op.assign (Operand.const (Value.bool false)), none⟩]
def chain_Find_R4 : List Itm := [.one ⟨some 13, Op.move (Operand.tmp 0), none⟩,
  .one ⟨some 14, Op.move (Operand.tmp 6), none⟩,
  .one ⟨some 15, Op.indexAddr 22 (Operand.tmp 13) (Operand.tmp 14), none⟩,
  .one ⟨some 16, Op.load 40 (Operand.tmp 15), none⟩,
  .one ⟨none, Op.store 40 (Operand.tmp 4) (Operand.tmp 16), none⟩,
  .one ⟨some 5, Op.assign (Operand.const (Value.bool true)), none⟩]
def chain_Find_L : MCode := (.seq (.reg 0 chain_Find_R0 false) (.seq (.reg 1 chain_Find_R1 false) (.seq (.seq (.reg 2 chain_Find_R2 false) (.cond (Operand.tmp 11) (.seq (.reg 3 chain_Find_R3 false) .ret) .skip)) (.seq (.reg 4 chain_Find_R4 false) .ret))))
def chain_Find_ks : Nat → List Nat := fun i => match i with
  | _ => []
theorem chain_Find_hl : Tryz.f21.body.map light = some chain_Find_L.flat := by kernel_rfl
theorem chain_Find_hk : chain_Find_L.ok = true := by kernel_rfl
theorem chain_Find_hb : Tryz.f21.body.map (codeB 17 chain_Find_ks) = some true := by kernel_rfl
theorem chain_Find_hr : Tryz.f21.results.toList = [ResultVar.cell 4 40, ResultVar.tmp 5] := rfl
theorem chain_Find_hn : fnB Tryz.prog 21 = true := by kernel_rfl
theorem chain_Find_pu {args : List V} {st : List SO} {res : V} (an : Ann) (ha : args.length ≤ 17) (hres : noRef res = true) (h : wpM ⟨Tryz.prog, GW, 17, st.length⟩ an chain_Find_ks chain_Find_L (argE args 0) st (EndsP ⟨Tryz.prog, GW, 17, st.length⟩ [ResultVar.cell 4 40, ResultVar.tmp 5] res st)) : FnOK Tryz.prog GW 21 args st res st :=
  fn_pure Tryz.func21 chain_Find_hr chain_Find_hl chain_Find_hk chain_Find_hb rfl chain_Find_hn an ha hres h
/-! slices.IndexFunc[list of agora/api.Act,agora/api.Act] -/
def slices_IndexFunc_Lapi_Act_api_Act_R0 : List Itm := [.one ⟨some 4, Op.assign (Operand.const (Value.int IntKind.i64 0)), none⟩]
def slices_IndexFunc_Lapi_Act_api_Act_R1 : List Itm := [.one ⟨some 6, Op.move (Operand.tmp 0), none⟩,
  .one ⟨some 7, Op.call { callee := Callee.builtin Builtin.len, args := #[Operand.tmp 6], argTypes := #[37] }, none⟩,
  .one ⟨some 8, Op.move (Operand.const (Value.int IntKind.i64 0)), none⟩]
def slices_IndexFunc_Lapi_Act_api_Act_R2 : List Itm := [.one ⟨some 9, Op.binOp BinOp.lss 3 (Operand.tmp 8) (Operand.tmp 7) 3, none⟩]
def slices_IndexFunc_Lapi_Act_api_Act_R3 : List Itm := [.one ⟨some 10, Op.move (Operand.tmp 8), none⟩,
  .one ⟨some 5, Op.assign (Operand.tmp 10), none⟩]
def slices_IndexFunc_Lapi_Act_api_Act_R4 : List Itm := [.one ⟨some 11, Op.move (Operand.tmp 1), none⟩,
  .one ⟨some 12, Op.move (Operand.tmp 0), none⟩,
  .one ⟨some 13, Op.move (Operand.tmp 5), none⟩,
  .one ⟨some 14, Op.indexAddr 37 (Operand.tmp 12) (Operand.tmp 13), none⟩,
  .one ⟨some 15, Op.load 49 (Operand.tmp 14), none⟩,
  .one ⟨some 16, Op.call { callee := Callee.value (Operand.tmp 11), args := #[Operand.tmp 15], argTypes := #[49] }, none⟩]
def slices_IndexFunc_Lapi_Act_api_Act_R5 : List Itm := [.one ⟨some 17, Op.move (Operand.tmp 5), none⟩,
  .one ⟨some 4, Op.assign (Operand.tmp 17), none⟩]
def slices_IndexFunc_Lapi_Act_api_Act_B1 : MCode := (.seq (.reg 3 slices_IndexFunc_Lapi_Act_api_Act_R3 false) (.seq (.reg 4 slices_IndexFunc_Lapi_Act_api_Act_R4 false) (.cond (Operand.tmp 16) (.seq (.reg 5 slices_IndexFunc_Lapi_Act_api_Act_R5 false) .ret) .skip)))
def slices_IndexFunc_Lapi_Act_api_Act_R6 : List Itm := [.one ⟨some 18, Op.binOp BinOp.add 3 (Operand.tmp 8) (Operand.const (Value.int IntKind.i64 1)) 3, none⟩,
  .one ⟨some 8, Op.move (Operand.tmp 18), none⟩]
def slices_IndexFunc_Lapi_Act_api_Act_W1 : MCode := (.seq (.reg 2 slices_IndexFunc_Lapi_Act_api_Act_R2 false) (.seq (.cond (Operand.tmp 9) .skip (.exit 0)) (.seq (.block 1 slices_IndexFunc_Lapi_Act_api_Act_B1) (.reg 6 slices_IndexFunc_Lapi_Act_api_Act_R6 false))))
def slices_IndexFunc_Lapi_Act_api_Act_B0 : MCode := (.loop slices_IndexFunc_Lapi_Act_api_Act_W1)
def slices_IndexFunc_Lapi_Act_api_Act_R7 : List Itm := [.one ⟨some 4, Op.assign (Operand.const (Value.int IntKind.i64 (-1))), none⟩]
def slices_IndexFunc_Lapi_Act_api_Act_L : MCode := (.seq (.reg 0 slices_IndexFunc_Lapi_Act_api_Act_R0 false) (.seq (.seq (.reg 1 slices_IndexFunc_Lapi_Act_api_Act_R1 false) (.block 0 slices_IndexFunc_Lapi_Act_api_Act_B0)) (.seq (.reg 7 slices_IndexFunc_Lapi_Act_api_Act_R7 false) .ret)))
def slices_IndexFunc_Lapi_Act_api_Act_ks : Nat → List Nat := fun i => match i with
  | _ => []
theorem slices_IndexFunc_Lapi_Act_api_Act_hl : Tryz.f82.body.map light = some slices_IndexFunc_Lapi_Act_api_Act_L.flat := by kernel_rfl
theorem slices_IndexFunc_Lapi_Act_api_Act_hk : slices_IndexFunc_Lapi_Act_api_Act_L.ok = true := by kernel_rfl
theorem slices_IndexFunc_Lapi_Act_api_Act_hb : Tryz.f82.body.map (codeB 19 slices_IndexFunc_Lapi_Act_api_Act_ks) = some true := by kernel_rfl
theorem slices_IndexFunc_Lapi_Act_api_Act_hr : Tryz.f82.results.toList = [ResultVar.tmp 4] := rfl
theorem slices_IndexFunc_Lapi_Act_api_Act_hn : fnB Tryz.prog 82 = true := by kernel_rfl
theorem slices_IndexFunc_Lapi_Act_api_Act_pu {args : List V} {st : List SO} {res : V} (an : Ann) (ha : args.length ≤ 19) (hres : noRef res = true) (h : wpM ⟨Tryz.prog, GW, 19, st.length⟩ an slices_IndexFunc_Lapi_Act_api_Act_ks slices_IndexFunc_Lapi_Act_api_Act_L (argE args 0) st (EndsP ⟨Tryz.prog, GW, 19, st.length⟩ [ResultVar.tmp 4] res st)) : FnOK Tryz.prog GW 82 args st res st :=
  fn_pure Tryz.func82 slices_IndexFunc_Lapi_Act_api_Act_hr slices_IndexFunc_Lapi_Act_api_Act_hl slices_IndexFunc_Lapi_Act_api_Act_hk slices_IndexFunc_Lapi_Act_api_Act_hb rfl slices_IndexFunc_Lapi_Act_api_Act_hn an ha hres h
/-! agora/ident.Right -/
def ident_Right_R0 : List Itm := [.one ⟨some 2, Op.assign (Operand.const (Value.bool false)), none⟩]
def ident_Right_R1 : List Itm := [.one ⟨some 3, Op.move (Operand.tmp 0), none⟩,
  .one ⟨some 4, Op.call { callee := Callee.builtin Builtin.len, args := #[Operand.tmp 3], argTypes := #[9] }, none⟩,
  .one ⟨some 5, Op.binOp BinOp.eql 3 (Operand.tmp 4) (Operand.const (Value.int IntKind.i64 16)) 3, none⟩,
  .one ⟨some 6, Op.move (Operand.tmp 5), none⟩,
  .blk 3 true [.one ⟨some 7, Op.move (Operand.tmp 0), some (3, true)⟩,
  .one ⟨some 8, Op.call { callee := Callee.value (Operand.func 219), args := #[Operand.tmp 7, Operand.const (Value.string { data := #[48, 49, 50, 51, 52, 53, 54, 55, 56, 57, 97, 98, 99, 100, 101, 102] })], argTypes := #[9, 9] }, some (3, true)⟩,
  .one ⟨some 9, Op.binOp BinOp.eql 9 (Operand.tmp 8) (Operand.const (Value.string { data := #[] })) 9, some (3, true)⟩] ⟨some 10, Op.pick (Operand.tmp 6) (Operand.tmp 9) (Operand.const (Value.bool false)), none⟩,
  .one ⟨some 2, Op.assign (Operand.tmp 10), none⟩]
def ident_Right_L : MCode := (.seq (.reg 0 ident_Right_R0 false) (.seq (.reg 1 ident_Right_R1 false) .ret))
def ident_Right_ks : Nat → List Nat := fun i => match i with
  | _ => []
theorem ident_Right_hl : Tryz.f188.body.map light = some ident_Right_L.flat := by kernel_rfl
theorem ident_Right_hk : ident_Right_L.ok = true := by kernel_rfl
theorem ident_Right_hb : Tryz.f188.body.map (codeB 11 ident_Right_ks) = some true := by kernel_rfl
theorem ident_Right_hr : Tryz.f188.results.toList = [ResultVar.tmp 2] := rfl
theorem ident_Right_hn : fnB Tryz.prog 188 = true := by kernel_rfl
theorem ident_Right_pu {args : List V} {st : List SO} {res : V} (an : Ann) (ha : args.length ≤ 11) (hres : noRef res = true) (h : wpM ⟨Tryz.prog, GW, 11, st.length⟩ an ident_Right_ks ident_Right_L (argE args 0) st (EndsP ⟨Tryz.prog, GW, 11, st.length⟩ [ResultVar.tmp 2] res st)) : FnOK Tryz.prog GW 188 args st res st :=
  fn_pure Tryz.func188 ident_Right_hr ident_Right_hl ident_Right_hk ident_Right_hb rfl ident_Right_hn an ha hres h
/-! agora/act.within -/
def act_within_R0 : List Itm := [.one ⟨some 6, Op.assign (Operand.const (Value.bool false)), none⟩]
def act_within_R1 : List Itm := [.one ⟨some 7, Op.move (Operand.tmp 0), none⟩,
  .one ⟨some 8, Op.move (Operand.tmp 1), none⟩,
  .one ⟨some 9, Op.binOp BinOp.geq 3 (Operand.tmp 7) (Operand.tmp 8) 3, none⟩,
  .one ⟨some 10, Op.move (Operand.tmp 9), none⟩,
  .blk 3 true [.one ⟨some 11, Op.move (Operand.tmp 0), some (3, true)⟩,
  .one ⟨some 12, Op.move (Operand.tmp 2), some (3, true)⟩,
  .one ⟨some 13, Op.binOp BinOp.leq 3 (Operand.tmp 11) (Operand.tmp 12) 3, some (3, true)⟩] ⟨some 14, Op.pick (Operand.tmp 10) (Operand.tmp 13) (Operand.const (Value.bool false)), none⟩,
  .one ⟨some 6, Op.assign (Operand.tmp 14), none⟩]
def act_within_L : MCode := (.seq (.reg 0 act_within_R0 false) (.seq (.reg 1 act_within_R1 false) .ret))
def act_within_ks : Nat → List Nat := fun i => match i with
  | _ => []
theorem act_within_hl : Tryz.f189.body.map light = some act_within_L.flat := by kernel_rfl
theorem act_within_hk : act_within_L.ok = true := by kernel_rfl
theorem act_within_hb : Tryz.f189.body.map (codeB 15 act_within_ks) = some true := by kernel_rfl
theorem act_within_hr : Tryz.f189.results.toList = [ResultVar.tmp 6] := rfl
theorem act_within_hn : fnB Tryz.prog 189 = true := by kernel_rfl
theorem act_within_pu {args : List V} {st : List SO} {res : V} (an : Ann) (ha : args.length ≤ 15) (hres : noRef res = true) (h : wpM ⟨Tryz.prog, GW, 15, st.length⟩ an act_within_ks act_within_L (argE args 0) st (EndsP ⟨Tryz.prog, GW, 15, st.length⟩ [ResultVar.tmp 6] res st)) : FnOK Tryz.prog GW 189 args st res st :=
  fn_pure Tryz.func189 act_within_hr act_within_hl act_within_hk act_within_hb rfl act_within_hn an ha hres h
/-! agora/act.isDigest -/
def act_isDigest_R0 : List Itm := [.one ⟨some 2, Op.assign (Operand.const (Value.bool false)), none⟩]
def act_isDigest_R1 : List Itm := [.one ⟨some 3, Op.move (Operand.tmp 0), none⟩,
  .one ⟨some 4, Op.call { callee := Callee.builtin Builtin.len, args := #[Operand.tmp 3], argTypes := #[9] }, none⟩,
  .one ⟨some 5, Op.binOp BinOp.eql 3 (Operand.tmp 4) (Operand.const (Value.int IntKind.i64 32)) 3, none⟩,
  .one ⟨some 2, Op.assign (Operand.tmp 5), none⟩]
def act_isDigest_L : MCode := (.seq (.reg 0 act_isDigest_R0 false) (.seq (.reg 1 act_isDigest_R1 false) .ret))
def act_isDigest_ks : Nat → List Nat := fun i => match i with
  | _ => []
theorem act_isDigest_hl : Tryz.f190.body.map light = some act_isDigest_L.flat := by kernel_rfl
theorem act_isDigest_hk : act_isDigest_L.ok = true := by kernel_rfl
theorem act_isDigest_hb : Tryz.f190.body.map (codeB 6 act_isDigest_ks) = some true := by kernel_rfl
theorem act_isDigest_hr : Tryz.f190.results.toList = [ResultVar.tmp 2] := rfl
theorem act_isDigest_hn : fnB Tryz.prog 190 = true := by kernel_rfl
theorem act_isDigest_pu {args : List V} {st : List SO} {res : V} (an : Ann) (ha : args.length ≤ 6) (hres : noRef res = true) (h : wpM ⟨Tryz.prog, GW, 6, st.length⟩ an act_isDigest_ks act_isDigest_L (argE args 0) st (EndsP ⟨Tryz.prog, GW, 6, st.length⟩ [ResultVar.tmp 2] res st)) : FnOK Tryz.prog GW 190 args st res st :=
  fn_pure Tryz.func190 act_isDigest_hr act_isDigest_hl act_isDigest_hk act_isDigest_hb rfl act_isDigest_hn an ha hres h
/-! (agora/act.fields).unused -/
def act_fields_unused_R0 : List Itm := [.one ⟨some 2, Op.box 248 (Operand.tmp 0), none⟩,
  .one ⟨some 3, Op.box 49 (Operand.tmp 1), none⟩,
  .one ⟨some 4, Op.assign (Operand.const (Value.bool false)), none⟩]
def act_fields_unused_R1 : List Itm := [.one ⟨some 6, Op.fieldAddr 49 (Operand.tmp 3) 7, none⟩,
  .one ⟨some 7, Op.load 3 (Operand.tmp 6), none⟩,
  .one ⟨some 8, Op.binOp BinOp.eql 3 (Operand.tmp 7) (Operand.const (Value.int IntKind.i64 0)) 3, none⟩,
  .one ⟨some 9, Op.move (Operand.tmp 8), none⟩,
  .blk 3 true [.one ⟨some 10, Op.fieldAddr 49 (Operand.tmp 3) 12, some (3, true)⟩,
  .one ⟨some 11, Op.load 3 (Operand.tmp 10), some (3, true)⟩,
  .one ⟨some 12, Op.binOp BinOp.eql 3 (Operand.tmp 11) (Operand.const (Value.int IntKind.i64 0)) 3, some (3, true)⟩] ⟨some 13, Op.pick (Operand.tmp 9) (Operand.tmp 12) (Operand.const (Value.bool false)), none⟩,
  .one ⟨some 14, Op.move (Operand.tmp 13), none⟩,
  .blk 8 true [.one ⟨some 15, Op.fieldAddr 49 (Operand.tmp 3) 11, some (8, true)⟩,
  .one ⟨some 16, Op.load 44 (Operand.tmp 15), some (8, true)⟩,
  .one ⟨some 17, Op.build 44 #[], some (8, true)⟩,
  .one ⟨some 18, Op.binOp BinOp.eql 44 (Operand.tmp 16) (Operand.tmp 17) 44, some (8, true)⟩] ⟨some 19, Op.pick (Operand.tmp 14) (Operand.tmp 18) (Operand.const (Value.bool false)), none⟩,
  .one ⟨some 5, Op.assign (Operand.tmp 19), none⟩]
def act_fields_unused_R2 : List Itm := [.one ⟨some 20, Op.fieldAddr 248 (Operand.tmp 2) 0, none⟩,
  .one ⟨some 21, Op.load 4 (Operand.tmp 20), none⟩,
  .one ⟨some 22, Op.move (Operand.tmp 21), none⟩,
  .blk 2 false [.one ⟨some 23, Op.fieldAddr 49 (Operand.tmp 3) 5, some (2, false)⟩,
  .one ⟨some 24, Op.load 9 (Operand.tmp 23), some (2, false)⟩,
  .one ⟨some 25, Op.binOp BinOp.eql 9 (Operand.tmp 24) (Operand.const (Value.string { data := #[] })) 9, some (2, false)⟩] ⟨some 26, Op.pick (Operand.tmp 22) (Operand.const (Value.bool true)) (Operand.tmp 25), none⟩,
  .one ⟨some 27, Op.move (Operand.tmp 26), none⟩,
  .blk 7 true [.one ⟨some 28, Op.fieldAddr 248 (Operand.tmp 2) 1, some (7, true)⟩,
  .one ⟨some 29, Op.load 4 (Operand.tmp 28), some (7, true)⟩,
  .one ⟨some 30, Op.move (Operand.tmp 29), some (7, true)⟩,
  .blk 10 false [.one ⟨some 31, Op.fieldAddr 49 (Operand.tmp 3) 6, some (10, false)⟩,
  .one ⟨some 32, Op.load 9 (Operand.tmp 31), some (10, false)⟩,
  .one ⟨some 33, Op.binOp BinOp.eql 9 (Operand.tmp 32) (Operand.const (Value.string { data := #[] })) 9, some (10, false)⟩] ⟨some 34, Op.pick (Operand.tmp 30) (Operand.const (Value.bool true)) (Operand.tmp 33), some (7, true)⟩] ⟨some 35, Op.pick (Operand.tmp 27) (Operand.tmp 34) (Operand.const (Value.bool false)), none⟩,
  .one ⟨some 36, Op.move (Operand.tmp 35), none⟩,
  .blk 16 true [.one ⟨some 37, Op.fieldAddr 248 (Operand.tmp 2) 2, some (16, true)⟩,
  .one ⟨some 38, Op.load 4 (Operand.tmp 37), some (16, true)⟩,
  .one ⟨some 39, Op.move (Operand.tmp 38), some (16, true)⟩,
  .blk 19 false [.one ⟨some 40, Op.move (Operand.tmp 5), some (19, false)⟩] ⟨some 41, Op.pick (Operand.tmp 39) (Operand.const (Value.bool true)) (Operand.tmp 40), some (16, true)⟩] ⟨some 42, Op.pick (Operand.tmp 36) (Operand.tmp 41) (Operand.const (Value.bool false)), none⟩,
  .one ⟨some 43, Op.move (Operand.tmp 42), none⟩,
  .blk 23 true [.one ⟨some 44, Op.fieldAddr 248 (Operand.tmp 2) 2, some (23, true)⟩,
  .one ⟨some 45, Op.load 4 (Operand.tmp 44), some (23, true)⟩,
  .one ⟨some 46, Op.move (Operand.tmp 45), some (23, true)⟩,
  .blk 26 false [.one ⟨some 47, Op.fieldAddr 248 (Operand.tmp 2) 3, some (26, false)⟩,
  .one ⟨some 48, Op.load 4 (Operand.tmp 47), some (26, false)⟩] ⟨some 49, Op.pick (Operand.tmp 46) (Operand.const (Value.bool true)) (Operand.tmp 48), some (23, true)⟩,
  .one ⟨some 50, Op.move (Operand.tmp 49), some (23, true)⟩,
  .blk 30 false [.one ⟨some 51, Op.fieldAddr 49 (Operand.tmp 3) 8, some (30, false)⟩,
  .one ⟨some 52, Op.load 9 (Operand.tmp 51), some (30, false)⟩,
  .one ⟨some 53, Op.binOp BinOp.eql 9 (Operand.tmp 52) (Operand.const (Value.string { data := #[] })) 9, some (30, false)⟩] ⟨some 54, Op.pick (Operand.tmp 50) (Operand.const (Value.bool true)) (Operand.tmp 53), some (23, true)⟩] ⟨some 55, Op.pick (Operand.tmp 43) (Operand.tmp 54) (Operand.const (Value.bool false)), none⟩,
  .one ⟨some 56, Op.move (Operand.tmp 55), none⟩,
  .blk 36 true [.one ⟨some 57, Op.fieldAddr 248 (Operand.tmp 2) 2, some (36, true)⟩,
  .one ⟨some 58, Op.load 4 (Operand.tmp 57), some (36, true)⟩,
  .one ⟨some 59, Op.move (Operand.tmp 58), some (36, true)⟩,
  .blk 39 false [.one ⟨some 60, Op.fieldAddr 248 (Operand.tmp 2) 4, some (39, false)⟩,
  .one ⟨some 61, Op.load 4 (Operand.tmp 60), some (39, false)⟩] ⟨some 62, Op.pick (Operand.tmp 59) (Operand.const (Value.bool true)) (Operand.tmp 61), some (36, true)⟩,
  .one ⟨some 63, Op.move (Operand.tmp 62), some (36, true)⟩,
  .blk 43 false [.one ⟨some 64, Op.fieldAddr 49 (Operand.tmp 3) 9, some (43, false)⟩,
  .one ⟨some 65, Op.load 23 (Operand.tmp 64), some (43, false)⟩,
  .one ⟨some 66, Op.call { callee := Callee.builtin Builtin.len, args := #[Operand.tmp 65], argTypes := #[23] }, some (43, false)⟩,
  .one ⟨some 67, Op.binOp BinOp.eql 3 (Operand.tmp 66) (Operand.const (Value.int IntKind.i64 0)) 3, some (43, false)⟩] ⟨some 68, Op.pick (Operand.tmp 63) (Operand.const (Value.bool true)) (Operand.tmp 67), some (36, true)⟩] ⟨some 69, Op.pick (Operand.tmp 56) (Operand.tmp 68) (Operand.const (Value.bool false)), none⟩,
  .one ⟨some 70, Op.move (Operand.tmp 69), none⟩,
  .blk 50 true [.one ⟨some 71, Op.fieldAddr 248 (Operand.tmp 2) 2, some (50, true)⟩,
  .one ⟨some 72, Op.load 4 (Operand.tmp 71), some (50, true)⟩,
  .one ⟨some 73, Op.move (Operand.tmp 72), some (50, true)⟩,
  .blk 53 false [.one ⟨some 74, Op.fieldAddr 248 (Operand.tmp 2) 5, some (53, false)⟩,
  .one ⟨some 75, Op.load 4 (Operand.tmp 74), some (53, false)⟩] ⟨some 76, Op.pick (Operand.tmp 73) (Operand.const (Value.bool true)) (Operand.tmp 75), some (50, true)⟩,
  .one ⟨some 77, Op.move (Operand.tmp 76), some (50, true)⟩,
  .blk 57 false [.one ⟨some 78, Op.fieldAddr 49 (Operand.tmp 3) 10, some (57, false)⟩,
  .one ⟨some 79, Op.load 9 (Operand.tmp 78), some (57, false)⟩,
  .one ⟨some 80, Op.binOp BinOp.eql 9 (Operand.tmp 79) (Operand.const (Value.string { data := #[] })) 9, some (57, false)⟩] ⟨some 81, Op.pick (Operand.tmp 77) (Operand.const (Value.bool true)) (Operand.tmp 80), some (50, true)⟩] ⟨some 82, Op.pick (Operand.tmp 70) (Operand.tmp 81) (Operand.const (Value.bool false)), none⟩,
  .one ⟨some 83, Op.move (Operand.tmp 82), none⟩,
  .blk 63 true [.one ⟨some 84, Op.fieldAddr 248 (Operand.tmp 2) 6, some (63, true)⟩,
  .one ⟨some 85, Op.load 4 (Operand.tmp 84), some (63, true)⟩,
  .one ⟨some 86, Op.move (Operand.tmp 85), some (63, true)⟩,
  .blk 66 false [.one ⟨some 87, Op.fieldAddr 49 (Operand.tmp 3) 13, some (66, false)⟩,
  .one ⟨some 88, Op.load 45 (Operand.tmp 87), some (66, false)⟩,
  .one ⟨some 89, Op.call { callee := Callee.builtin Builtin.len, args := #[Operand.tmp 88], argTypes := #[45] }, some (66, false)⟩,
  .one ⟨some 90, Op.binOp BinOp.eql 3 (Operand.tmp 89) (Operand.const (Value.int IntKind.i64 0)) 3, some (66, false)⟩] ⟨some 91, Op.pick (Operand.tmp 86) (Operand.const (Value.bool true)) (Operand.tmp 90), some (63, true)⟩] ⟨some 92, Op.pick (Operand.tmp 83) (Operand.tmp 91) (Operand.const (Value.bool false)), none⟩,
  .one ⟨some 93, Op.move (Operand.tmp 92), none⟩,
  .blk 73 true [.one ⟨some 94, Op.fieldAddr 248 (Operand.tmp 2) 7, some (73, true)⟩,
  .one ⟨some 95, Op.load 4 (Operand.tmp 94), some (73, true)⟩,
  .one ⟨some 96, Op.move (Operand.tmp 95), some (73, true)⟩,
  .blk 76 false [.one ⟨some 97, Op.fieldAddr 49 (Operand.tmp 3) 14, some (76, false)⟩,
  .one ⟨some 98, Op.load 3 (Operand.tmp 97), some (76, false)⟩,
  .one ⟨some 99, Op.binOp BinOp.eql 3 (Operand.tmp 98) (Operand.const (Value.int IntKind.i64 0)) 3, some (76, false)⟩] ⟨some 100, Op.pick (Operand.tmp 96) (Operand.const (Value.bool true)) (Operand.tmp 99), some (73, true)⟩] ⟨some 101, Op.pick (Operand.tmp 93) (Operand.tmp 100) (Operand.const (Value.bool false)), none⟩,
  .one ⟨some 102, Op.move (Operand.tmp 101), none⟩,
  .blk 82 true [.one ⟨some 103, Op.fieldAddr 248 (Operand.tmp 2) 8, some (82, true)⟩,
  .one ⟨some 104, Op.load 4 (Operand.tmp 103), some (82, true)⟩,
  .one ⟨some 105, Op.move (Operand.tmp 104), some (82, true)⟩,
  .blk 85 false [.one ⟨some 106, Op.fieldAddr 49 (Operand.tmp 3) 15, some (85, false)⟩,
  .one ⟨some 107, Op.load 3 (Operand.tmp 106), some (85, false)⟩,
  .one ⟨some 108, Op.binOp BinOp.eql 3 (Operand.tmp 107) (Operand.const (Value.int IntKind.i64 0)) 3, some (85, false)⟩] ⟨some 109, Op.pick (Operand.tmp 105) (Operand.const (Value.bool true)) (Operand.tmp 108), some (82, true)⟩] ⟨some 110, Op.pick (Operand.tmp 102) (Operand.tmp 109) (Operand.const (Value.bool false)), none⟩,
  .one ⟨some 4, Op.assign (Operand.tmp 110), none⟩]
def act_fields_unused_L : MCode := (.seq (.reg 0 act_fields_unused_R0 false) (.seq (.reg 1 act_fields_unused_R1 false) (.seq (.reg 2 act_fields_unused_R2 false) .ret)))
def act_fields_unused_ks : Nat → List Nat := fun i => match i with
  | _ => []
theorem act_fields_unused_hl : Tryz.f191.body.map light = some act_fields_unused_L.flat := by kernel_rfl
theorem act_fields_unused_hk : act_fields_unused_L.ok = true := by kernel_rfl
theorem act_fields_unused_hb : Tryz.f191.body.map (codeB 111 act_fields_unused_ks) = some true := by kernel_rfl
theorem act_fields_unused_hr : Tryz.f191.results.toList = [ResultVar.tmp 4] := rfl
theorem act_fields_unused_hn : fnB Tryz.prog 191 = true := by kernel_rfl
theorem act_fields_unused_pu {args : List V} {st : List SO} {res : V} (an : Ann) (ha : args.length ≤ 111) (hres : noRef res = true) (h : wpM ⟨Tryz.prog, GW, 111, st.length⟩ an act_fields_unused_ks act_fields_unused_L (argE args 0) st (EndsP ⟨Tryz.prog, GW, 111, st.length⟩ [ResultVar.tmp 4] res st)) : FnOK Tryz.prog GW 191 args st res st :=
  fn_pure Tryz.func191 act_fields_unused_hr act_fields_unused_hl act_fields_unused_hk act_fields_unused_hb rfl act_fields_unused_hn an ha hres h
/-! agora/act.Right -/
def act_Right_R0 : List Itm := [.one ⟨some 1, Op.box 49 (Operand.tmp 0), none⟩,
  .one ⟨some 2, Op.assign (Operand.const (Value.bool false)), none⟩]
def act_Right_R1 : List Itm := [.one ⟨some 6, Op.load 250 (Operand.global 0), none⟩,
  .one ⟨some 7, Op.fieldAddr 49 (Operand.tmp 1) 3, none⟩,
  .one ⟨some 8, Op.load 3 (Operand.tmp 7), none⟩,
  .one ⟨some 9, Op.lookup 250 (Operand.tmp 6) (Operand.tmp 8) true, none⟩,
  .one ⟨some 5, Op.move (Operand.tmp 9), none⟩,
  .one ⟨some 10, Op.extract (Operand.tmp 5) 0, none⟩,
  .one ⟨some 11, Op.extract (Operand.tmp 5) 1, none⟩,
  .one ⟨some 3, Op.alloc 248, none⟩,
  .one ⟨none, Op.store 248 (Operand.tmp 3) (Operand.tmp 10), none⟩,
  .one ⟨some 4, Op.assign (Operand.tmp 11), none⟩]
def act_Right_R2 : List Itm := [.one ⟨some 12, Op.move (Operand.tmp 4), none⟩,
  .one ⟨some 13, Op.unOp UnOp.not 4 (Operand.tmp 12), none⟩,
  .one ⟨some 14, Op.move (Operand.tmp 13), none⟩,
  .blk 2 false [.one ⟨some 15, Op.fieldAddr 49 (Operand.tmp 1) 0, some (2, false)⟩,
  .one ⟨some 16, Op.load 9 (Operand.tmp 15), some (2, false)⟩,
  .one ⟨some 17, Op.call { callee := Callee.value (Operand.func 188), args := #[Operand.tmp 16], argTypes := #[9] }, some (2, false)⟩,
  .one ⟨some 18, Op.unOp UnOp.not 4 (Operand.tmp 17), some (2, false)⟩] ⟨some 19, Op.pick (Operand.tmp 14) (Operand.const (Value.bool true)) (Operand.tmp 18), none⟩,
  .one ⟨some 20, Op.move (Operand.tmp 19), none⟩,
  .blk 8 false [.one ⟨some 21, Op.fieldAddr 49 (Operand.tmp 1) 1, some (8, false)⟩,
  .one ⟨some 22, Op.load 3 (Operand.tmp 21), some (8, false)⟩,
  .one ⟨some 23, Op.call { callee := Callee.value (Operand.func 189), args := #[Operand.tmp 22, Operand.const (Value.int IntKind.i64 0), Operand.const (Value.int IntKind.i64 1073741824)], argTypes := #[3, 3, 3] }, some (8, false)⟩,
  .one ⟨some 24, Op.unOp UnOp.not 4 (Operand.tmp 23), some (8, false)⟩] ⟨some 25, Op.pick (Operand.tmp 20) (Operand.const (Value.bool true)) (Operand.tmp 24), none⟩,
  .one ⟨some 26, Op.move (Operand.tmp 25), none⟩,
  .blk 14 false [.one ⟨some 27, Op.fieldAddr 49 (Operand.tmp 1) 4, some (14, false)⟩,
  .one ⟨some 28, Op.load 3 (Operand.tmp 27), some (14, false)⟩,
  .one ⟨some 29, Op.call { callee := Callee.value (Operand.func 189), args := #[Operand.tmp 28, Operand.const (Value.int IntKind.i64 0), Operand.const (Value.int IntKind.i64 1099511627776)], argTypes := #[3, 3, 3] }, some (14, false)⟩,
  .one ⟨some 30, Op.unOp UnOp.not 4 (Operand.tmp 29), some (14, false)⟩] ⟨some 31, Op.pick (Operand.tmp 26) (Operand.const (Value.bool true)) (Operand.tmp 30), none⟩,
  .one ⟨some 32, Op.move (Operand.tmp 31), none⟩,
  .blk 20 false [.one ⟨some 33, Op.fieldAddr 49 (Operand.tmp 1) 3, some (20, false)⟩,
  .one ⟨some 34, Op.load 3 (Operand.tmp 33), some (20, false)⟩,
  .one ⟨some 35, Op.binOp BinOp.eql 3 (Operand.tmp 34) (Operand.const (Value.int IntKind.i64 0)) 3, some (20, false)⟩,
  .one ⟨some 36, Op.fieldAddr 49 (Operand.tmp 1) 1, some (20, false)⟩,
  .one ⟨some 37, Op.load 3 (Operand.tmp 36), some (20, false)⟩,
  .one ⟨some 38, Op.binOp BinOp.eql 3 (Operand.tmp 37) (Operand.const (Value.int IntKind.i64 0)) 3, some (20, false)⟩,
  .one ⟨some 39, Op.binOp BinOp.neq 4 (Operand.tmp 35) (Operand.tmp 38) 4, some (20, false)⟩] ⟨some 40, Op.pick (Operand.tmp 32) (Operand.const (Value.bool true)) (Operand.tmp 39), none⟩]
def act_Right_R3 : List Itm := [.one ⟨some 2, Op.assign (Operand.const (Value.bool false)), none⟩]
def act_Right_R4 : List Itm := [.one ⟨some 41, Op.fieldAddr 49 (Operand.tmp 1) 16, none⟩,
  .one ⟨some 42, Op.fieldAddr 47 (Operand.tmp 41) 0, none⟩,
  .one ⟨some 43, Op.load 3 (Operand.tmp 42), none⟩,
  .one ⟨some 44, Op.call { callee := Callee.value (Operand.func 189), args := #[Operand.tmp 43, Operand.const (Value.int IntKind.i64 0), Operand.const (Value.int IntKind.i64 2305843009213693949)], argTypes := #[3, 3, 3] }, none⟩,
  .one ⟨some 45, Op.unOp UnOp.not 4 (Operand.tmp 44), none⟩,
  .one ⟨some 46, Op.move (Operand.tmp 45), none⟩,
  .blk 5 false [.one ⟨some 47, Op.fieldAddr 49 (Operand.tmp 1) 16, some (5, false)⟩,
  .one ⟨some 48, Op.fieldAddr 47 (Operand.tmp 47) 1, some (5, false)⟩,
  .one ⟨some 49, Op.load 3 (Operand.tmp 48), some (5, false)⟩,
  .one ⟨some 50, Op.call { callee := Callee.value (Operand.func 189), args := #[Operand.tmp 49, Operand.const (Value.int IntKind.i64 0), Operand.const (Value.int IntKind.i64 2305843009213693949)], argTypes := #[3, 3, 3] }, some (5, false)⟩,
  .one ⟨some 51, Op.unOp UnOp.not 4 (Operand.tmp 50), some (5, false)⟩] ⟨some 52, Op.pick (Operand.tmp 46) (Operand.const (Value.bool true)) (Operand.tmp 51), none⟩]
def act_Right_R5 : List Itm := [.one ⟨some 2, Op.assign (Operand.const (Value.bool false)), none⟩]
def act_Right_R6 : List Itm := [.one ⟨some 53, Op.fieldAddr 49 (Operand.tmp 1) 1, none⟩,
  .one ⟨some 54, Op.load 3 (Operand.tmp 53), none⟩,
  .one ⟨some 55, Op.binOp BinOp.eql 3 (Operand.tmp 54) (Operand.const (Value.int IntKind.i64 0)) 3, none⟩,
  .one ⟨some 56, Op.move (Operand.tmp 55), none⟩,
  .blk 3 true [.one ⟨some 57, Op.fieldAddr 49 (Operand.tmp 1) 2, some (3, true)⟩,
  .one ⟨some 58, Op.load 9 (Operand.tmp 57), some (3, true)⟩,
  .one ⟨some 59, Op.binOp BinOp.neq 9 (Operand.tmp 58) (Operand.const (Value.string { data := #[] })) 9, some (3, true)⟩] ⟨some 60, Op.pick (Operand.tmp 56) (Operand.tmp 59) (Operand.const (Value.bool false)), none⟩,
  .one ⟨some 61, Op.move (Operand.tmp 60), none⟩,
  .blk 8 false [.one ⟨some 62, Op.fieldAddr 49 (Operand.tmp 1) 1, some (8, false)⟩,
  .one ⟨some 63, Op.load 3 (Operand.tmp 62), some (8, false)⟩,
  .one ⟨some 64, Op.binOp BinOp.gtr 3 (Operand.tmp 63) (Operand.const (Value.int IntKind.i64 0)) 3, some (8, false)⟩,
  .one ⟨some 65, Op.move (Operand.tmp 64), some (8, false)⟩,
  .blk 12 true [.one ⟨some 66, Op.fieldAddr 49 (Operand.tmp 1) 2, some (12, true)⟩,
  .one ⟨some 67, Op.load 9 (Operand.tmp 66), some (12, true)⟩,
  .one ⟨some 68, Op.call { callee := Callee.value (Operand.func 190), args := #[Operand.tmp 67], argTypes := #[9] }, some (12, true)⟩,
  .one ⟨some 69, Op.unOp UnOp.not 4 (Operand.tmp 68), some (12, true)⟩] ⟨some 70, Op.pick (Operand.tmp 65) (Operand.tmp 69) (Operand.const (Value.bool false)), some (8, false)⟩] ⟨some 71, Op.pick (Operand.tmp 61) (Operand.const (Value.bool true)) (Operand.tmp 70), none⟩,
  .one ⟨some 72, Op.move (Operand.tmp 71), none⟩,
  .blk 19 false [.one ⟨some 73, Op.load 248 (Operand.tmp 3), some (19, false)⟩,
  .one ⟨some 74, Op.load 49 (Operand.tmp 1), some (19, false)⟩,
  .one ⟨some 75, Op.call { callee := Callee.value (Operand.func 191), args := #[Operand.tmp 73, Operand.tmp 74], argTypes := #[248, 49] }, some (19, false)⟩,
  .one ⟨some 76, Op.unOp UnOp.not 4 (Operand.tmp 75), some (19, false)⟩] ⟨some 77, Op.pick (Operand.tmp 72) (Operand.const (Value.bool true)) (Operand.tmp 76), none⟩]
def act_Right_R7 : List Itm := [.one ⟨some 2, Op.assign (Operand.const (Value.bool false)), none⟩]
def act_Right_R8 : List Itm := [.one ⟨some 78, Op.fieldAddr 248 (Operand.tmp 3) 0, none⟩,
  .one ⟨some 79, Op.load 4 (Operand.tmp 78), none⟩,
  .one ⟨some 80, Op.move (Operand.tmp 79), none⟩,
  .blk 2 true [.one ⟨some 81, Op.fieldAddr 49 (Operand.tmp 1) 5, some (2, true)⟩,
  .one ⟨some 82, Op.load 9 (Operand.tmp 81), some (2, true)⟩,
  .one ⟨some 83, Op.call { callee := Callee.value (Operand.func 190), args := #[Operand.tmp 82], argTypes := #[9] }, some (2, true)⟩,
  .one ⟨some 84, Op.unOp UnOp.not 4 (Operand.tmp 83), some (2, true)⟩] ⟨some 85, Op.pick (Operand.tmp 80) (Operand.tmp 84) (Operand.const (Value.bool false)), none⟩,
  .one ⟨some 86, Op.move (Operand.tmp 85), none⟩,
  .blk 8 true [.one ⟨some 87, Op.fieldAddr 248 (Operand.tmp 3) 1, some (8, true)⟩,
  .one ⟨some 88, Op.load 4 (Operand.tmp 87), some (8, true)⟩,
  .one ⟨some 89, Op.unOp UnOp.not 4 (Operand.tmp 88), some (8, true)⟩,
  .one ⟨some 90, Op.move (Operand.tmp 89), some (8, true)⟩,
  .blk 12 false [.one ⟨some 91, Op.fieldAddr 49 (Operand.tmp 1) 5, some (12, false)⟩,
  .one ⟨some 92, Op.load 9 (Operand.tmp 91), some (12, false)⟩,
  .one ⟨some 93, Op.binOp BinOp.neq 9 (Operand.tmp 92) (Operand.const (Value.string { data := #[] })) 9, some (12, false)⟩] ⟨some 94, Op.pick (Operand.tmp 90) (Operand.const (Value.bool true)) (Operand.tmp 93), some (8, true)⟩] ⟨some 95, Op.pick (Operand.tmp 86) (Operand.tmp 94) (Operand.const (Value.bool false)), none⟩,
  .one ⟨some 96, Op.move (Operand.tmp 95), none⟩,
  .blk 18 false [.one ⟨some 97, Op.fieldAddr 248 (Operand.tmp 3) 1, some (18, false)⟩,
  .one ⟨some 98, Op.load 4 (Operand.tmp 97), some (18, false)⟩,
  .one ⟨some 99, Op.move (Operand.tmp 98), some (18, false)⟩,
  .blk 21 true [.one ⟨some 100, Op.fieldAddr 49 (Operand.tmp 1) 6, some (21, true)⟩,
  .one ⟨some 101, Op.load 9 (Operand.tmp 100), some (21, true)⟩,
  .one ⟨some 102, Op.call { callee := Callee.value (Operand.func 188), args := #[Operand.tmp 101], argTypes := #[9] }, some (21, true)⟩,
  .one ⟨some 103, Op.unOp UnOp.not 4 (Operand.tmp 102), some (21, true)⟩] ⟨some 104, Op.pick (Operand.tmp 99) (Operand.tmp 103) (Operand.const (Value.bool false)), some (18, false)⟩,
  .one ⟨some 105, Op.move (Operand.tmp 104), some (18, false)⟩,
  .blk 27 true [.one ⟨some 106, Op.fieldAddr 248 (Operand.tmp 3) 0, some (27, true)⟩,
  .one ⟨some 107, Op.load 4 (Operand.tmp 106), some (27, true)⟩,
  .one ⟨some 108, Op.unOp UnOp.not 4 (Operand.tmp 107), some (27, true)⟩,
  .one ⟨some 109, Op.move (Operand.tmp 108), some (27, true)⟩,
  .blk 31 false [.one ⟨some 110, Op.fieldAddr 49 (Operand.tmp 1) 6, some (31, false)⟩,
  .one ⟨some 111, Op.load 9 (Operand.tmp 110), some (31, false)⟩,
  .one ⟨some 112, Op.binOp BinOp.neq 9 (Operand.tmp 111) (Operand.const (Value.string { data := #[] })) 9, some (31, false)⟩] ⟨some 113, Op.pick (Operand.tmp 109) (Operand.const (Value.bool true)) (Operand.tmp 112), some (27, true)⟩] ⟨some 114, Op.pick (Operand.tmp 105) (Operand.tmp 113) (Operand.const (Value.bool false)), some (18, false)⟩] ⟨some 115, Op.pick (Operand.tmp 96) (Operand.const (Value.bool true)) (Operand.tmp 114), none⟩]
def act_Right_R9 : List Itm := [.one ⟨some 2, Op.assign (Operand.const (Value.bool false)), none⟩]
def act_Right_R10 : List Itm := [.one ⟨some 116, Op.fieldAddr 248 (Operand.tmp 3) 9, none⟩,
  .one ⟨some 117, Op.load 151 (Operand.tmp 116), none⟩,
  .one ⟨some 118, Op.binOp BinOp.eql 151 (Operand.tmp 117) (Operand.const Value.nilFunc) 151, none⟩,
  .one ⟨some 119, Op.move (Operand.tmp 118), none⟩,
  .blk 3 false [.one ⟨some 120, Op.fieldAddr 248 (Operand.tmp 3) 9, some (3, false)⟩,
  .one ⟨some 121, Op.load 151 (Operand.tmp 120), some (3, false)⟩,
  .one ⟨some 122, Op.load 49 (Operand.tmp 1), some (3, false)⟩,
  .one ⟨some 123, Op.call { callee := Callee.value (Operand.tmp 121), args := #[Operand.tmp 122], argTypes := #[49] }, some (3, false)⟩] ⟨some 124, Op.pick (Operand.tmp 119) (Operand.const (Value.bool true)) (Operand.tmp 123), none⟩,
  .one ⟨some 2, Op.assign (Operand.tmp 124), none⟩]
def act_Right_L : MCode := (.seq (.reg 0 act_Right_R0 false) (.seq (.reg 1 act_Right_R1 false) (.seq (.seq (.reg 2 act_Right_R2 false) (.cond (Operand.tmp 40) (.seq (.reg 3 act_Right_R3 false) .ret) .skip)) (.seq (.seq (.reg 4 act_Right_R4 false) (.cond (Operand.tmp 52) (.seq (.reg 5 act_Right_R5 false) .ret) .skip)) (.seq (.seq (.reg 6 act_Right_R6 false) (.cond (Operand.tmp 77) (.seq (.reg 7 act_Right_R7 false) .ret) .skip)) (.seq (.seq (.reg 8 act_Right_R8 false) (.cond (Operand.tmp 115) (.seq (.reg 9 act_Right_R9 false) .ret) .skip)) (.seq (.reg 10 act_Right_R10 false) .ret)))))))
def act_Right_ks : Nat → List Nat := fun i => match i with
  | _ => []
theorem act_Right_hl : Tryz.f152.body.map light = some act_Right_L.flat := by kernel_rfl
theorem act_Right_hk : act_Right_L.ok = true := by kernel_rfl
theorem act_Right_hb : Tryz.f152.body.map (codeB 125 act_Right_ks) = some true := by kernel_rfl
theorem act_Right_hr : Tryz.f152.results.toList = [ResultVar.tmp 2] := rfl
theorem act_Right_hn : fnB Tryz.prog 152 = true := by kernel_rfl
theorem act_Right_pu {args : List V} {st : List SO} {res : V} (an : Ann) (ha : args.length ≤ 125) (hres : noRef res = true) (h : wpM ⟨Tryz.prog, GW, 125, st.length⟩ an act_Right_ks act_Right_L (argE args 0) st (EndsP ⟨Tryz.prog, GW, 125, st.length⟩ [ResultVar.tmp 2] res st)) : FnOK Tryz.prog GW 152 args st res st :=
  fn_pure Tryz.func152 act_Right_hr act_Right_hl act_Right_hk act_Right_hb rfl act_Right_hn an ha hres h
/-! slices.Equal[list of string,string] -/
def slices_Equal_Lstring_string_R0 : List Itm := [.one ⟨some 4, Op.assign (Operand.const (Value.bool false)), none⟩]
def slices_Equal_Lstring_string_R1 : List Itm := [.one ⟨some 6, Op.move (Operand.tmp 0), none⟩,
  .one ⟨some 7, Op.call { callee := Callee.builtin Builtin.len, args := #[Operand.tmp 6], argTypes := #[23] }, none⟩,
  .one ⟨some 8, Op.move (Operand.tmp 1), none⟩,
  .one ⟨some 9, Op.call { callee := Callee.builtin Builtin.len, args := #[Operand.tmp 8], argTypes := #[23] }, none⟩,
  .one ⟨some 10, Op.binOp BinOp.neq 3 (Operand.tmp 7) (Operand.tmp 9) 3, none⟩]
def slices_Equal_Lstring_string_R2 : List Itm := [.one ⟨some 4, Op.assign (Operand.const (Value.bool false)), none⟩]
def slices_Equal_Lstring_string_R3 : List Itm := [.one ⟨some 11, Op.move (Operand.tmp 0), none⟩,
  .one ⟨some 12, Op.call { callee := Callee.builtin Builtin.len, args := #[Operand.tmp 11], argTypes := #[23] }, none⟩,
  .one ⟨some 13, Op.move (Operand.const (Value.int IntKind.i64 0)), none⟩]
def slices_Equal_Lstring_string_R4 : List Itm := [.one ⟨some 14, Op.binOp BinOp.lss 3 (Operand.tmp 13) (Operand.tmp 12) 3, none⟩]
def slices_Equal_Lstring_string_R5 : List Itm := [.one ⟨some 15, Op.move (Operand.tmp 13), none⟩,
  .one ⟨some 5, Op.assign (Operand.tmp 15), none⟩]
def slices_Equal_Lstring_string_R6 : List Itm := [.one ⟨some 16, Op.move (Operand.tmp 0), none⟩,
  .one ⟨some 17, Op.move (Operand.tmp 5), none⟩,
  .one ⟨some 18, Op.indexAddr 23 (Operand.tmp 16) (Operand.tmp 17), none⟩,
  .one ⟨some 19, Op.load 9 (Operand.tmp 18), none⟩,
  .one ⟨some 20, Op.move (Operand.tmp 1), none⟩,
  .one ⟨some 21, Op.move (Operand.tmp 5), none⟩,
  .one ⟨some 22, Op.indexAddr 23 (Operand.tmp 20) (Operand.tmp 21), none⟩,
  .one ⟨some 23, Op.load 9 (Operand.tmp 22), none⟩,
  .one ⟨some 24, Op.binOp BinOp.neq 9 (Operand.tmp 19) (Operand.tmp 23) 9, none⟩]
def slices_Equal_Lstring_string_R7 : List Itm := [.one ⟨some 4, Op.assign (Operand.const (Value.bool false)), none⟩]
def slices_Equal_Lstring_string_B1 : MCode := (.seq (.reg 5 slices_Equal_Lstring_string_R5 false) (.seq (.reg 6 slices_Equal_Lstring_string_R6 true) (.cond (Operand.tmp 24) (.seq (.reg 7 slices_Equal_Lstring_string_R7 false) .ret) .skip)))
def slices_Equal_Lstring_string_R8 : List Itm := [.one ⟨some 25, Op.binOp BinOp.add 3 (Operand.tmp 13) (Operand.const (Value.int IntKind.i64 1)) 3, none⟩,
  .one ⟨some 13, Op.move (Operand.tmp 25), none⟩]
def slices_Equal_Lstring_string_W1 : MCode := (.seq (.reg 4 slices_Equal_Lstring_string_R4 false) (.seq (.cond (Operand.tmp 14) .skip (.exit 0)) (.seq (.block 1 slices_Equal_Lstring_string_B1) (.reg 8 slices_Equal_Lstring_string_R8 false))))
def slices_Equal_Lstring_string_B0 : MCode := (.loop slices_Equal_Lstring_string_W1)
def slices_Equal_Lstring_string_R9 : List Itm := [.one ⟨some 4, Op.assign (Operand.const (Value.bool true)), none⟩]
def slices_Equal_Lstring_string_L : MCode := (.seq (.reg 0 slices_Equal_Lstring_string_R0 false) (.seq (.seq (.reg 1 slices_Equal_Lstring_string_R1 false) (.cond (Operand.tmp 10) (.seq (.reg 2 slices_Equal_Lstring_string_R2 false) .ret) .skip)) (.seq (.seq (.reg 3 slices_Equal_Lstring_string_R3 false) (.block 0 slices_Equal_Lstring_string_B0)) (.seq (.reg 9 slices_Equal_Lstring_string_R9 false) .ret))))
def slices_Equal_Lstring_string_ks : Nat → List Nat := fun i => match i with
  | 6 => [0, 0, 0, 0, 0, 0, 0, 0, 0]
  | _ => []
theorem slices_Equal_Lstring_string_hl : Tryz.f69.body.map light = some slices_Equal_Lstring_string_L.flat := by kernel_rfl
theorem slices_Equal_Lstring_string_hk : slices_Equal_Lstring_string_L.ok = true := by kernel_rfl
theorem slices_Equal_Lstring_string_hb : Tryz.f69.body.map (codeB 26 slices_Equal_Lstring_string_ks) = some true := by kernel_rfl
theorem slices_Equal_Lstring_string_hr : Tryz.f69.results.toList = [ResultVar.tmp 4] := rfl
theorem slices_Equal_Lstring_string_hn : fnB Tryz.prog 69 = true := by kernel_rfl
theorem slices_Equal_Lstring_string_pu {args : List V} {st : List SO} {res : V} (an : Ann) (ha : args.length ≤ 26) (hres : noRef res = true) (h : wpM ⟨Tryz.prog, GW, 26, st.length⟩ an slices_Equal_Lstring_string_ks slices_Equal_Lstring_string_L (argE args 0) st (EndsP ⟨Tryz.prog, GW, 26, st.length⟩ [ResultVar.tmp 4] res st)) : FnOK Tryz.prog GW 69 args st res st :=
  fn_pure Tryz.func69 slices_Equal_Lstring_string_hr slices_Equal_Lstring_string_hl slices_Equal_Lstring_string_hk slices_Equal_Lstring_string_hb rfl slices_Equal_Lstring_string_hn an ha hres h
/-! slices.Equal[list of agora/api.Wrap,agora/api.Wrap] -/
def slices_Equal_Lapi_Wrap_api_Wrap_R0 : List Itm := [.one ⟨some 4, Op.assign (Operand.const (Value.bool false)), none⟩]
def slices_Equal_Lapi_Wrap_api_Wrap_R1 : List Itm := [.one ⟨some 6, Op.move (Operand.tmp 0), none⟩,
  .one ⟨some 7, Op.call { callee := Callee.builtin Builtin.len, args := #[Operand.tmp 6], argTypes := #[45] }, none⟩,
  .one ⟨some 8, Op.move (Operand.tmp 1), none⟩,
  .one ⟨some 9, Op.call { callee := Callee.builtin Builtin.len, args := #[Operand.tmp 8], argTypes := #[45] }, none⟩,
  .one ⟨some 10, Op.binOp BinOp.neq 3 (Operand.tmp 7) (Operand.tmp 9) 3, none⟩]
def slices_Equal_Lapi_Wrap_api_Wrap_R2 : List Itm := [.one ⟨some 4, Op.assign (Operand.const (Value.bool false)), none⟩]
def slices_Equal_Lapi_Wrap_api_Wrap_R3 : List Itm := [.one ⟨some 11, Op.move (Operand.tmp 0), none⟩,
  .one ⟨some 12, Op.call { callee := Callee.builtin Builtin.len, args := #[Operand.tmp 11], argTypes := #[45] }, none⟩,
  .one ⟨some 13, Op.move (Operand.const (Value.int IntKind.i64 0)), none⟩]
def slices_Equal_Lapi_Wrap_api_Wrap_R4 : List Itm := [.one ⟨some 14, Op.binOp BinOp.lss 3 (Operand.tmp 13) (Operand.tmp 12) 3, none⟩]
def slices_Equal_Lapi_Wrap_api_Wrap_R5 : List Itm := [.one ⟨some 15, Op.move (Operand.tmp 13), none⟩,
  .one ⟨some 5, Op.assign (Operand.tmp 15), none⟩]
def slices_Equal_Lapi_Wrap_api_Wrap_R6 : List Itm := [.one ⟨some 16, Op.move (Operand.tmp 0), none⟩,
  .one ⟨some 17, Op.move (Operand.tmp 5), none⟩,
  .one ⟨some 18, Op.indexAddr 45 (Operand.tmp 16) (Operand.tmp 17), none⟩,
  .one ⟨some 19, Op.load 230 (Operand.tmp 18), none⟩,
  .one ⟨some 20, Op.move (Operand.tmp 1), none⟩,
  .one ⟨some 21, Op.move (Operand.tmp 5), none⟩,
  .one ⟨some 22, Op.indexAddr 45 (Operand.tmp 20) (Operand.tmp 21), none⟩,
  .one ⟨some 23, Op.load 230 (Operand.tmp 22), none⟩,
  .one ⟨some 24, Op.binOp BinOp.neq 230 (Operand.tmp 19) (Operand.tmp 23) 230, none⟩]
def slices_Equal_Lapi_Wrap_api_Wrap_R7 : List Itm := [.one ⟨some 4, Op.assign (Operand.const (Value.bool false)), none⟩]
def slices_Equal_Lapi_Wrap_api_Wrap_B1 : MCode := (.seq (.reg 5 slices_Equal_Lapi_Wrap_api_Wrap_R5 false) (.seq (.reg 6 slices_Equal_Lapi_Wrap_api_Wrap_R6 true) (.cond (Operand.tmp 24) (.seq (.reg 7 slices_Equal_Lapi_Wrap_api_Wrap_R7 false) .ret) .skip)))
def slices_Equal_Lapi_Wrap_api_Wrap_R8 : List Itm := [.one ⟨some 25, Op.binOp BinOp.add 3 (Operand.tmp 13) (Operand.const (Value.int IntKind.i64 1)) 3, none⟩,
  .one ⟨some 13, Op.move (Operand.tmp 25), none⟩]
def slices_Equal_Lapi_Wrap_api_Wrap_W1 : MCode := (.seq (.reg 4 slices_Equal_Lapi_Wrap_api_Wrap_R4 false) (.seq (.cond (Operand.tmp 14) .skip (.exit 0)) (.seq (.block 1 slices_Equal_Lapi_Wrap_api_Wrap_B1) (.reg 8 slices_Equal_Lapi_Wrap_api_Wrap_R8 false))))
def slices_Equal_Lapi_Wrap_api_Wrap_B0 : MCode := (.loop slices_Equal_Lapi_Wrap_api_Wrap_W1)
def slices_Equal_Lapi_Wrap_api_Wrap_R9 : List Itm := [.one ⟨some 4, Op.assign (Operand.const (Value.bool true)), none⟩]
def slices_Equal_Lapi_Wrap_api_Wrap_L : MCode := (.seq (.reg 0 slices_Equal_Lapi_Wrap_api_Wrap_R0 false) (.seq (.seq (.reg 1 slices_Equal_Lapi_Wrap_api_Wrap_R1 false) (.cond (Operand.tmp 10) (.seq (.reg 2 slices_Equal_Lapi_Wrap_api_Wrap_R2 false) .ret) .skip)) (.seq (.seq (.reg 3 slices_Equal_Lapi_Wrap_api_Wrap_R3 false) (.block 0 slices_Equal_Lapi_Wrap_api_Wrap_B0)) (.seq (.reg 9 slices_Equal_Lapi_Wrap_api_Wrap_R9 false) .ret))))
def slices_Equal_Lapi_Wrap_api_Wrap_ks : Nat → List Nat := fun i => match i with
  | 6 => [0, 0, 0, 0, 0, 0, 0, 0, 0]
  | _ => []
theorem slices_Equal_Lapi_Wrap_api_Wrap_hl : Tryz.f246.body.map light = some slices_Equal_Lapi_Wrap_api_Wrap_L.flat := by kernel_rfl
theorem slices_Equal_Lapi_Wrap_api_Wrap_hk : slices_Equal_Lapi_Wrap_api_Wrap_L.ok = true := by kernel_rfl
theorem slices_Equal_Lapi_Wrap_api_Wrap_hb : Tryz.f246.body.map (codeB 26 slices_Equal_Lapi_Wrap_api_Wrap_ks) = some true := by kernel_rfl
theorem slices_Equal_Lapi_Wrap_api_Wrap_hr : Tryz.f246.results.toList = [ResultVar.tmp 4] := rfl
theorem slices_Equal_Lapi_Wrap_api_Wrap_hn : fnB Tryz.prog 246 = true := by kernel_rfl
theorem slices_Equal_Lapi_Wrap_api_Wrap_pu {args : List V} {st : List SO} {res : V} (an : Ann) (ha : args.length ≤ 26) (hres : noRef res = true) (h : wpM ⟨Tryz.prog, GW, 26, st.length⟩ an slices_Equal_Lapi_Wrap_api_Wrap_ks slices_Equal_Lapi_Wrap_api_Wrap_L (argE args 0) st (EndsP ⟨Tryz.prog, GW, 26, st.length⟩ [ResultVar.tmp 4] res st)) : FnOK Tryz.prog GW 246 args st res st :=
  fn_pure Tryz.func246 slices_Equal_Lapi_Wrap_api_Wrap_hr slices_Equal_Lapi_Wrap_api_Wrap_hl slices_Equal_Lapi_Wrap_api_Wrap_hk slices_Equal_Lapi_Wrap_api_Wrap_hb rfl slices_Equal_Lapi_Wrap_api_Wrap_hn an ha hres h
/-! agora/act.Same -/
def act_Same_R0 : List Itm := [.one ⟨some 2, Op.box 49 (Operand.tmp 0), none⟩,
  .one ⟨some 3, Op.box 49 (Operand.tmp 1), none⟩,
  .one ⟨some 4, Op.assign (Operand.const (Value.bool false)), none⟩]
def act_Same_R1 : List Itm := [.one ⟨some 5, Op.fieldAddr 49 (Operand.tmp 2) 9, none⟩,
  .one ⟨some 6, Op.load 23 (Operand.tmp 5), none⟩,
  .one ⟨some 7, Op.fieldAddr 49 (Operand.tmp 3) 9, none⟩,
  .one ⟨some 8, Op.load 23 (Operand.tmp 7), none⟩,
  .one ⟨some 9, Op.call { callee := Callee.value (Operand.func 69), args := #[Operand.tmp 6, Operand.tmp 8], argTypes := #[23, 23] }, none⟩,
  .one ⟨some 10, Op.unOp UnOp.not 4 (Operand.tmp 9), none⟩,
  .one ⟨some 11, Op.move (Operand.tmp 10), none⟩,
  .blk 6 false [.one ⟨some 12, Op.fieldAddr 49 (Operand.tmp 2) 13, some (6, false)⟩,
  .one ⟨some 13, Op.load 45 (Operand.tmp 12), some (6, false)⟩,
  .one ⟨some 14, Op.fieldAddr 49 (Operand.tmp 3) 13, some (6, false)⟩,
  .one ⟨some 15, Op.load 45 (Operand.tmp 14), some (6, false)⟩,
  .one ⟨some 16, Op.call { callee := Callee.value (Operand.func 246), args := #[Operand.tmp 13, Operand.tmp 15], argTypes := #[45, 45] }, some (6, false)⟩,
  .one ⟨some 17, Op.unOp UnOp.not 4 (Operand.tmp 16), some (6, false)⟩] ⟨some 18, Op.pick (Operand.tmp 11) (Operand.const (Value.bool true)) (Operand.tmp 17), none⟩]
def act_Same_R2 : List Itm := [.one ⟨some 4, Op.assign (Operand.const (Value.bool false)), none⟩]
def act_Same_R3 : List Itm := [.one ⟨some 19, Op.fieldAddr 49 (Operand.tmp 2) 0, none⟩,
  .one ⟨some 20, Op.load 9 (Operand.tmp 19), none⟩,
  .one ⟨some 21, Op.fieldAddr 49 (Operand.tmp 3) 0, none⟩,
  .one ⟨some 22, Op.load 9 (Operand.tmp 21), none⟩,
  .one ⟨some 23, Op.binOp BinOp.eql 9 (Operand.tmp 20) (Operand.tmp 22) 9, none⟩,
  .one ⟨some 24, Op.move (Operand.tmp 23), none⟩,
  .blk 5 true [.one ⟨some 25, Op.fieldAddr 49 (Operand.tmp 2) 1, some (5, true)⟩,
  .one ⟨some 26, Op.load 3 (Operand.tmp 25), some (5, true)⟩,
  .one ⟨some 27, Op.fieldAddr 49 (Operand.tmp 3) 1, some (5, true)⟩,
  .one ⟨some 28, Op.load 3 (Operand.tmp 27), some (5, true)⟩,
  .one ⟨some 29, Op.binOp BinOp.eql 3 (Operand.tmp 26) (Operand.tmp 28) 3, some (5, true)⟩] ⟨some 30, Op.pick (Operand.tmp 24) (Operand.tmp 29) (Operand.const (Value.bool false)), none⟩,
  .one ⟨some 31, Op.move (Operand.tmp 30), none⟩,
  .blk 12 true [.one ⟨some 32, Op.fieldAddr 49 (Operand.tmp 2) 2, some (12, true)⟩,
  .one ⟨some 33, Op.load 9 (Operand.tmp 32), some (12, true)⟩,
  .one ⟨some 34, Op.fieldAddr 49 (Operand.tmp 3) 2, some (12, true)⟩,
  .one ⟨some 35, Op.load 9 (Operand.tmp 34), some (12, true)⟩,
  .one ⟨some 36, Op.binOp BinOp.eql 9 (Operand.tmp 33) (Operand.tmp 35) 9, some (12, true)⟩] ⟨some 37, Op.pick (Operand.tmp 31) (Operand.tmp 36) (Operand.const (Value.bool false)), none⟩,
  .one ⟨some 38, Op.move (Operand.tmp 37), none⟩,
  .blk 19 true [.one ⟨some 39, Op.fieldAddr 49 (Operand.tmp 2) 3, some (19, true)⟩,
  .one ⟨some 40, Op.load 3 (Operand.tmp 39), some (19, true)⟩,
  .one ⟨some 41, Op.fieldAddr 49 (Operand.tmp 3) 3, some (19, true)⟩,
  .one ⟨some 42, Op.load 3 (Operand.tmp 41), some (19, true)⟩,
  .one ⟨some 43, Op.binOp BinOp.eql 3 (Operand.tmp 40) (Operand.tmp 42) 3, some (19, true)⟩] ⟨some 44, Op.pick (Operand.tmp 38) (Operand.tmp 43) (Operand.const (Value.bool false)), none⟩,
  .one ⟨some 45, Op.move (Operand.tmp 44), none⟩,
  .blk 26 true [.one ⟨some 46, Op.fieldAddr 49 (Operand.tmp 2) 4, some (26, true)⟩,
  .one ⟨some 47, Op.load 3 (Operand.tmp 46), some (26, true)⟩,
  .one ⟨some 48, Op.fieldAddr 49 (Operand.tmp 3) 4, some (26, true)⟩,
  .one ⟨some 49, Op.load 3 (Operand.tmp 48), some (26, true)⟩,
  .one ⟨some 50, Op.binOp BinOp.eql 3 (Operand.tmp 47) (Operand.tmp 49) 3, some (26, true)⟩] ⟨some 51, Op.pick (Operand.tmp 45) (Operand.tmp 50) (Operand.const (Value.bool false)), none⟩,
  .one ⟨some 52, Op.move (Operand.tmp 51), none⟩,
  .blk 33 true [.one ⟨some 53, Op.fieldAddr 49 (Operand.tmp 2) 5, some (33, true)⟩,
  .one ⟨some 54, Op.load 9 (Operand.tmp 53), some (33, true)⟩,
  .one ⟨some 55, Op.fieldAddr 49 (Operand.tmp 3) 5, some (33, true)⟩,
  .one ⟨some 56, Op.load 9 (Operand.tmp 55), some (33, true)⟩,
  .one ⟨some 57, Op.binOp BinOp.eql 9 (Operand.tmp 54) (Operand.tmp 56) 9, some (33, true)⟩] ⟨some 58, Op.pick (Operand.tmp 52) (Operand.tmp 57) (Operand.const (Value.bool false)), none⟩,
  .one ⟨some 59, Op.move (Operand.tmp 58), none⟩,
  .blk 40 true [.one ⟨some 60, Op.fieldAddr 49 (Operand.tmp 2) 6, some (40, true)⟩,
  .one ⟨some 61, Op.load 9 (Operand.tmp 60), some (40, true)⟩,
  .one ⟨some 62, Op.fieldAddr 49 (Operand.tmp 3) 6, some (40, true)⟩,
  .one ⟨some 63, Op.load 9 (Operand.tmp 62), some (40, true)⟩,
  .one ⟨some 64, Op.binOp BinOp.eql 9 (Operand.tmp 61) (Operand.tmp 63) 9, some (40, true)⟩] ⟨some 65, Op.pick (Operand.tmp 59) (Operand.tmp 64) (Operand.const (Value.bool false)), none⟩,
  .one ⟨some 66, Op.move (Operand.tmp 65), none⟩,
  .blk 47 true [.one ⟨some 67, Op.fieldAddr 49 (Operand.tmp 2) 7, some (47, true)⟩,
  .one ⟨some 68, Op.load 3 (Operand.tmp 67), some (47, true)⟩,
  .one ⟨some 69, Op.fieldAddr 49 (Operand.tmp 3) 7, some (47, true)⟩,
  .one ⟨some 70, Op.load 3 (Operand.tmp 69), some (47, true)⟩,
  .one ⟨some 71, Op.binOp BinOp.eql 3 (Operand.tmp 68) (Operand.tmp 70) 3, some (47, true)⟩] ⟨some 72, Op.pick (Operand.tmp 66) (Operand.tmp 71) (Operand.const (Value.bool false)), none⟩,
  .one ⟨some 73, Op.move (Operand.tmp 72), none⟩,
  .blk 54 true [.one ⟨some 74, Op.fieldAddr 49 (Operand.tmp 2) 8, some (54, true)⟩,
  .one ⟨some 75, Op.load 9 (Operand.tmp 74), some (54, true)⟩,
  .one ⟨some 76, Op.fieldAddr 49 (Operand.tmp 3) 8, some (54, true)⟩,
  .one ⟨some 77, Op.load 9 (Operand.tmp 76), some (54, true)⟩,
  .one ⟨some 78, Op.binOp BinOp.eql 9 (Operand.tmp 75) (Operand.tmp 77) 9, some (54, true)⟩] ⟨some 79, Op.pick (Operand.tmp 73) (Operand.tmp 78) (Operand.const (Value.bool false)), none⟩,
  .one ⟨some 80, Op.move (Operand.tmp 79), none⟩,
  .blk 61 true [.one ⟨some 81, Op.fieldAddr 49 (Operand.tmp 2) 10, some (61, true)⟩,
  .one ⟨some 82, Op.load 9 (Operand.tmp 81), some (61, true)⟩,
  .one ⟨some 83, Op.fieldAddr 49 (Operand.tmp 3) 10, some (61, true)⟩,
  .one ⟨some 84, Op.load 9 (Operand.tmp 83), some (61, true)⟩,
  .one ⟨some 85, Op.binOp BinOp.eql 9 (Operand.tmp 82) (Operand.tmp 84) 9, some (61, true)⟩] ⟨some 86, Op.pick (Operand.tmp 80) (Operand.tmp 85) (Operand.const (Value.bool false)), none⟩,
  .one ⟨some 87, Op.move (Operand.tmp 86), none⟩,
  .blk 68 true [.one ⟨some 88, Op.fieldAddr 49 (Operand.tmp 2) 11, some (68, true)⟩,
  .one ⟨some 89, Op.load 44 (Operand.tmp 88), some (68, true)⟩,
  .one ⟨some 90, Op.fieldAddr 49 (Operand.tmp 3) 11, some (68, true)⟩,
  .one ⟨some 91, Op.load 44 (Operand.tmp 90), some (68, true)⟩,
  .one ⟨some 92, Op.binOp BinOp.eql 44 (Operand.tmp 89) (Operand.tmp 91) 44, some (68, true)⟩] ⟨some 93, Op.pick (Operand.tmp 87) (Operand.tmp 92) (Operand.const (Value.bool false)), none⟩,
  .one ⟨some 94, Op.move (Operand.tmp 93), none⟩,
  .blk 75 true [.one ⟨some 95, Op.fieldAddr 49 (Operand.tmp 2) 12, some (75, true)⟩,
  .one ⟨some 96, Op.load 3 (Operand.tmp 95), some (75, true)⟩,
  .one ⟨some 97, Op.fieldAddr 49 (Operand.tmp 3) 12, some (75, true)⟩,
  .one ⟨some 98, Op.load 3 (Operand.tmp 97), some (75, true)⟩,
  .one ⟨some 99, Op.binOp BinOp.eql 3 (Operand.tmp 96) (Operand.tmp 98) 3, some (75, true)⟩] ⟨some 100, Op.pick (Operand.tmp 94) (Operand.tmp 99) (Operand.const (Value.bool false)), none⟩,
  .one ⟨some 101, Op.move (Operand.tmp 100), none⟩,
  .blk 82 true [.one ⟨some 102, Op.fieldAddr 49 (Operand.tmp 2) 14, some (82, true)⟩,
  .one ⟨some 103, Op.load 3 (Operand.tmp 102), some (82, true)⟩,
  .one ⟨some 104, Op.fieldAddr 49 (Operand.tmp 3) 14, some (82, true)⟩,
  .one ⟨some 105, Op.load 3 (Operand.tmp 104), some (82, true)⟩,
  .one ⟨some 106, Op.binOp BinOp.eql 3 (Operand.tmp 103) (Operand.tmp 105) 3, some (82, true)⟩] ⟨some 107, Op.pick (Operand.tmp 101) (Operand.tmp 106) (Operand.const (Value.bool false)), none⟩,
  .one ⟨some 108, Op.move (Operand.tmp 107), none⟩,
  .blk 89 true [.one ⟨some 109, Op.fieldAddr 49 (Operand.tmp 2) 15, some (89, true)⟩,
  .one ⟨some 110, Op.load 3 (Operand.tmp 109), some (89, true)⟩,
  .one ⟨some 111, Op.fieldAddr 49 (Operand.tmp 3) 15, some (89, true)⟩,
  .one ⟨some 112, Op.load 3 (Operand.tmp 111), some (89, true)⟩,
  .one ⟨some 113, Op.binOp BinOp.eql 3 (Operand.tmp 110) (Operand.tmp 112) 3, some (89, true)⟩] ⟨some 114, Op.pick (Operand.tmp 108) (Operand.tmp 113) (Operand.const (Value.bool false)), none⟩,
  .one ⟨some 115, Op.move (Operand.tmp 114), none⟩,
  .blk 96 true [.one ⟨some 116, Op.fieldAddr 49 (Operand.tmp 2) 16, some (96, true)⟩,
  .one ⟨some 117, Op.load 47 (Operand.tmp 116), some (96, true)⟩,
  .one ⟨some 118, Op.fieldAddr 49 (Operand.tmp 3) 16, some (96, true)⟩,
  .one ⟨some 119, Op.load 47 (Operand.tmp 118), some (96, true)⟩,
  .one ⟨some 120, Op.binOp BinOp.eql 47 (Operand.tmp 117) (Operand.tmp 119) 47, some (96, true)⟩] ⟨some 121, Op.pick (Operand.tmp 115) (Operand.tmp 120) (Operand.const (Value.bool false)), none⟩,
  .one ⟨some 4, Op.assign (Operand.tmp 121), none⟩]
def act_Same_L : MCode := (.seq (.reg 0 act_Same_R0 false) (.seq (.seq (.reg 1 act_Same_R1 false) (.cond (Operand.tmp 18) (.seq (.reg 2 act_Same_R2 false) .ret) .skip)) (.seq (.reg 3 act_Same_R3 false) .ret)))
def act_Same_ks : Nat → List Nat := fun i => match i with
  | _ => []
theorem act_Same_hl : Tryz.f227.body.map light = some act_Same_L.flat := by kernel_rfl
theorem act_Same_hk : act_Same_L.ok = true := by kernel_rfl
theorem act_Same_hb : Tryz.f227.body.map (codeB 122 act_Same_ks) = some true := by kernel_rfl
theorem act_Same_hr : Tryz.f227.results.toList = [ResultVar.tmp 4] := rfl
theorem act_Same_hn : fnB Tryz.prog 227 = true := by kernel_rfl
theorem act_Same_pu {args : List V} {st : List SO} {res : V} (an : Ann) (ha : args.length ≤ 122) (hres : noRef res = true) (h : wpM ⟨Tryz.prog, GW, 122, st.length⟩ an act_Same_ks act_Same_L (argE args 0) st (EndsP ⟨Tryz.prog, GW, 122, st.length⟩ [ResultVar.tmp 4] res st)) : FnOK Tryz.prog GW 227 args st res st :=
  fn_pure Tryz.func227 act_Same_hr act_Same_hl act_Same_hk act_Same_hb rfl act_Same_hn an ha hres h
/-! agora/item.sameDecision -/
def item_sameDecision_R0 : List Itm := [.one ⟨some 2, Op.box 147 (Operand.tmp 0), none⟩,
  .one ⟨some 3, Op.box 147 (Operand.tmp 1), none⟩,
  .one ⟨some 4, Op.assign (Operand.const (Value.bool false)), none⟩]
def item_sameDecision_R1 : List Itm := [.one ⟨some 5, Op.fieldAddr 147 (Operand.tmp 2) 6, none⟩,
  .one ⟨some 6, Op.load 23 (Operand.tmp 5), none⟩,
  .one ⟨some 7, Op.fieldAddr 147 (Operand.tmp 3) 6, none⟩,
  .one ⟨some 8, Op.load 23 (Operand.tmp 7), none⟩,
  .one ⟨some 9, Op.call { callee := Callee.value (Operand.func 69), args := #[Operand.tmp 6, Operand.tmp 8], argTypes := #[23, 23] }, none⟩,
  .one ⟨some 10, Op.move (Operand.tmp 9), none⟩,
  .blk 5 true [.one ⟨some 11, Op.fieldAddr 147 (Operand.tmp 2) 0, some (5, true)⟩,
  .one ⟨some 12, Op.load 3 (Operand.tmp 11), some (5, true)⟩,
  .one ⟨some 13, Op.fieldAddr 147 (Operand.tmp 3) 0, some (5, true)⟩,
  .one ⟨some 14, Op.load 3 (Operand.tmp 13), some (5, true)⟩,
  .one ⟨some 15, Op.binOp BinOp.eql 3 (Operand.tmp 12) (Operand.tmp 14) 3, some (5, true)⟩] ⟨some 16, Op.pick (Operand.tmp 10) (Operand.tmp 15) (Operand.const (Value.bool false)), none⟩,
  .one ⟨some 17, Op.move (Operand.tmp 16), none⟩,
  .blk 12 true [.one ⟨some 18, Op.fieldAddr 147 (Operand.tmp 2) 1, some (12, true)⟩,
  .one ⟨some 19, Op.load 3 (Operand.tmp 18), some (12, true)⟩,
  .one ⟨some 20, Op.fieldAddr 147 (Operand.tmp 3) 1, some (12, true)⟩,
  .one ⟨some 21, Op.load 3 (Operand.tmp 20), some (12, true)⟩,
  .one ⟨some 22, Op.binOp BinOp.eql 3 (Operand.tmp 19) (Operand.tmp 21) 3, some (12, true)⟩] ⟨some 23, Op.pick (Operand.tmp 17) (Operand.tmp 22) (Operand.const (Value.bool false)), none⟩,
  .one ⟨some 24, Op.move (Operand.tmp 23), none⟩,
  .blk 19 true [.one ⟨some 25, Op.fieldAddr 147 (Operand.tmp 2) 2, some (19, true)⟩,
  .one ⟨some 26, Op.load 3 (Operand.tmp 25), some (19, true)⟩,
  .one ⟨some 27, Op.fieldAddr 147 (Operand.tmp 3) 2, some (19, true)⟩,
  .one ⟨some 28, Op.load 3 (Operand.tmp 27), some (19, true)⟩,
  .one ⟨some 29, Op.binOp BinOp.eql 3 (Operand.tmp 26) (Operand.tmp 28) 3, some (19, true)⟩] ⟨some 30, Op.pick (Operand.tmp 24) (Operand.tmp 29) (Operand.const (Value.bool false)), none⟩,
  .one ⟨some 31, Op.move (Operand.tmp 30), none⟩,
  .blk 26 true [.one ⟨some 32, Op.fieldAddr 147 (Operand.tmp 2) 3, some (26, true)⟩,
  .one ⟨some 33, Op.load 9 (Operand.tmp 32), some (26, true)⟩,
  .one ⟨some 34, Op.fieldAddr 147 (Operand.tmp 3) 3, some (26, true)⟩,
  .one ⟨some 35, Op.load 9 (Operand.tmp 34), some (26, true)⟩,
  .one ⟨some 36, Op.binOp BinOp.eql 9 (Operand.tmp 33) (Operand.tmp 35) 9, some (26, true)⟩] ⟨some 37, Op.pick (Operand.tmp 31) (Operand.tmp 36) (Operand.const (Value.bool false)), none⟩,
  .one ⟨some 38, Op.move (Operand.tmp 37), none⟩,
  .blk 33 true [.one ⟨some 39, Op.fieldAddr 147 (Operand.tmp 2) 4, some (33, true)⟩,
  .one ⟨some 40, Op.load 9 (Operand.tmp 39), some (33, true)⟩,
  .one ⟨some 41, Op.fieldAddr 147 (Operand.tmp 3) 4, some (33, true)⟩,
  .one ⟨some 42, Op.load 9 (Operand.tmp 41), some (33, true)⟩,
  .one ⟨some 43, Op.binOp BinOp.eql 9 (Operand.tmp 40) (Operand.tmp 42) 9, some (33, true)⟩] ⟨some 44, Op.pick (Operand.tmp 38) (Operand.tmp 43) (Operand.const (Value.bool false)), none⟩,
  .one ⟨some 45, Op.move (Operand.tmp 44), none⟩,
  .blk 40 true [.one ⟨some 46, Op.fieldAddr 147 (Operand.tmp 2) 5, some (40, true)⟩,
  .one ⟨some 47, Op.load 9 (Operand.tmp 46), some (40, true)⟩,
  .one ⟨some 48, Op.fieldAddr 147 (Operand.tmp 3) 5, some (40, true)⟩,
  .one ⟨some 49, Op.load 9 (Operand.tmp 48), some (40, true)⟩,
  .one ⟨some 50, Op.binOp BinOp.eql 9 (Operand.tmp 47) (Operand.tmp 49) 9, some (40, true)⟩] ⟨some 51, Op.pick (Operand.tmp 45) (Operand.tmp 50) (Operand.const (Value.bool false)), none⟩,
  .one ⟨some 52, Op.move (Operand.tmp 51), none⟩,
  .blk 47 true [.one ⟨some 53, Op.fieldAddr 147 (Operand.tmp 2) 7, some (47, true)⟩,
  .one ⟨some 54, Op.load 3 (Operand.tmp 53), some (47, true)⟩,
  .one ⟨some 55, Op.fieldAddr 147 (Operand.tmp 3) 7, some (47, true)⟩,
  .one ⟨some 56, Op.load 3 (Operand.tmp 55), some (47, true)⟩,
  .one ⟨some 57, Op.binOp BinOp.eql 3 (Operand.tmp 54) (Operand.tmp 56) 3, some (47, true)⟩] ⟨some 58, Op.pick (Operand.tmp 52) (Operand.tmp 57) (Operand.const (Value.bool false)), none⟩,
  .one ⟨some 59, Op.move (Operand.tmp 58), none⟩,
  .blk 54 true [.one ⟨some 60, Op.fieldAddr 147 (Operand.tmp 2) 8, some (54, true)⟩,
  .one ⟨some 61, Op.load 3 (Operand.tmp 60), some (54, true)⟩,
  .one ⟨some 62, Op.fieldAddr 147 (Operand.tmp 3) 8, some (54, true)⟩,
  .one ⟨some 63, Op.load 3 (Operand.tmp 62), some (54, true)⟩,
  .one ⟨some 64, Op.binOp BinOp.eql 3 (Operand.tmp 61) (Operand.tmp 63) 3, some (54, true)⟩] ⟨some 65, Op.pick (Operand.tmp 59) (Operand.tmp 64) (Operand.const (Value.bool false)), none⟩,
  .one ⟨some 66, Op.move (Operand.tmp 65), none⟩,
  .blk 61 true [.one ⟨some 67, Op.fieldAddr 147 (Operand.tmp 2) 9, some (61, true)⟩,
  .one ⟨some 68, Op.load 3 (Operand.tmp 67), some (61, true)⟩,
  .one ⟨some 69, Op.fieldAddr 147 (Operand.tmp 3) 9, some (61, true)⟩,
  .one ⟨some 70, Op.load 3 (Operand.tmp 69), some (61, true)⟩,
  .one ⟨some 71, Op.binOp BinOp.eql 3 (Operand.tmp 68) (Operand.tmp 70) 3, some (61, true)⟩] ⟨some 72, Op.pick (Operand.tmp 66) (Operand.tmp 71) (Operand.const (Value.bool false)), none⟩,
  .one ⟨some 73, Op.move (Operand.tmp 72), none⟩,
  .blk 68 true [.one ⟨some 74, Op.fieldAddr 147 (Operand.tmp 2) 10, some (68, true)⟩,
  .one ⟨some 75, Op.load 47 (Operand.tmp 74), some (68, true)⟩,
  .one ⟨some 76, Op.fieldAddr 147 (Operand.tmp 3) 10, some (68, true)⟩,
  .one ⟨some 77, Op.load 47 (Operand.tmp 76), some (68, true)⟩,
  .one ⟨some 78, Op.binOp BinOp.eql 47 (Operand.tmp 75) (Operand.tmp 77) 47, some (68, true)⟩] ⟨some 79, Op.pick (Operand.tmp 73) (Operand.tmp 78) (Operand.const (Value.bool false)), none⟩,
  .one ⟨some 4, Op.assign (Operand.tmp 79), none⟩]
def item_sameDecision_L : MCode := (.seq (.reg 0 item_sameDecision_R0 false) (.seq (.reg 1 item_sameDecision_R1 false) .ret))
def item_sameDecision_ks : Nat → List Nat := fun i => match i with
  | _ => []
theorem item_sameDecision_hl : Tryz.f228.body.map light = some item_sameDecision_L.flat := by kernel_rfl
theorem item_sameDecision_hk : item_sameDecision_L.ok = true := by kernel_rfl
theorem item_sameDecision_hb : Tryz.f228.body.map (codeB 80 item_sameDecision_ks) = some true := by kernel_rfl
theorem item_sameDecision_hr : Tryz.f228.results.toList = [ResultVar.tmp 4] := rfl
theorem item_sameDecision_hn : fnB Tryz.prog 228 = true := by kernel_rfl
theorem item_sameDecision_pu {args : List V} {st : List SO} {res : V} (an : Ann) (ha : args.length ≤ 80) (hres : noRef res = true) (h : wpM ⟨Tryz.prog, GW, 80, st.length⟩ an item_sameDecision_ks item_sameDecision_L (argE args 0) st (EndsP ⟨Tryz.prog, GW, 80, st.length⟩ [ResultVar.tmp 4] res st)) : FnOK Tryz.prog GW 228 args st res st :=
  fn_pure Tryz.func228 item_sameDecision_hr item_sameDecision_hl item_sameDecision_hk item_sameDecision_hb rfl item_sameDecision_hn an ha hres h
/-! agora/item.Same -/
def item_Same_R0 : List Itm := [.one ⟨some 2, Op.box 149 (Operand.tmp 0), none⟩,
  .one ⟨some 3, Op.box 149 (Operand.tmp 1), none⟩,
  .one ⟨some 4, Op.assign (Operand.const (Value.bool false)), none⟩]
def item_Same_R1 : List Itm := [.one ⟨some 5, Op.fieldAddr 149 (Operand.tmp 2) 0, none⟩,
  .one ⟨some 6, Op.load 3 (Operand.tmp 5), none⟩,
  .one ⟨some 7, Op.fieldAddr 149 (Operand.tmp 3) 0, none⟩,
  .one ⟨some 8, Op.load 3 (Operand.tmp 7), none⟩,
  .one ⟨some 9, Op.binOp BinOp.eql 3 (Operand.tmp 6) (Operand.tmp 8) 3, none⟩,
  .one ⟨some 10, Op.move (Operand.tmp 9), none⟩,
  .blk 5 true [.one ⟨some 11, Op.fieldAddr 149 (Operand.tmp 2) 1, some (5, true)⟩,
  .one ⟨some 12, Op.load 49 (Operand.tmp 11), some (5, true)⟩,
  .one ⟨some 13, Op.fieldAddr 149 (Operand.tmp 3) 1, some (5, true)⟩,
  .one ⟨some 14, Op.load 49 (Operand.tmp 13), some (5, true)⟩,
  .one ⟨some 15, Op.call { callee := Callee.value (Operand.func 227), args := #[Operand.tmp 12, Operand.tmp 14], argTypes := #[49, 49] }, some (5, true)⟩] ⟨some 16, Op.pick (Operand.tmp 10) (Operand.tmp 15) (Operand.const (Value.bool false)), none⟩,
  .one ⟨some 17, Op.move (Operand.tmp 16), none⟩,
  .blk 12 true [.one ⟨some 18, Op.fieldAddr 149 (Operand.tmp 2) 2, some (12, true)⟩,
  .one ⟨some 19, Op.load 143 (Operand.tmp 18), some (12, true)⟩,
  .one ⟨some 20, Op.fieldAddr 149 (Operand.tmp 3) 2, some (12, true)⟩,
  .one ⟨some 21, Op.load 143 (Operand.tmp 20), some (12, true)⟩,
  .one ⟨some 22, Op.binOp BinOp.eql 143 (Operand.tmp 19) (Operand.tmp 21) 143, some (12, true)⟩] ⟨some 23, Op.pick (Operand.tmp 17) (Operand.tmp 22) (Operand.const (Value.bool false)), none⟩,
  .one ⟨some 24, Op.move (Operand.tmp 23), none⟩,
  .blk 19 true [.one ⟨some 25, Op.fieldAddr 149 (Operand.tmp 2) 3, some (19, true)⟩,
  .one ⟨some 26, Op.load 145 (Operand.tmp 25), some (19, true)⟩,
  .one ⟨some 27, Op.fieldAddr 149 (Operand.tmp 3) 3, some (19, true)⟩,
  .one ⟨some 28, Op.load 145 (Operand.tmp 27), some (19, true)⟩,
  .one ⟨some 29, Op.binOp BinOp.eql 145 (Operand.tmp 26) (Operand.tmp 28) 145, some (19, true)⟩] ⟨some 30, Op.pick (Operand.tmp 24) (Operand.tmp 29) (Operand.const (Value.bool false)), none⟩,
  .one ⟨some 31, Op.move (Operand.tmp 30), none⟩,
  .blk 26 true [.one ⟨some 32, Op.fieldAddr 149 (Operand.tmp 2) 4, some (26, true)⟩,
  .one ⟨some 33, Op.load 147 (Operand.tmp 32), some (26, true)⟩,
  .one ⟨some 34, Op.fieldAddr 149 (Operand.tmp 3) 4, some (26, true)⟩,
  .one ⟨some 35, Op.load 147 (Operand.tmp 34), some (26, true)⟩,
  .one ⟨some 36, Op.call { callee := Callee.value (Operand.func 228), args := #[Operand.tmp 33, Operand.tmp 35], argTypes := #[147, 147] }, some (26, true)⟩] ⟨some 37, Op.pick (Operand.tmp 31) (Operand.tmp 36) (Operand.const (Value.bool false)), none⟩,
  .one ⟨some 4, Op.assign (Operand.tmp 37), none⟩]
def item_Same_L : MCode := (.seq (.reg 0 item_Same_R0 false) (.seq (.reg 1 item_Same_R1 false) .ret))
def item_Same_ks : Nat → List Nat := fun i => match i with
  | _ => []
theorem item_Same_hl : Tryz.f204.body.map light = some item_Same_L.flat := by kernel_rfl
theorem item_Same_hk : item_Same_L.ok = true := by kernel_rfl
theorem item_Same_hb : Tryz.f204.body.map (codeB 38 item_Same_ks) = some true := by kernel_rfl
theorem item_Same_hr : Tryz.f204.results.toList = [ResultVar.tmp 4] := rfl
theorem item_Same_hn : fnB Tryz.prog 204 = true := by kernel_rfl
theorem item_Same_pu {args : List V} {st : List SO} {res : V} (an : Ann) (ha : args.length ≤ 38) (hres : noRef res = true) (h : wpM ⟨Tryz.prog, GW, 38, st.length⟩ an item_Same_ks item_Same_L (argE args 0) st (EndsP ⟨Tryz.prog, GW, 38, st.length⟩ [ResultVar.tmp 4] res st)) : FnOK Tryz.prog GW 204 args st res st :=
  fn_pure Tryz.func204 item_Same_hr item_Same_hl item_Same_hk item_Same_hb rfl item_Same_hn an ha hres h
/-! agora/item.Right -/
def item_Right_R0 : List Itm := [.one ⟨some 1, Op.box 149 (Operand.tmp 0), none⟩,
  .one ⟨some 2, Op.assign (Operand.const (Value.bool false)), none⟩]
def item_Right_R1 : List Itm := [.one ⟨some 5, Op.fieldAddr 149 (Operand.tmp 1) 0, none⟩,
  .one ⟨some 6, Op.load 3 (Operand.tmp 5), none⟩,
  .one ⟨some 7, Op.build 149 #[(0, Operand.tmp 6)], none⟩,
  .one ⟨some 3, Op.alloc 149, none⟩,
  .one ⟨none, Op.store 149 (Operand.tmp 3) (Operand.tmp 7), none⟩]
def item_Right_R2 : List Itm := [.one ⟨some 4, Op.assign (Operand.const (Value.bool false)), none⟩]
def item_Right_R3 : List Itm := [.one ⟨some 8, Op.fieldAddr 149 (Operand.tmp 1) 0, none⟩,
  .one ⟨some 9, Op.load 3 (Operand.tmp 8), none⟩]
def item_Right_R4 : List Itm := [.one ⟨some 11, Op.binOp BinOp.eql 3 (Operand.tmp 9) (Operand.const (Value.int IntKind.i64 0)) 3, none⟩,
  .one ⟨some 10, Op.assign (Operand.tmp 11), none⟩]
def item_Right_R5 : List Itm := [.one ⟨some 12, Op.fieldAddr 149 (Operand.tmp 1) 1, none⟩,
  .one ⟨some 13, Op.load 49 (Operand.tmp 12), none⟩,
  .one ⟨some 14, Op.fieldAddr 149 (Operand.tmp 1) 1, none⟩,
  .one ⟨some 15, Op.load 49 (Operand.tmp 14), none⟩,
  .one ⟨some 16, Op.call { callee := Callee.value (Operand.func 152), args := #[Operand.tmp 15], argTypes := #[49] }, none⟩,
  .one ⟨some 17, Op.fieldAddr 149 (Operand.tmp 3) 1, none⟩,
  .one ⟨none, Op.store 49 (Operand.tmp 17) (Operand.tmp 13), none⟩,
  .one ⟨some 4, Op.assign (Operand.tmp 16), none⟩]
def item_Right_R6 : List Itm := [.one ⟨some 19, Op.binOp BinOp.eql 3 (Operand.tmp 9) (Operand.const (Value.int IntKind.i64 1)) 3, none⟩,
  .one ⟨some 18, Op.assign (Operand.tmp 19), none⟩]
def item_Right_R7 : List Itm := [.one ⟨some 20, Op.fieldAddr 149 (Operand.tmp 1) 2, none⟩,
  .one ⟨some 21, Op.load 143 (Operand.tmp 20), none⟩,
  .one ⟨some 22, Op.fieldAddr 149 (Operand.tmp 1) 2, none⟩,
  .one ⟨some 23, Op.load 143 (Operand.tmp 22), none⟩,
  .one ⟨some 24, Op.call { callee := Callee.value (Operand.func 201), args := #[Operand.tmp 23], argTypes := #[143] }, none⟩,
  .one ⟨some 25, Op.fieldAddr 149 (Operand.tmp 3) 2, none⟩,
  .one ⟨none, Op.store 143 (Operand.tmp 25) (Operand.tmp 21), none⟩,
  .one ⟨some 4, Op.assign (Operand.tmp 24), none⟩]
def item_Right_R8 : List Itm := [.one ⟨some 27, Op.binOp BinOp.eql 3 (Operand.tmp 9) (Operand.const (Value.int IntKind.i64 2)) 3, none⟩,
  .one ⟨some 26, Op.assign (Operand.tmp 27), none⟩]
def item_Right_R9 : List Itm := [.one ⟨some 28, Op.fieldAddr 149 (Operand.tmp 1) 3, none⟩,
  .one ⟨some 29, Op.load 145 (Operand.tmp 28), none⟩,
  .one ⟨some 30, Op.fieldAddr 149 (Operand.tmp 1) 3, none⟩,
  .one ⟨some 31, Op.load 145 (Operand.tmp 30), none⟩,
  .one ⟨some 32, Op.call { callee := Callee.value (Operand.func 202), args := #[Operand.tmp 31], argTypes := #[145] }, none⟩,
  .one ⟨some 33, Op.fieldAddr 149 (Operand.tmp 3) 3, none⟩,
  .one ⟨none, Op.store 145 (Operand.tmp 33) (Operand.tmp 29), none⟩,
  .one ⟨some 4, Op.assign (Operand.tmp 32), none⟩]
def item_Right_R10 : List Itm := [.one ⟨some 35, Op.binOp BinOp.eql 3 (Operand.tmp 9) (Operand.const (Value.int IntKind.i64 3)) 3, none⟩,
  .one ⟨some 34, Op.assign (Operand.tmp 35), none⟩]
def item_Right_R11 : List Itm := [.one ⟨some 36, Op.fieldAddr 149 (Operand.tmp 1) 4, none⟩,
  .one ⟨some 37, Op.load 147 (Operand.tmp 36), none⟩,
  .one ⟨some 38, Op.fieldAddr 149 (Operand.tmp 1) 4, none⟩,
  .one ⟨some 39, Op.load 147 (Operand.tmp 38), none⟩,
  .one ⟨some 40, Op.call { callee := Callee.value (Operand.func 203), args := #[Operand.tmp 39], argTypes := #[147] }, none⟩,
  .one ⟨some 41, Op.fieldAddr 149 (Operand.tmp 3) 4, none⟩,
  .one ⟨none, Op.store 147 (Operand.tmp 41) (Operand.tmp 37), none⟩,
  .one ⟨some 4, Op.assign (Operand.tmp 40), none⟩]
def item_Right_B0 : MCode := (.seq (.reg 4 item_Right_R4 false) (.cond (Operand.tmp 10) (.reg 5 item_Right_R5 true) (.seq (.reg 6 item_Right_R6 false) (.cond (Operand.tmp 18) (.reg 7 item_Right_R7 true) (.seq (.reg 8 item_Right_R8 false) (.cond (Operand.tmp 26) (.reg 9 item_Right_R9 true) (.seq (.reg 10 item_Right_R10 false) (.cond (Operand.tmp 34) (.reg 11 item_Right_R11 true) .skip))))))))
def item_Right_R12 : List Itm := [.one ⟨some 42, Op.move (Operand.tmp 4), none⟩,
  .one ⟨some 43, Op.move (Operand.tmp 42), none⟩,
  .blk 1 true [.one ⟨some 44, Op.load 149 (Operand.tmp 1), some (1, true)⟩,
  .one ⟨some 45, Op.load 149 (Operand.tmp 3), some (1, true)⟩,
  .one ⟨some 46, Op.call { callee := Callee.value (Operand.func 204), args := #[Operand.tmp 44, Operand.tmp 45], argTypes := #[149, 149] }, some (1, true)⟩] ⟨some 47, Op.pick (Operand.tmp 43) (Operand.tmp 46) (Operand.const (Value.bool false)), none⟩,
  .one ⟨some 2, Op.assign (Operand.tmp 47), none⟩]
def item_Right_L : MCode := (.seq (.reg 0 item_Right_R0 false) (.seq (.reg 1 item_Right_R1 false) (.seq (.reg 2 item_Right_R2 false) (.seq (.seq (.reg 3 item_Right_R3 false) (.block 0 item_Right_B0)) (.seq (.reg 12 item_Right_R12 false) .ret)))))
def item_Right_ks : Nat → List Nat := fun i => match i with
  | 5 => [0, 0, 0, 0, 0, 0, 2, 0]
  | 7 => [0, 0, 0, 0, 0, 0, 2, 0]
  | 9 => [0, 0, 0, 0, 0, 0, 2, 0]
  | 11 => [0, 0, 0, 0, 0, 0, 2, 0]
  | _ => []
theorem item_Right_hl : Tryz.f162.body.map light = some item_Right_L.flat := by kernel_rfl
theorem item_Right_hk : item_Right_L.ok = true := by kernel_rfl
theorem item_Right_hb : Tryz.f162.body.map (codeB 48 item_Right_ks) = some true := by kernel_rfl
theorem item_Right_hr : Tryz.f162.results.toList = [ResultVar.tmp 2] := rfl
theorem item_Right_hn : fnB Tryz.prog 162 = true := by kernel_rfl
theorem item_Right_pu {args : List V} {st : List SO} {res : V} (an : Ann) (ha : args.length ≤ 48) (hres : noRef res = true) (h : wpM ⟨Tryz.prog, GW, 48, st.length⟩ an item_Right_ks item_Right_L (argE args 0) st (EndsP ⟨Tryz.prog, GW, 48, st.length⟩ [ResultVar.tmp 2] res st)) : FnOK Tryz.prog GW 162 args st res st :=
  fn_pure Tryz.func162 item_Right_hr item_Right_hl item_Right_hk item_Right_hb rfl item_Right_hn an ha hres h
/-! agora/ident.Name -/
def ident_Name_R0 : List Itm := [.one ⟨some 2, Op.assign (Operand.const (Value.bool false)), none⟩]
def ident_Name_R1 : List Itm := [.one ⟨some 7, Op.move (Operand.tmp 0), none⟩,
  .one ⟨some 8, Op.range 9 (Operand.tmp 7), none⟩]
def ident_Name_R2 : List Itm := [.one ⟨some 9, Op.next (Operand.tmp 8) true, none⟩,
  .one ⟨some 10, Op.extract (Operand.tmp 9) 0, none⟩]
def ident_Name_R3 : List Itm := [.one ⟨some 11, Op.extract (Operand.tmp 9) 1, none⟩,
  .one ⟨some 12, Op.extract (Operand.tmp 9) 2, none⟩,
  .one ⟨some 3, Op.assign (Operand.tmp 11), none⟩,
  .one ⟨some 4, Op.assign (Operand.tmp 12), none⟩]
def ident_Name_R4 : List Itm := [.one ⟨some 13, Op.move (Operand.tmp 4), none⟩,
  .one ⟨some 14, Op.binOp BinOp.geq 21 (Operand.tmp 13) (Operand.const (Value.int IntKind.i32 97)) 21, none⟩,
  .one ⟨some 15, Op.move (Operand.tmp 14), none⟩,
  .blk 2 true [.one ⟨some 16, Op.move (Operand.tmp 4), some (2, true)⟩,
  .one ⟨some 17, Op.binOp BinOp.leq 21 (Operand.tmp 16) (Operand.const (Value.int IntKind.i32 122)) 21, some (2, true)⟩] ⟨some 18, Op.pick (Operand.tmp 15) (Operand.tmp 17) (Operand.const (Value.bool false)), none⟩,
  .one ⟨some 5, Op.assign (Operand.tmp 18), none⟩]
def ident_Name_R5 : List Itm := [.one ⟨some 19, Op.move (Operand.tmp 4), none⟩,
  .one ⟨some 20, Op.binOp BinOp.geq 21 (Operand.tmp 19) (Operand.const (Value.int IntKind.i32 48)) 21, none⟩,
  .one ⟨some 21, Op.move (Operand.tmp 20), none⟩,
  .blk 2 true [.one ⟨some 22, Op.move (Operand.tmp 4), some (2, true)⟩,
  .one ⟨some 23, Op.binOp BinOp.leq 21 (Operand.tmp 22) (Operand.const (Value.int IntKind.i32 57)) 21, some (2, true)⟩] ⟨some 24, Op.pick (Operand.tmp 21) (Operand.tmp 23) (Operand.const (Value.bool false)), none⟩,
  .one ⟨some 25, Op.move (Operand.tmp 24), none⟩,
  .blk 6 false [.one ⟨some 26, Op.move (Operand.tmp 4), some (6, false)⟩,
  .one ⟨some 27, Op.binOp BinOp.eql 21 (Operand.tmp 26) (Operand.const (Value.int IntKind.i32 95)) 21, some (6, false)⟩] ⟨some 28, Op.pick (Operand.tmp 25) (Operand.const (Value.bool true)) (Operand.tmp 27), none⟩,
  .one ⟨some 6, Op.assign (Operand.tmp 28), none⟩]
def ident_Name_R6 : List Itm := [.one ⟨some 29, Op.move (Operand.tmp 5), none⟩,
  .one ⟨some 30, Op.unOp UnOp.not 4 (Operand.tmp 29), none⟩,
  .one ⟨some 31, Op.move (Operand.tmp 30), none⟩,
  .blk 2 true [.one ⟨some 32, Op.move (Operand.tmp 3), some (2, true)⟩,
  .one ⟨some 33, Op.binOp BinOp.eql 3 (Operand.tmp 32) (Operand.const (Value.int IntKind.i64 0)) 3, some (2, true)⟩,
  .one ⟨some 34, Op.move (Operand.tmp 33), some (2, true)⟩,
  .blk 5 false [.one ⟨some 35, Op.move (Operand.tmp 6), some (5, false)⟩,
  .one ⟨some 36, Op.unOp UnOp.not 4 (Operand.tmp 35), some (5, false)⟩] ⟨some 37, Op.pick (Operand.tmp 34) (Operand.const (Value.bool true)) (Operand.tmp 36), some (2, true)⟩] ⟨some 38, Op.pick (Operand.tmp 31) (Operand.tmp 37) (Operand.const (Value.bool false)), none⟩]
def ident_Name_R7 : List Itm := [.one ⟨some 2, Op.assign (Operand.const (Value.bool false)), none⟩]
def ident_Name_B1 : MCode := (.seq (.reg 3 ident_Name_R3 false) (.seq (.reg 4 ident_Name_R4 false) (.seq (.reg 5 ident_Name_R5 false) (.seq (.reg 6 ident_Name_R6 false) (.cond (Operand.tmp 38) (.seq (.reg 7 ident_Name_R7 false) .ret) .skip)))))
def ident_Name_W1 : MCode := (.seq (.reg 2 ident_Name_R2 false) (.seq (.cond (Operand.tmp 10) .skip (.exit 0)) (.block 1 ident_Name_B1)))
def ident_Name_B0 : MCode := (.loop ident_Name_W1)
def ident_Name_R8 : List Itm := [.one ⟨some 39, Op.move (Operand.tmp 0), none⟩,
  .one ⟨some 40, Op.binOp BinOp.neq 9 (Operand.tmp 39) (Operand.const (Value.string { data := #[] })) 9, none⟩,
  .one ⟨some 41, Op.move (Operand.tmp 40), none⟩,
  .blk 2 true [.one ⟨some 42, Op.move (Operand.tmp 0), some (2, true)⟩,
  .one ⟨some 43, Op.call { callee := Callee.builtin Builtin.len, args := #[Operand.tmp 42], argTypes := #[9] }, some (2, true)⟩,
  .one ⟨some 44, Op.binOp BinOp.leq 3 (Operand.tmp 43) (Operand.const (Value.int IntKind.i64 24)) 3, some (2, true)⟩] ⟨some 45, Op.pick (Operand.tmp 41) (Operand.tmp 44) (Operand.const (Value.bool false)), none⟩,
  .one ⟨some 2, Op.assign (Operand.tmp 45), none⟩]
def ident_Name_L : MCode := (.seq (.reg 0 ident_Name_R0 false) (.seq (.seq (.reg 1 ident_Name_R1 false) (.block 0 ident_Name_B0)) (.seq (.reg 8 ident_Name_R8 false) .ret)))
def ident_Name_ks : Nat → List Nat := fun i => match i with
  | _ => []
theorem ident_Name_hl : Tryz.f284.body.map light = some ident_Name_L.flat := by kernel_rfl
theorem ident_Name_hk : ident_Name_L.ok = true := by kernel_rfl
theorem ident_Name_hb : Tryz.f284.body.map (codeB 46 ident_Name_ks) = some true := by kernel_rfl
theorem ident_Name_hr : Tryz.f284.results.toList = [ResultVar.tmp 2] := rfl
theorem ident_Name_hn : fnB Tryz.prog 284 = true := by kernel_rfl
theorem ident_Name_pu {args : List V} {st : List SO} {res : V} (an : Ann) (ha : args.length ≤ 46) (hres : noRef res = true) (h : wpM ⟨Tryz.prog, GW, 46, st.length⟩ an ident_Name_ks ident_Name_L (argE args 0) st (EndsP ⟨Tryz.prog, GW, 46, st.length⟩ [ResultVar.tmp 2] res st)) : FnOK Tryz.prog GW 284 args st res st :=
  fn_pure Tryz.func284 ident_Name_hr ident_Name_hl ident_Name_hk ident_Name_hb rfl ident_Name_hn an ha hres h
/-! agora/act.isPublic -/
def act_isPublic_R0 : List Itm := [.one ⟨some 2, Op.assign (Operand.const (Value.bool false)), none⟩]
def act_isPublic_R1 : List Itm := [.one ⟨some 3, Op.move (Operand.tmp 0), none⟩,
  .one ⟨some 4, Op.call { callee := Callee.value (Operand.func 189), args := #[Operand.tmp 3, Operand.const (Value.int IntKind.i64 1), Operand.const (Value.int IntKind.i64 2305843009213693950)], argTypes := #[3, 3, 3] }, none⟩,
  .one ⟨some 2, Op.assign (Operand.tmp 4), none⟩]
def act_isPublic_L : MCode := (.seq (.reg 0 act_isPublic_R0 false) (.seq (.reg 1 act_isPublic_R1 false) .ret))
def act_isPublic_ks : Nat → List Nat := fun i => match i with
  | _ => []
theorem act_isPublic_hl : Tryz.f285.body.map light = some act_isPublic_L.flat := by kernel_rfl
theorem act_isPublic_hk : act_isPublic_L.ok = true := by kernel_rfl
theorem act_isPublic_hb : Tryz.f285.body.map (codeB 5 act_isPublic_ks) = some true := by kernel_rfl
theorem act_isPublic_hr : Tryz.f285.results.toList = [ResultVar.tmp 2] := rfl
theorem act_isPublic_hn : fnB Tryz.prog 285 = true := by kernel_rfl
theorem act_isPublic_pu {args : List V} {st : List SO} {res : V} (an : Ann) (ha : args.length ≤ 5) (hres : noRef res = true) (h : wpM ⟨Tryz.prog, GW, 5, st.length⟩ an act_isPublic_ks act_isPublic_L (argE args 0) st (EndsP ⟨Tryz.prog, GW, 5, st.length⟩ [ResultVar.tmp 2] res st)) : FnOK Tryz.prog GW 285 args st res st :=
  fn_pure Tryz.func285 act_isPublic_hr act_isPublic_hl act_isPublic_hk act_isPublic_hb rfl act_isPublic_hn an ha hres h
/-! agora/act.audience -/
def act_audience_R0 : List Itm := [.one ⟨some 1, Op.box 49 (Operand.tmp 0), none⟩,
  .one ⟨some 2, Op.assign (Operand.const (Value.bool false)), none⟩]
def act_audience_R1 : List Itm := [.one ⟨some 3, Op.fieldAddr 49 (Operand.tmp 1) 9, none⟩,
  .one ⟨some 4, Op.load 23 (Operand.tmp 3), none⟩,
  .one ⟨some 5, Op.call { callee := Callee.value (Operand.func 226), args := #[Operand.tmp 4], argTypes := #[23] }, none⟩,
  .one ⟨some 6, Op.unOp UnOp.not 4 (Operand.tmp 5), none⟩]
def act_audience_R2 : List Itm := [.one ⟨some 2, Op.assign (Operand.const (Value.bool false)), none⟩]
def act_audience_R3 : List Itm := [.one ⟨some 7, Op.fieldAddr 49 (Operand.tmp 1) 7, none⟩,
  .one ⟨some 8, Op.load 3 (Operand.tmp 7), none⟩,
  .one ⟨some 9, Op.binOp BinOp.eql 3 (Operand.tmp 8) (Operand.const (Value.int IntKind.i64 0)) 3, none⟩]
def act_audience_R4 : List Itm := [.one ⟨some 10, Op.fieldAddr 49 (Operand.tmp 1) 8, none⟩,
  .one ⟨some 11, Op.load 9 (Operand.tmp 10), none⟩,
  .one ⟨some 12, Op.binOp BinOp.eql 9 (Operand.tmp 11) (Operand.const (Value.string { data := #[] })) 9, none⟩,
  .one ⟨some 13, Op.move (Operand.tmp 12), none⟩,
  .blk 3 true [.one ⟨some 14, Op.fieldAddr 49 (Operand.tmp 1) 12, some (3, true)⟩,
  .one ⟨some 15, Op.load 3 (Operand.tmp 14), some (3, true)⟩,
  .one ⟨some 16, Op.binOp BinOp.eql 3 (Operand.tmp 15) (Operand.const (Value.int IntKind.i64 0)) 3, some (3, true)⟩] ⟨some 17, Op.pick (Operand.tmp 13) (Operand.tmp 16) (Operand.const (Value.bool false)), none⟩,
  .one ⟨some 18, Op.move (Operand.tmp 17), none⟩,
  .blk 8 true [.one ⟨some 19, Op.fieldAddr 49 (Operand.tmp 1) 10, some (8, true)⟩,
  .one ⟨some 20, Op.load 9 (Operand.tmp 19), some (8, true)⟩,
  .one ⟨some 21, Op.call { callee := Callee.value (Operand.func 297), args := #[Operand.tmp 20], argTypes := #[9] }, some (8, true)⟩] ⟨some 22, Op.pick (Operand.tmp 18) (Operand.tmp 21) (Operand.const (Value.bool false)), none⟩,
  .one ⟨some 23, Op.move (Operand.tmp 22), none⟩,
  .blk 13 true [.one ⟨some 24, Op.fieldAddr 49 (Operand.tmp 1) 11, some (13, true)⟩,
  .one ⟨some 25, Op.load 44 (Operand.tmp 24), some (13, true)⟩,
  .one ⟨some 26, Op.build 44 #[], some (13, true)⟩,
  .one ⟨some 27, Op.binOp BinOp.eql 44 (Operand.tmp 25) (Operand.tmp 26) 44, some (13, true)⟩] ⟨some 28, Op.pick (Operand.tmp 23) (Operand.tmp 27) (Operand.const (Value.bool false)), none⟩,
  .one ⟨some 2, Op.assign (Operand.tmp 28), none⟩]
def act_audience_R5 : List Itm := [.one ⟨some 29, Op.load 49 (Operand.tmp 1), none⟩,
  .one ⟨some 30, Op.call { callee := Callee.value (Operand.func 290), args := #[Operand.tmp 29], argTypes := #[49] }, none⟩,
  .one ⟨some 31, Op.move (Operand.tmp 30), none⟩,
  .blk 2 true [.one ⟨some 32, Op.fieldAddr 49 (Operand.tmp 1) 12, some (2, true)⟩,
  .one ⟨some 33, Op.load 3 (Operand.tmp 32), some (2, true)⟩,
  .one ⟨some 34, Op.call { callee := Callee.value (Operand.func 189), args := #[Operand.tmp 33, Operand.const (Value.int IntKind.i64 0), Operand.const (Value.int IntKind.i64 1073741824)], argTypes := #[3, 3, 3] }, some (2, true)⟩] ⟨some 35, Op.pick (Operand.tmp 31) (Operand.tmp 34) (Operand.const (Value.bool false)), none⟩,
  .one ⟨some 36, Op.move (Operand.tmp 35), none⟩,
  .blk 7 true [.one ⟨some 37, Op.fieldAddr 49 (Operand.tmp 1) 10, some (7, true)⟩,
  .one ⟨some 38, Op.load 9 (Operand.tmp 37), some (7, true)⟩,
  .one ⟨some 39, Op.binOp BinOp.eql 9 (Operand.tmp 38) (Operand.const (Value.string { data := #[] })) 9, some (7, true)⟩] ⟨some 40, Op.pick (Operand.tmp 36) (Operand.tmp 39) (Operand.const (Value.bool false)), none⟩,
  .one ⟨some 41, Op.move (Operand.tmp 40), none⟩,
  .blk 12 true [.one ⟨some 42, Op.fieldAddr 49 (Operand.tmp 1) 11, some (12, true)⟩,
  .one ⟨some 43, Op.load 44 (Operand.tmp 42), some (12, true)⟩,
  .one ⟨some 44, Op.call { callee := Callee.value (Operand.func 298), args := #[Operand.tmp 43], argTypes := #[44] }, some (12, true)⟩] ⟨some 45, Op.pick (Operand.tmp 41) (Operand.tmp 44) (Operand.const (Value.bool false)), none⟩,
  .one ⟨some 46, Op.move (Operand.tmp 45), none⟩,
  .blk 17 true [.one ⟨some 47, Op.fieldAddr 49 (Operand.tmp 1) 9, some (17, true)⟩,
  .one ⟨some 48, Op.load 23 (Operand.tmp 47), some (17, true)⟩,
  .one ⟨some 49, Op.call { callee := Callee.builtin Builtin.len, args := #[Operand.tmp 48], argTypes := #[23] }, some (17, true)⟩,
  .one ⟨some 50, Op.binOp BinOp.eql 3 (Operand.tmp 49) (Operand.const (Value.int IntKind.i64 0)) 3, some (17, true)⟩,
  .one ⟨some 51, Op.move (Operand.tmp 50), some (17, true)⟩,
  .blk 22 false [.one ⟨some 52, Op.fieldAddr 49 (Operand.tmp 1) 7, some (22, false)⟩,
  .one ⟨some 53, Op.load 3 (Operand.tmp 52), some (22, false)⟩,
  .one ⟨some 54, Op.binOp BinOp.eql 3 (Operand.tmp 53) (Operand.const (Value.int IntKind.i64 3)) 3, some (22, false)⟩] ⟨some 55, Op.pick (Operand.tmp 51) (Operand.const (Value.bool true)) (Operand.tmp 54), some (17, true)⟩] ⟨some 56, Op.pick (Operand.tmp 46) (Operand.tmp 55) (Operand.const (Value.bool false)), none⟩,
  .one ⟨some 2, Op.assign (Operand.tmp 56), none⟩]
def act_audience_L : MCode := (.seq (.reg 0 act_audience_R0 false) (.seq (.seq (.reg 1 act_audience_R1 false) (.cond (Operand.tmp 6) (.seq (.reg 2 act_audience_R2 false) .ret) .skip)) (.seq (.seq (.reg 3 act_audience_R3 false) (.cond (Operand.tmp 9) (.seq (.reg 4 act_audience_R4 false) .ret) .skip)) (.seq (.reg 5 act_audience_R5 false) .ret))))
def act_audience_ks : Nat → List Nat := fun i => match i with
  | _ => []
theorem act_audience_hl : Tryz.f286.body.map light = some act_audience_L.flat := by kernel_rfl
theorem act_audience_hk : act_audience_L.ok = true := by kernel_rfl
theorem act_audience_hb : Tryz.f286.body.map (codeB 57 act_audience_ks) = some true := by kernel_rfl
theorem act_audience_hr : Tryz.f286.results.toList = [ResultVar.tmp 2] := rfl
theorem act_audience_hn : fnB Tryz.prog 286 = true := by kernel_rfl
theorem act_audience_pu {args : List V} {st : List SO} {res : V} (an : Ann) (ha : args.length ≤ 57) (hres : noRef res = true) (h : wpM ⟨Tryz.prog, GW, 57, st.length⟩ an act_audience_ks act_audience_L (argE args 0) st (EndsP ⟨Tryz.prog, GW, 57, st.length⟩ [ResultVar.tmp 2] res st)) : FnOK Tryz.prog GW 286 args st res st :=
  fn_pure Tryz.func286 act_audience_hr act_audience_hl act_audience_hk act_audience_hb rfl act_audience_hn an ha hres h
/-! agora/act.reason -/
def act_reason_R0 : List Itm := [.one ⟨some 1, Op.box 49 (Operand.tmp 0), none⟩,
  .one ⟨some 2, Op.assign (Operand.const (Value.bool false)), none⟩]
def act_reason_R1 : List Itm := [.one ⟨some 3, Op.fieldAddr 49 (Operand.tmp 1) 10, none⟩,
  .one ⟨some 4, Op.load 9 (Operand.tmp 3), none⟩,
  .one ⟨some 5, Op.call { callee := Callee.value (Operand.func 297), args := #[Operand.tmp 4], argTypes := #[9] }, none⟩,
  .one ⟨some 2, Op.assign (Operand.tmp 5), none⟩]
def act_reason_L : MCode := (.seq (.reg 0 act_reason_R0 false) (.seq (.reg 1 act_reason_R1 false) .ret))
def act_reason_ks : Nat → List Nat := fun i => match i with
  | _ => []
theorem act_reason_hl : Tryz.f287.body.map light = some act_reason_L.flat := by kernel_rfl
theorem act_reason_hk : act_reason_L.ok = true := by kernel_rfl
theorem act_reason_hb : Tryz.f287.body.map (codeB 6 act_reason_ks) = some true := by kernel_rfl
theorem act_reason_hr : Tryz.f287.results.toList = [ResultVar.tmp 2] := rfl
theorem act_reason_hn : fnB Tryz.prog 287 = true := by kernel_rfl
theorem act_reason_pu {args : List V} {st : List SO} {res : V} (an : Ann) (ha : args.length ≤ 6) (hres : noRef res = true) (h : wpM ⟨Tryz.prog, GW, 6, st.length⟩ an act_reason_ks act_reason_L (argE args 0) st (EndsP ⟨Tryz.prog, GW, 6, st.length⟩ [ResultVar.tmp 2] res st)) : FnOK Tryz.prog GW 287 args st res st :=
  fn_pure Tryz.func287 act_reason_hr act_reason_hl act_reason_hk act_reason_hb rfl act_reason_hn an ha hres h
/-! agora/act.kinds$1 -/
def act_kinds_1_R0 : List Itm := [.one ⟨some 1, Op.box 49 (Operand.tmp 0), none⟩,
  .one ⟨some 2, Op.assign (Operand.const (Value.bool false)), none⟩]
def act_kinds_1_R1 : List Itm := [.one ⟨some 3, Op.fieldAddr 49 (Operand.tmp 1) 10, none⟩,
  .one ⟨some 4, Op.load 9 (Operand.tmp 3), none⟩,
  .one ⟨some 5, Op.call { callee := Callee.value (Operand.func 284), args := #[Operand.tmp 4], argTypes := #[9] }, none⟩,
  .one ⟨some 6, Op.move (Operand.tmp 5), none⟩,
  .blk 3 true [.one ⟨some 7, Op.fieldAddr 49 (Operand.tmp 1) 14, some (3, true)⟩,
  .one ⟨some 8, Op.load 3 (Operand.tmp 7), some (3, true)⟩,
  .one ⟨some 9, Op.call { callee := Callee.value (Operand.func 285), args := #[Operand.tmp 8], argTypes := #[3] }, some (3, true)⟩] ⟨some 10, Op.pick (Operand.tmp 6) (Operand.tmp 9) (Operand.const (Value.bool false)), none⟩,
  .one ⟨some 11, Op.move (Operand.tmp 10), none⟩,
  .blk 8 true [.one ⟨some 12, Op.fieldAddr 49 (Operand.tmp 1) 15, some (8, true)⟩,
  .one ⟨some 13, Op.load 3 (Operand.tmp 12), some (8, true)⟩,
  .one ⟨some 14, Op.call { callee := Callee.value (Operand.func 189), args := #[Operand.tmp 13, Operand.const (Value.int IntKind.i64 0), Operand.const (Value.int IntKind.i64 19)], argTypes := #[3, 3, 3] }, some (8, true)⟩] ⟨some 15, Op.pick (Operand.tmp 11) (Operand.tmp 14) (Operand.const (Value.bool false)), none⟩,
  .one ⟨some 2, Op.assign (Operand.tmp 15), none⟩]
def act_kinds_1_L : MCode := (.seq (.reg 0 act_kinds_1_R0 false) (.seq (.reg 1 act_kinds_1_R1 false) .ret))
def act_kinds_1_ks : Nat → List Nat := fun i => match i with
  | _ => []
theorem act_kinds_1_hl : Tryz.f283.body.map light = some act_kinds_1_L.flat := by kernel_rfl
theorem act_kinds_1_hk : act_kinds_1_L.ok = true := by kernel_rfl
theorem act_kinds_1_hb : Tryz.f283.body.map (codeB 16 act_kinds_1_ks) = some true := by kernel_rfl
theorem act_kinds_1_hr : Tryz.f283.results.toList = [ResultVar.tmp 2] := rfl
theorem act_kinds_1_hn : fnB Tryz.prog 283 = true := by kernel_rfl
theorem act_kinds_1_pu {args : List V} {st : List SO} {res : V} (an : Ann) (ha : args.length ≤ 16) (hres : noRef res = true) (h : wpM ⟨Tryz.prog, GW, 16, st.length⟩ an act_kinds_1_ks act_kinds_1_L (argE args 0) st (EndsP ⟨Tryz.prog, GW, 16, st.length⟩ [ResultVar.tmp 2] res st)) : FnOK Tryz.prog GW 283 args st res st :=
  fn_pure Tryz.func283 act_kinds_1_hr act_kinds_1_hl act_kinds_1_hk act_kinds_1_hb rfl act_kinds_1_hn an ha hres h
/-! agora/act.kinds$2 -/
def act_kinds_2_R0 : List Itm := [.one ⟨some 1, Op.box 49 (Operand.tmp 0), none⟩,
  .one ⟨some 2, Op.assign (Operand.const (Value.bool false)), none⟩]
def act_kinds_2_R1 : List Itm := [.one ⟨some 3, Op.fieldAddr 49 (Operand.tmp 1) 8, none⟩,
  .one ⟨some 4, Op.load 9 (Operand.tmp 3), none⟩,
  .one ⟨some 5, Op.call { callee := Callee.value (Operand.func 284), args := #[Operand.tmp 4], argTypes := #[9] }, none⟩,
  .one ⟨some 6, Op.move (Operand.tmp 5), none⟩,
  .blk 3 true [.one ⟨some 7, Op.fieldAddr 49 (Operand.tmp 1) 9, some (3, true)⟩,
  .one ⟨some 8, Op.load 23 (Operand.tmp 7), some (3, true)⟩,
  .one ⟨some 9, Op.call { callee := Callee.value (Operand.func 226), args := #[Operand.tmp 8], argTypes := #[23] }, some (3, true)⟩] ⟨some 10, Op.pick (Operand.tmp 6) (Operand.tmp 9) (Operand.const (Value.bool false)), none⟩,
  .one ⟨some 2, Op.assign (Operand.tmp 10), none⟩]
def act_kinds_2_L : MCode := (.seq (.reg 0 act_kinds_2_R0 false) (.seq (.reg 1 act_kinds_2_R1 false) .ret))
def act_kinds_2_ks : Nat → List Nat := fun i => match i with
  | _ => []
theorem act_kinds_2_hl : Tryz.f288.body.map light = some act_kinds_2_L.flat := by kernel_rfl
theorem act_kinds_2_hk : act_kinds_2_L.ok = true := by kernel_rfl
theorem act_kinds_2_hb : Tryz.f288.body.map (codeB 11 act_kinds_2_ks) = some true := by kernel_rfl
theorem act_kinds_2_hr : Tryz.f288.results.toList = [ResultVar.tmp 2] := rfl
theorem act_kinds_2_hn : fnB Tryz.prog 288 = true := by kernel_rfl
theorem act_kinds_2_pu {args : List V} {st : List SO} {res : V} (an : Ann) (ha : args.length ≤ 11) (hres : noRef res = true) (h : wpM ⟨Tryz.prog, GW, 11, st.length⟩ an act_kinds_2_ks act_kinds_2_L (argE args 0) st (EndsP ⟨Tryz.prog, GW, 11, st.length⟩ [ResultVar.tmp 2] res st)) : FnOK Tryz.prog GW 288 args st res st :=
  fn_pure Tryz.func288 act_kinds_2_hr act_kinds_2_hl act_kinds_2_hk act_kinds_2_hb rfl act_kinds_2_hn an ha hres h
/-! agora/act.kinds$3 -/
def act_kinds_3_R0 : List Itm := [.one ⟨some 1, Op.box 49 (Operand.tmp 0), none⟩,
  .one ⟨some 2, Op.assign (Operand.const (Value.bool false)), none⟩]
def act_kinds_3_R1 : List Itm := [.one ⟨some 3, Op.load 49 (Operand.tmp 1), none⟩,
  .one ⟨some 4, Op.call { callee := Callee.value (Operand.func 290), args := #[Operand.tmp 3], argTypes := #[49] }, none⟩,
  .one ⟨some 5, Op.move (Operand.tmp 4), none⟩,
  .blk 2 true [.one ⟨some 6, Op.fieldAddr 49 (Operand.tmp 1) 12, some (2, true)⟩,
  .one ⟨some 7, Op.load 3 (Operand.tmp 6), some (2, true)⟩,
  .one ⟨some 8, Op.call { callee := Callee.value (Operand.func 189), args := #[Operand.tmp 7, Operand.const (Value.int IntKind.i64 0), Operand.const (Value.int IntKind.i64 1073741824)], argTypes := #[3, 3, 3] }, some (2, true)⟩] ⟨some 9, Op.pick (Operand.tmp 5) (Operand.tmp 8) (Operand.const (Value.bool false)), none⟩,
  .one ⟨some 10, Op.move (Operand.tmp 9), none⟩,
  .blk 7 true [.one ⟨some 11, Op.fieldAddr 49 (Operand.tmp 1) 9, some (7, true)⟩,
  .one ⟨some 12, Op.load 23 (Operand.tmp 11), some (7, true)⟩,
  .one ⟨some 13, Op.call { callee := Callee.value (Operand.func 226), args := #[Operand.tmp 12], argTypes := #[23] }, some (7, true)⟩] ⟨some 14, Op.pick (Operand.tmp 10) (Operand.tmp 13) (Operand.const (Value.bool false)), none⟩,
  .one ⟨some 15, Op.move (Operand.tmp 14), none⟩,
  .blk 12 true [.one ⟨some 16, Op.load 49 (Operand.tmp 1), some (12, true)⟩,
  .one ⟨some 17, Op.call { callee := Callee.value (Operand.func 291), args := #[Operand.tmp 16], argTypes := #[49] }, some (12, true)⟩] ⟨some 18, Op.pick (Operand.tmp 15) (Operand.tmp 17) (Operand.const (Value.bool false)), none⟩,
  .one ⟨some 19, Op.move (Operand.tmp 18), none⟩,
  .blk 16 true [.one ⟨some 20, Op.fieldAddr 49 (Operand.tmp 1) 10, some (16, true)⟩,
  .one ⟨some 21, Op.load 9 (Operand.tmp 20), some (16, true)⟩,
  .one ⟨some 22, Op.binOp BinOp.eql 9 (Operand.tmp 21) (Operand.const (Value.string { data := #[] })) 9, some (16, true)⟩] ⟨some 23, Op.pick (Operand.tmp 19) (Operand.tmp 22) (Operand.const (Value.bool false)), none⟩,
  .one ⟨some 24, Op.move (Operand.tmp 23), none⟩,
  .blk 21 true [.one ⟨some 25, Op.fieldAddr 49 (Operand.tmp 1) 11, some (21, true)⟩,
  .one ⟨some 26, Op.load 44 (Operand.tmp 25), some (21, true)⟩,
  .one ⟨some 27, Op.build 44 #[], some (21, true)⟩,
  .one ⟨some 28, Op.binOp BinOp.eql 44 (Operand.tmp 26) (Operand.tmp 27) 44, some (21, true)⟩] ⟨some 29, Op.pick (Operand.tmp 24) (Operand.tmp 28) (Operand.const (Value.bool false)), none⟩,
  .one ⟨some 2, Op.assign (Operand.tmp 29), none⟩]
def act_kinds_3_L : MCode := (.seq (.reg 0 act_kinds_3_R0 false) (.seq (.reg 1 act_kinds_3_R1 false) .ret))
def act_kinds_3_ks : Nat → List Nat := fun i => match i with
  | _ => []
theorem act_kinds_3_hl : Tryz.f289.body.map light = some act_kinds_3_L.flat := by kernel_rfl
theorem act_kinds_3_hk : act_kinds_3_L.ok = true := by kernel_rfl
theorem act_kinds_3_hb : Tryz.f289.body.map (codeB 30 act_kinds_3_ks) = some true := by kernel_rfl
theorem act_kinds_3_hr : Tryz.f289.results.toList = [ResultVar.tmp 2] := rfl
theorem act_kinds_3_hn : fnB Tryz.prog 289 = true := by kernel_rfl
theorem act_kinds_3_pu {args : List V} {st : List SO} {res : V} (an : Ann) (ha : args.length ≤ 30) (hres : noRef res = true) (h : wpM ⟨Tryz.prog, GW, 30, st.length⟩ an act_kinds_3_ks act_kinds_3_L (argE args 0) st (EndsP ⟨Tryz.prog, GW, 30, st.length⟩ [ResultVar.tmp 2] res st)) : FnOK Tryz.prog GW 289 args st res st :=
  fn_pure Tryz.func289 act_kinds_3_hr act_kinds_3_hl act_kinds_3_hk act_kinds_3_hb rfl act_kinds_3_hn an ha hres h
/-! agora/act.grouped -/
def act_grouped_R0 : List Itm := [.one ⟨some 1, Op.box 49 (Operand.tmp 0), none⟩,
  .one ⟨some 2, Op.assign (Operand.const (Value.bool false)), none⟩]
def act_grouped_R1 : List Itm := [.one ⟨some 3, Op.fieldAddr 49 (Operand.tmp 1) 7, none⟩,
  .one ⟨some 4, Op.load 3 (Operand.tmp 3), none⟩]
def act_grouped_R2 : List Itm := [.one ⟨some 6, Op.binOp BinOp.eql 3 (Operand.tmp 4) (Operand.const (Value.int IntKind.i64 2)) 3, none⟩,
  .one ⟨some 5, Op.assign (Operand.tmp 6), none⟩]
def act_grouped_R3 : List Itm := [.one ⟨some 7, Op.fieldAddr 49 (Operand.tmp 1) 8, none⟩,
  .one ⟨some 8, Op.load 9 (Operand.tmp 7), none⟩,
  .one ⟨some 9, Op.call { callee := Callee.value (Operand.func 284), args := #[Operand.tmp 8], argTypes := #[9] }, none⟩,
  .one ⟨some 2, Op.assign (Operand.tmp 9), none⟩]
def act_grouped_R4 : List Itm := [.one ⟨some 11, Op.binOp BinOp.eql 3 (Operand.tmp 4) (Operand.const (Value.int IntKind.i64 1)) 3, none⟩,
  .one ⟨some 10, Op.assign (Operand.tmp 11), none⟩]
def act_grouped_R5 : List Itm := [.one ⟨some 12, Op.binOp BinOp.eql 3 (Operand.tmp 4) (Operand.const (Value.int IntKind.i64 3)) 3, none⟩,
  .one ⟨some 10, Op.assign (Operand.tmp 12), none⟩]
def act_grouped_R6 : List Itm := [.one ⟨some 13, Op.fieldAddr 49 (Operand.tmp 1) 8, none⟩,
  .one ⟨some 14, Op.load 9 (Operand.tmp 13), none⟩,
  .one ⟨some 15, Op.binOp BinOp.eql 9 (Operand.tmp 14) (Operand.const (Value.string { data := #[] })) 9, none⟩,
  .one ⟨some 2, Op.assign (Operand.tmp 15), none⟩]
def act_grouped_B0 : MCode := (.seq (.reg 2 act_grouped_R2 false) (.cond (Operand.tmp 5) (.seq (.reg 3 act_grouped_R3 false) .ret) (.seq (.seq (.reg 4 act_grouped_R4 false) (.cond (Operand.tmp 10) .skip (.reg 5 act_grouped_R5 false))) (.cond (Operand.tmp 10) (.seq (.reg 6 act_grouped_R6 false) .ret) .skip))))
def act_grouped_R7 : List Itm := [.one ⟨some 2, Op.assign (Operand.const (Value.bool false)), none⟩]
def act_grouped_L : MCode := (.seq (.reg 0 act_grouped_R0 false) (.seq (.seq (.reg 1 act_grouped_R1 false) (.block 0 act_grouped_B0)) (.seq (.reg 7 act_grouped_R7 false) .ret)))
def act_grouped_ks : Nat → List Nat := fun i => match i with
  | _ => []
theorem act_grouped_hl : Tryz.f290.body.map light = some act_grouped_L.flat := by kernel_rfl
theorem act_grouped_hk : act_grouped_L.ok = true := by kernel_rfl
theorem act_grouped_hb : Tryz.f290.body.map (codeB 16 act_grouped_ks) = some true := by kernel_rfl
theorem act_grouped_hr : Tryz.f290.results.toList = [ResultVar.tmp 2] := rfl
theorem act_grouped_hn : fnB Tryz.prog 290 = true := by kernel_rfl
theorem act_grouped_pu {args : List V} {st : List SO} {res : V} (an : Ann) (ha : args.length ≤ 16) (hres : noRef res = true) (h : wpM ⟨Tryz.prog, GW, 16, st.length⟩ an act_grouped_ks act_grouped_L (argE args 0) st (EndsP ⟨Tryz.prog, GW, 16, st.length⟩ [ResultVar.tmp 2] res st)) : FnOK Tryz.prog GW 290 args st res st :=
  fn_pure Tryz.func290 act_grouped_hr act_grouped_hl act_grouped_hk act_grouped_hb rfl act_grouped_hn an ha hres h
/-! agora/act.wraps -/
def act_wraps_R0 : List Itm := [.one ⟨some 1, Op.box 49 (Operand.tmp 0), none⟩,
  .one ⟨some 2, Op.assign (Operand.const (Value.bool false)), none⟩]
def act_wraps_R1 : List Itm := [.one ⟨some 3, Op.fieldAddr 49 (Operand.tmp 1) 13, none⟩,
  .one ⟨some 4, Op.load 45 (Operand.tmp 3), none⟩,
  .one ⟨some 5, Op.call { callee := Callee.builtin Builtin.len, args := #[Operand.tmp 4], argTypes := #[45] }, none⟩,
  .one ⟨some 6, Op.fieldAddr 49 (Operand.tmp 1) 9, none⟩,
  .one ⟨some 7, Op.load 23 (Operand.tmp 6), none⟩,
  .one ⟨some 8, Op.call { callee := Callee.builtin Builtin.len, args := #[Operand.tmp 7], argTypes := #[23] }, none⟩,
  .one ⟨some 9, Op.binOp BinOp.eql 3 (Operand.tmp 5) (Operand.tmp 8) 3, none⟩,
  .one ⟨some 10, Op.move (Operand.tmp 9), none⟩,
  .blk 7 true [.one ⟨some 11, Op.fieldAddr 49 (Operand.tmp 1) 13, some (7, true)⟩,
  .one ⟨some 12, Op.load 45 (Operand.tmp 11), some (7, true)⟩,
  .one ⟨some 13, Op.call { callee := Callee.value (Operand.func 299), args := #[Operand.tmp 12, Operand.func 300], argTypes := #[45, 333] }, some (7, true)⟩,
  .one ⟨some 14, Op.unOp UnOp.not 4 (Operand.tmp 13), some (7, true)⟩] ⟨some 15, Op.pick (Operand.tmp 10) (Operand.tmp 14) (Operand.const (Value.bool false)), none⟩,
  .one ⟨some 2, Op.assign (Operand.tmp 15), none⟩]
def act_wraps_L : MCode := (.seq (.reg 0 act_wraps_R0 false) (.seq (.reg 1 act_wraps_R1 false) .ret))
def act_wraps_ks : Nat → List Nat := fun i => match i with
  | _ => []
theorem act_wraps_hl : Tryz.f291.body.map light = some act_wraps_L.flat := by kernel_rfl
theorem act_wraps_hk : act_wraps_L.ok = true := by kernel_rfl
theorem act_wraps_hb : Tryz.f291.body.map (codeB 16 act_wraps_ks) = some true := by kernel_rfl
theorem act_wraps_hr : Tryz.f291.results.toList = [ResultVar.tmp 2] := rfl
theorem act_wraps_hn : fnB Tryz.prog 291 = true := by kernel_rfl
theorem act_wraps_pu {args : List V} {st : List SO} {res : V} (an : Ann) (ha : args.length ≤ 16) (hres : noRef res = true) (h : wpM ⟨Tryz.prog, GW, 16, st.length⟩ an act_wraps_ks act_wraps_L (argE args 0) st (EndsP ⟨Tryz.prog, GW, 16, st.length⟩ [ResultVar.tmp 2] res st)) : FnOK Tryz.prog GW 291 args st res st :=
  fn_pure Tryz.func291 act_wraps_hr act_wraps_hl act_wraps_hk act_wraps_hb rfl act_wraps_hn an ha hres h
/-! agora/act.kinds$4 -/
def act_kinds_4_R0 : List Itm := [.one ⟨some 1, Op.box 49 (Operand.tmp 0), none⟩,
  .one ⟨some 2, Op.assign (Operand.const (Value.bool false)), none⟩]
def act_kinds_4_R1 : List Itm := [.one ⟨some 3, Op.fieldAddr 49 (Operand.tmp 1) 10, none⟩,
  .one ⟨some 4, Op.load 9 (Operand.tmp 3), none⟩,
  .one ⟨some 5, Op.call { callee := Callee.value (Operand.func 284), args := #[Operand.tmp 4], argTypes := #[9] }, none⟩,
  .one ⟨some 6, Op.move (Operand.tmp 5), none⟩,
  .blk 3 true [.one ⟨some 7, Op.fieldAddr 49 (Operand.tmp 1) 5, some (3, true)⟩,
  .one ⟨some 8, Op.load 9 (Operand.tmp 7), some (3, true)⟩,
  .one ⟨some 9, Op.binOp BinOp.eql 9 (Operand.tmp 8) (Operand.const (Value.string { data := #[] })) 9, some (3, true)⟩,
  .one ⟨some 10, Op.fieldAddr 49 (Operand.tmp 1) 6, some (3, true)⟩,
  .one ⟨some 11, Op.load 9 (Operand.tmp 10), some (3, true)⟩,
  .one ⟨some 12, Op.binOp BinOp.eql 9 (Operand.tmp 11) (Operand.const (Value.string { data := #[] })) 9, some (3, true)⟩,
  .one ⟨some 13, Op.binOp BinOp.neq 4 (Operand.tmp 9) (Operand.tmp 12) 4, some (3, true)⟩] ⟨some 14, Op.pick (Operand.tmp 6) (Operand.tmp 13) (Operand.const (Value.bool false)), none⟩,
  .one ⟨some 2, Op.assign (Operand.tmp 14), none⟩]
def act_kinds_4_L : MCode := (.seq (.reg 0 act_kinds_4_R0 false) (.seq (.reg 1 act_kinds_4_R1 false) .ret))
def act_kinds_4_ks : Nat → List Nat := fun i => match i with
  | _ => []
theorem act_kinds_4_hl : Tryz.f292.body.map light = some act_kinds_4_L.flat := by kernel_rfl
theorem act_kinds_4_hk : act_kinds_4_L.ok = true := by kernel_rfl
theorem act_kinds_4_hb : Tryz.f292.body.map (codeB 15 act_kinds_4_ks) = some true := by kernel_rfl
theorem act_kinds_4_hr : Tryz.f292.results.toList = [ResultVar.tmp 2] := rfl
theorem act_kinds_4_hn : fnB Tryz.prog 292 = true := by kernel_rfl
theorem act_kinds_4_pu {args : List V} {st : List SO} {res : V} (an : Ann) (ha : args.length ≤ 15) (hres : noRef res = true) (h : wpM ⟨Tryz.prog, GW, 15, st.length⟩ an act_kinds_4_ks act_kinds_4_L (argE args 0) st (EndsP ⟨Tryz.prog, GW, 15, st.length⟩ [ResultVar.tmp 2] res st)) : FnOK Tryz.prog GW 292 args st res st :=
  fn_pure Tryz.func292 act_kinds_4_hr act_kinds_4_hl act_kinds_4_hk act_kinds_4_hb rfl act_kinds_4_hn an ha hres h
/-! agora/act.kinds$5 -/
def act_kinds_5_R0 : List Itm := [.one ⟨some 1, Op.box 49 (Operand.tmp 0), none⟩,
  .one ⟨some 2, Op.assign (Operand.const (Value.bool false)), none⟩]
def act_kinds_5_R1 : List Itm := [.one ⟨some 3, Op.fieldAddr 49 (Operand.tmp 1) 14, none⟩,
  .one ⟨some 4, Op.load 3 (Operand.tmp 3), none⟩,
  .one ⟨some 5, Op.call { callee := Callee.value (Operand.func 285), args := #[Operand.tmp 4], argTypes := #[3] }, none⟩,
  .one ⟨some 6, Op.move (Operand.tmp 5), none⟩,
  .blk 3 true [.one ⟨some 7, Op.fieldAddr 49 (Operand.tmp 1) 15, some (3, true)⟩,
  .one ⟨some 8, Op.load 3 (Operand.tmp 7), some (3, true)⟩,
  .one ⟨some 9, Op.call { callee := Callee.value (Operand.func 189), args := #[Operand.tmp 8, Operand.const (Value.int IntKind.i64 0), Operand.const (Value.int IntKind.i64 19)], argTypes := #[3, 3, 3] }, some (3, true)⟩] ⟨some 10, Op.pick (Operand.tmp 6) (Operand.tmp 9) (Operand.const (Value.bool false)), none⟩,
  .one ⟨some 2, Op.assign (Operand.tmp 10), none⟩]
def act_kinds_5_L : MCode := (.seq (.reg 0 act_kinds_5_R0 false) (.seq (.reg 1 act_kinds_5_R1 false) .ret))
def act_kinds_5_ks : Nat → List Nat := fun i => match i with
  | _ => []
theorem act_kinds_5_hl : Tryz.f293.body.map light = some act_kinds_5_L.flat := by kernel_rfl
theorem act_kinds_5_hk : act_kinds_5_L.ok = true := by kernel_rfl
theorem act_kinds_5_hb : Tryz.f293.body.map (codeB 11 act_kinds_5_ks) = some true := by kernel_rfl
theorem act_kinds_5_hr : Tryz.f293.results.toList = [ResultVar.tmp 2] := rfl
theorem act_kinds_5_hn : fnB Tryz.prog 293 = true := by kernel_rfl
theorem act_kinds_5_pu {args : List V} {st : List SO} {res : V} (an : Ann) (ha : args.length ≤ 11) (hres : noRef res = true) (h : wpM ⟨Tryz.prog, GW, 11, st.length⟩ an act_kinds_5_ks act_kinds_5_L (argE args 0) st (EndsP ⟨Tryz.prog, GW, 11, st.length⟩ [ResultVar.tmp 2] res st)) : FnOK Tryz.prog GW 293 args st res st :=
  fn_pure Tryz.func293 act_kinds_5_hr act_kinds_5_hl act_kinds_5_hk act_kinds_5_hb rfl act_kinds_5_hn an ha hres h
/-! agora/act.kinds$6 -/
def act_kinds_6_R0 : List Itm := [.one ⟨some 1, Op.box 49 (Operand.tmp 0), none⟩,
  .one ⟨some 2, Op.assign (Operand.const (Value.bool false)), none⟩]
def act_kinds_6_R1 : List Itm := [.one ⟨some 3, Op.fieldAddr 49 (Operand.tmp 1) 9, none⟩,
  .one ⟨some 4, Op.load 23 (Operand.tmp 3), none⟩,
  .one ⟨some 5, Op.call { callee := Callee.value (Operand.func 226), args := #[Operand.tmp 4], argTypes := #[23] }, none⟩,
  .one ⟨some 6, Op.move (Operand.tmp 5), none⟩,
  .blk 3 true [.one ⟨some 7, Op.fieldAddr 49 (Operand.tmp 1) 9, some (3, true)⟩,
  .one ⟨some 8, Op.load 23 (Operand.tmp 7), some (3, true)⟩,
  .one ⟨some 9, Op.call { callee := Callee.builtin Builtin.len, args := #[Operand.tmp 8], argTypes := #[23] }, some (3, true)⟩,
  .one ⟨some 10, Op.binOp BinOp.gtr 3 (Operand.tmp 9) (Operand.const (Value.int IntKind.i64 0)) 3, some (3, true)⟩] ⟨some 11, Op.pick (Operand.tmp 6) (Operand.tmp 10) (Operand.const (Value.bool false)), none⟩,
  .one ⟨some 12, Op.move (Operand.tmp 11), none⟩,
  .blk 9 true [.one ⟨some 13, Op.load 49 (Operand.tmp 1), some (9, true)⟩,
  .one ⟨some 14, Op.call { callee := Callee.value (Operand.func 291), args := #[Operand.tmp 13], argTypes := #[49] }, some (9, true)⟩] ⟨some 15, Op.pick (Operand.tmp 12) (Operand.tmp 14) (Operand.const (Value.bool false)), none⟩,
  .one ⟨some 16, Op.move (Operand.tmp 15), none⟩,
  .blk 13 true [.one ⟨some 17, Op.fieldAddr 49 (Operand.tmp 1) 14, some (13, true)⟩,
  .one ⟨some 18, Op.load 3 (Operand.tmp 17), some (13, true)⟩,
  .one ⟨some 19, Op.fieldAddr 49 (Operand.tmp 1) 9, some (13, true)⟩,
  .one ⟨some 20, Op.load 23 (Operand.tmp 19), some (13, true)⟩,
  .one ⟨some 21, Op.call { callee := Callee.builtin Builtin.len, args := #[Operand.tmp 20], argTypes := #[23] }, some (13, true)⟩,
  .one ⟨some 22, Op.call { callee := Callee.value (Operand.func 189), args := #[Operand.tmp 18, Operand.const (Value.int IntKind.i64 1), Operand.tmp 21], argTypes := #[3, 3, 3] }, some (13, true)⟩] ⟨some 23, Op.pick (Operand.tmp 16) (Operand.tmp 22) (Operand.const (Value.bool false)), none⟩,
  .one ⟨some 24, Op.move (Operand.tmp 23), none⟩,
  .blk 21 true [.one ⟨some 25, Op.fieldAddr 49 (Operand.tmp 1) 15, some (21, true)⟩,
  .one ⟨some 26, Op.load 3 (Operand.tmp 25), some (21, true)⟩,
  .one ⟨some 27, Op.call { callee := Callee.value (Operand.func 285), args := #[Operand.tmp 26], argTypes := #[3] }, some (21, true)⟩] ⟨some 28, Op.pick (Operand.tmp 24) (Operand.tmp 27) (Operand.const (Value.bool false)), none⟩,
  .one ⟨some 2, Op.assign (Operand.tmp 28), none⟩]
def act_kinds_6_L : MCode := (.seq (.reg 0 act_kinds_6_R0 false) (.seq (.reg 1 act_kinds_6_R1 false) .ret))
def act_kinds_6_ks : Nat → List Nat := fun i => match i with
  | _ => []
theorem act_kinds_6_hl : Tryz.f294.body.map light = some act_kinds_6_L.flat := by kernel_rfl
theorem act_kinds_6_hk : act_kinds_6_L.ok = true := by kernel_rfl
theorem act_kinds_6_hb : Tryz.f294.body.map (codeB 29 act_kinds_6_ks) = some true := by kernel_rfl
theorem act_kinds_6_hr : Tryz.f294.results.toList = [ResultVar.tmp 2] := rfl
theorem act_kinds_6_hn : fnB Tryz.prog 294 = true := by kernel_rfl
theorem act_kinds_6_pu {args : List V} {st : List SO} {res : V} (an : Ann) (ha : args.length ≤ 29) (hres : noRef res = true) (h : wpM ⟨Tryz.prog, GW, 29, st.length⟩ an act_kinds_6_ks act_kinds_6_L (argE args 0) st (EndsP ⟨Tryz.prog, GW, 29, st.length⟩ [ResultVar.tmp 2] res st)) : FnOK Tryz.prog GW 294 args st res st :=
  fn_pure Tryz.func294 act_kinds_6_hr act_kinds_6_hl act_kinds_6_hk act_kinds_6_hb rfl act_kinds_6_hn an ha hres h
/-! agora/act.kinds$7 -/
def act_kinds_7_R0 : List Itm := [.one ⟨some 1, Op.box 49 (Operand.tmp 0), none⟩,
  .one ⟨some 2, Op.assign (Operand.const (Value.bool false)), none⟩]
def act_kinds_7_R1 : List Itm := [.one ⟨some 3, Op.fieldAddr 49 (Operand.tmp 1) 14, none⟩,
  .one ⟨some 4, Op.load 3 (Operand.tmp 3), none⟩,
  .one ⟨some 5, Op.call { callee := Callee.value (Operand.func 189), args := #[Operand.tmp 4, Operand.const (Value.int IntKind.i64 0), Operand.const (Value.int IntKind.i64 1)], argTypes := #[3, 3, 3] }, none⟩,
  .one ⟨some 2, Op.assign (Operand.tmp 5), none⟩]
def act_kinds_7_L : MCode := (.seq (.reg 0 act_kinds_7_R0 false) (.seq (.reg 1 act_kinds_7_R1 false) .ret))
def act_kinds_7_ks : Nat → List Nat := fun i => match i with
  | _ => []
theorem act_kinds_7_hl : Tryz.f295.body.map light = some act_kinds_7_L.flat := by kernel_rfl
theorem act_kinds_7_hk : act_kinds_7_L.ok = true := by kernel_rfl
theorem act_kinds_7_hb : Tryz.f295.body.map (codeB 6 act_kinds_7_ks) = some true := by kernel_rfl
theorem act_kinds_7_hr : Tryz.f295.results.toList = [ResultVar.tmp 2] := rfl
theorem act_kinds_7_hn : fnB Tryz.prog 295 = true := by kernel_rfl
theorem act_kinds_7_pu {args : List V} {st : List SO} {res : V} (an : Ann) (ha : args.length ≤ 6) (hres : noRef res = true) (h : wpM ⟨Tryz.prog, GW, 6, st.length⟩ an act_kinds_7_ks act_kinds_7_L (argE args 0) st (EndsP ⟨Tryz.prog, GW, 6, st.length⟩ [ResultVar.tmp 2] res st)) : FnOK Tryz.prog GW 295 args st res st :=
  fn_pure Tryz.func295 act_kinds_7_hr act_kinds_7_hl act_kinds_7_hk act_kinds_7_hb rfl act_kinds_7_hn an ha hres h
/-! agora/act.kinds$8 -/
def act_kinds_8_R0 : List Itm := [.one ⟨some 1, Op.box 49 (Operand.tmp 0), none⟩,
  .one ⟨some 2, Op.assign (Operand.const (Value.bool false)), none⟩]
def act_kinds_8_R1 : List Itm := [.one ⟨some 3, Op.fieldAddr 49 (Operand.tmp 1) 10, none⟩,
  .one ⟨some 4, Op.load 9 (Operand.tmp 3), none⟩,
  .one ⟨some 5, Op.call { callee := Callee.value (Operand.func 297), args := #[Operand.tmp 4], argTypes := #[9] }, none⟩,
  .one ⟨some 6, Op.move (Operand.tmp 5), none⟩,
  .blk 3 true [.one ⟨some 7, Op.fieldAddr 49 (Operand.tmp 1) 14, some (3, true)⟩,
  .one ⟨some 8, Op.load 3 (Operand.tmp 7), some (3, true)⟩,
  .one ⟨some 9, Op.call { callee := Callee.value (Operand.func 189), args := #[Operand.tmp 8, Operand.const (Value.int IntKind.i64 0), Operand.const (Value.int IntKind.i64 1099511627776)], argTypes := #[3, 3, 3] }, some (3, true)⟩] ⟨some 10, Op.pick (Operand.tmp 6) (Operand.tmp 9) (Operand.const (Value.bool false)), none⟩,
  .one ⟨some 2, Op.assign (Operand.tmp 10), none⟩]
def act_kinds_8_L : MCode := (.seq (.reg 0 act_kinds_8_R0 false) (.seq (.reg 1 act_kinds_8_R1 false) .ret))
def act_kinds_8_ks : Nat → List Nat := fun i => match i with
  | _ => []
theorem act_kinds_8_hl : Tryz.f296.body.map light = some act_kinds_8_L.flat := by kernel_rfl
theorem act_kinds_8_hk : act_kinds_8_L.ok = true := by kernel_rfl
theorem act_kinds_8_hb : Tryz.f296.body.map (codeB 11 act_kinds_8_ks) = some true := by kernel_rfl
theorem act_kinds_8_hr : Tryz.f296.results.toList = [ResultVar.tmp 2] := rfl
theorem act_kinds_8_hn : fnB Tryz.prog 296 = true := by kernel_rfl
theorem act_kinds_8_pu {args : List V} {st : List SO} {res : V} (an : Ann) (ha : args.length ≤ 11) (hres : noRef res = true) (h : wpM ⟨Tryz.prog, GW, 11, st.length⟩ an act_kinds_8_ks act_kinds_8_L (argE args 0) st (EndsP ⟨Tryz.prog, GW, 11, st.length⟩ [ResultVar.tmp 2] res st)) : FnOK Tryz.prog GW 296 args st res st :=
  fn_pure Tryz.func296 act_kinds_8_hr act_kinds_8_hl act_kinds_8_hk act_kinds_8_hb rfl act_kinds_8_hn an ha hres h
/-! agora/act.short -/
def act_short_R0 : List Itm := [.one ⟨some 2, Op.assign (Operand.const (Value.bool false)), none⟩]
def act_short_R1 : List Itm := [.one ⟨some 3, Op.move (Operand.tmp 0), none⟩,
  .one ⟨some 4, Op.call { callee := Callee.builtin Builtin.len, args := #[Operand.tmp 3], argTypes := #[9] }, none⟩,
  .one ⟨some 5, Op.binOp BinOp.leq 3 (Operand.tmp 4) (Operand.const (Value.int IntKind.i64 500)) 3, none⟩,
  .one ⟨some 2, Op.assign (Operand.tmp 5), none⟩]
def act_short_L : MCode := (.seq (.reg 0 act_short_R0 false) (.seq (.reg 1 act_short_R1 false) .ret))
def act_short_ks : Nat → List Nat := fun i => match i with
  | _ => []
theorem act_short_hl : Tryz.f297.body.map light = some act_short_L.flat := by kernel_rfl
theorem act_short_hk : act_short_L.ok = true := by kernel_rfl
theorem act_short_hb : Tryz.f297.body.map (codeB 6 act_short_ks) = some true := by kernel_rfl
theorem act_short_hr : Tryz.f297.results.toList = [ResultVar.tmp 2] := rfl
theorem act_short_hn : fnB Tryz.prog 297 = true := by kernel_rfl
theorem act_short_pu {args : List V} {st : List SO} {res : V} (an : Ann) (ha : args.length ≤ 6) (hres : noRef res = true) (h : wpM ⟨Tryz.prog, GW, 6, st.length⟩ an act_short_ks act_short_L (argE args 0) st (EndsP ⟨Tryz.prog, GW, 6, st.length⟩ [ResultVar.tmp 2] res st)) : FnOK Tryz.prog GW 297 args st res st :=
  fn_pure Tryz.func297 act_short_hr act_short_hl act_short_hk act_short_hb rfl act_short_hn an ha hres h
/-! agora/act.isBox -/
def act_isBox_R0 : List Itm := [.one ⟨some 1, Op.box 44 (Operand.tmp 0), none⟩,
  .one ⟨some 2, Op.assign (Operand.const (Value.bool false)), none⟩]
def act_isBox_R1 : List Itm := [.one ⟨some 3, Op.fieldAddr 44 (Operand.tmp 1) 0, none⟩,
  .one ⟨some 4, Op.load 9 (Operand.tmp 3), none⟩,
  .one ⟨some 5, Op.call { callee := Callee.builtin Builtin.len, args := #[Operand.tmp 4], argTypes := #[9] }, none⟩,
  .one ⟨some 6, Op.binOp BinOp.eql 3 (Operand.tmp 5) (Operand.const (Value.int IntKind.i64 32)) 3, none⟩,
  .one ⟨some 7, Op.move (Operand.tmp 6), none⟩,
  .blk 4 true [.one ⟨some 8, Op.fieldAddr 44 (Operand.tmp 1) 2, some (4, true)⟩,
  .one ⟨some 9, Op.load 9 (Operand.tmp 8), some (4, true)⟩,
  .one ⟨some 10, Op.call { callee := Callee.builtin Builtin.len, args := #[Operand.tmp 9], argTypes := #[9] }, some (4, true)⟩,
  .one ⟨some 11, Op.binOp BinOp.eql 3 (Operand.tmp 10) (Operand.const (Value.int IntKind.i64 16)) 3, some (4, true)⟩] ⟨some 12, Op.pick (Operand.tmp 7) (Operand.tmp 11) (Operand.const (Value.bool false)), none⟩,
  .one ⟨some 13, Op.move (Operand.tmp 12), none⟩,
  .blk 10 true [.one ⟨some 14, Op.fieldAddr 44 (Operand.tmp 1) 1, some (10, true)⟩,
  .one ⟨some 15, Op.load 9 (Operand.tmp 14), some (10, true)⟩,
  .one ⟨some 16, Op.call { callee := Callee.value (Operand.func 297), args := #[Operand.tmp 15], argTypes := #[9] }, some (10, true)⟩] ⟨some 17, Op.pick (Operand.tmp 13) (Operand.tmp 16) (Operand.const (Value.bool false)), none⟩,
  .one ⟨some 2, Op.assign (Operand.tmp 17), none⟩]
def act_isBox_L : MCode := (.seq (.reg 0 act_isBox_R0 false) (.seq (.reg 1 act_isBox_R1 false) .ret))
def act_isBox_ks : Nat → List Nat := fun i => match i with
  | _ => []
theorem act_isBox_hl : Tryz.f298.body.map light = some act_isBox_L.flat := by kernel_rfl
theorem act_isBox_hk : act_isBox_L.ok = true := by kernel_rfl
theorem act_isBox_hb : Tryz.f298.body.map (codeB 18 act_isBox_ks) = some true := by kernel_rfl
theorem act_isBox_hr : Tryz.f298.results.toList = [ResultVar.tmp 2] := rfl
theorem act_isBox_hn : fnB Tryz.prog 298 = true := by kernel_rfl
theorem act_isBox_pu {args : List V} {st : List SO} {res : V} (an : Ann) (ha : args.length ≤ 18) (hres : noRef res = true) (h : wpM ⟨Tryz.prog, GW, 18, st.length⟩ an act_isBox_ks act_isBox_L (argE args 0) st (EndsP ⟨Tryz.prog, GW, 18, st.length⟩ [ResultVar.tmp 2] res st)) : FnOK Tryz.prog GW 298 args st res st :=
  fn_pure Tryz.func298 act_isBox_hr act_isBox_hl act_isBox_hk act_isBox_hb rfl act_isBox_hn an ha hres h
/-! slices.ContainsFunc[list of agora/api.Wrap,agora/api.Wrap] -/
def slices_ContainsFunc_Lapi_Wrap_api_Wrap_R0 : List Itm := [.one ⟨some 4, Op.assign (Operand.const (Value.bool false)), none⟩]
def slices_ContainsFunc_Lapi_Wrap_api_Wrap_R1 : List Itm := [.one ⟨some 5, Op.move (Operand.tmp 0), none⟩,
  .one ⟨some 6, Op.move (Operand.tmp 1), none⟩,
  .one ⟨some 7, Op.call { callee := Callee.value (Operand.func 302), args := #[Operand.tmp 5, Operand.tmp 6], argTypes := #[45, 333] }, none⟩,
  .one ⟨some 8, Op.binOp BinOp.geq 3 (Operand.tmp 7) (Operand.const (Value.int IntKind.i64 0)) 3, none⟩,
  .one ⟨some 4, Op.assign (Operand.tmp 8), none⟩]
def slices_ContainsFunc_Lapi_Wrap_api_Wrap_L : MCode := (.seq (.reg 0 slices_ContainsFunc_Lapi_Wrap_api_Wrap_R0 false) (.seq (.reg 1 slices_ContainsFunc_Lapi_Wrap_api_Wrap_R1 false) .ret))
def slices_ContainsFunc_Lapi_Wrap_api_Wrap_ks : Nat → List Nat := fun i => match i with
  | _ => []
theorem slices_ContainsFunc_Lapi_Wrap_api_Wrap_hl : Tryz.f299.body.map light = some slices_ContainsFunc_Lapi_Wrap_api_Wrap_L.flat := by kernel_rfl
theorem slices_ContainsFunc_Lapi_Wrap_api_Wrap_hk : slices_ContainsFunc_Lapi_Wrap_api_Wrap_L.ok = true := by kernel_rfl
theorem slices_ContainsFunc_Lapi_Wrap_api_Wrap_hb : Tryz.f299.body.map (codeB 9 slices_ContainsFunc_Lapi_Wrap_api_Wrap_ks) = some true := by kernel_rfl
theorem slices_ContainsFunc_Lapi_Wrap_api_Wrap_hr : Tryz.f299.results.toList = [ResultVar.tmp 4] := rfl
theorem slices_ContainsFunc_Lapi_Wrap_api_Wrap_hn : fnB Tryz.prog 299 = true := by kernel_rfl
theorem slices_ContainsFunc_Lapi_Wrap_api_Wrap_pu {args : List V} {st : List SO} {res : V} (an : Ann) (ha : args.length ≤ 9) (hres : noRef res = true) (h : wpM ⟨Tryz.prog, GW, 9, st.length⟩ an slices_ContainsFunc_Lapi_Wrap_api_Wrap_ks slices_ContainsFunc_Lapi_Wrap_api_Wrap_L (argE args 0) st (EndsP ⟨Tryz.prog, GW, 9, st.length⟩ [ResultVar.tmp 4] res st)) : FnOK Tryz.prog GW 299 args st res st :=
  fn_pure Tryz.func299 slices_ContainsFunc_Lapi_Wrap_api_Wrap_hr slices_ContainsFunc_Lapi_Wrap_api_Wrap_hl slices_ContainsFunc_Lapi_Wrap_api_Wrap_hk slices_ContainsFunc_Lapi_Wrap_api_Wrap_hb rfl slices_ContainsFunc_Lapi_Wrap_api_Wrap_hn an ha hres h
/-! agora/act.wraps$1 -/
def act_wraps_1_R0 : List Itm := [.one ⟨some 1, Op.box 230 (Operand.tmp 0), none⟩,
  .one ⟨some 2, Op.assign (Operand.const (Value.bool false)), none⟩]
def act_wraps_1_R1 : List Itm := [.one ⟨some 3, Op.load 230 (Operand.tmp 1), none⟩,
  .one ⟨some 4, Op.call { callee := Callee.value (Operand.func 301), args := #[Operand.tmp 3], argTypes := #[230] }, none⟩,
  .one ⟨some 5, Op.unOp UnOp.not 4 (Operand.tmp 4), none⟩,
  .one ⟨some 2, Op.assign (Operand.tmp 5), none⟩]
def act_wraps_1_L : MCode := (.seq (.reg 0 act_wraps_1_R0 false) (.seq (.reg 1 act_wraps_1_R1 false) .ret))
def act_wraps_1_ks : Nat → List Nat := fun i => match i with
  | _ => []
theorem act_wraps_1_hl : Tryz.f300.body.map light = some act_wraps_1_L.flat := by kernel_rfl
theorem act_wraps_1_hk : act_wraps_1_L.ok = true := by kernel_rfl
theorem act_wraps_1_hb : Tryz.f300.body.map (codeB 6 act_wraps_1_ks) = some true := by kernel_rfl
theorem act_wraps_1_hr : Tryz.f300.results.toList = [ResultVar.tmp 2] := rfl
theorem act_wraps_1_hn : fnB Tryz.prog 300 = true := by kernel_rfl
theorem act_wraps_1_pu {args : List V} {st : List SO} {res : V} (an : Ann) (ha : args.length ≤ 6) (hres : noRef res = true) (h : wpM ⟨Tryz.prog, GW, 6, st.length⟩ an act_wraps_1_ks act_wraps_1_L (argE args 0) st (EndsP ⟨Tryz.prog, GW, 6, st.length⟩ [ResultVar.tmp 2] res st)) : FnOK Tryz.prog GW 300 args st res st :=
  fn_pure Tryz.func300 act_wraps_1_hr act_wraps_1_hl act_wraps_1_hk act_wraps_1_hb rfl act_wraps_1_hn an ha hres h
/-! agora/act.isWrap -/
def act_isWrap_R0 : List Itm := [.one ⟨some 1, Op.box 230 (Operand.tmp 0), none⟩,
  .one ⟨some 2, Op.assign (Operand.const (Value.bool false)), none⟩]
def act_isWrap_R1 : List Itm := [.one ⟨some 3, Op.fieldAddr 230 (Operand.tmp 1) 0, none⟩,
  .one ⟨some 4, Op.load 3 (Operand.tmp 3), none⟩,
  .one ⟨some 5, Op.call { callee := Callee.value (Operand.func 285), args := #[Operand.tmp 4], argTypes := #[3] }, none⟩,
  .one ⟨some 6, Op.move (Operand.tmp 5), none⟩,
  .blk 3 true [.one ⟨some 7, Op.fieldAddr 230 (Operand.tmp 1) 1, some (3, true)⟩,
  .one ⟨some 8, Op.load 3 (Operand.tmp 7), some (3, true)⟩,
  .one ⟨some 9, Op.call { callee := Callee.value (Operand.func 285), args := #[Operand.tmp 8], argTypes := #[3] }, some (3, true)⟩] ⟨some 10, Op.pick (Operand.tmp 6) (Operand.tmp 9) (Operand.const (Value.bool false)), none⟩,
  .one ⟨some 11, Op.move (Operand.tmp 10), none⟩,
  .blk 8 true [.one ⟨some 12, Op.fieldAddr 230 (Operand.tmp 1) 2, some (8, true)⟩,
  .one ⟨some 13, Op.load 44 (Operand.tmp 12), some (8, true)⟩,
  .one ⟨some 14, Op.call { callee := Callee.value (Operand.func 298), args := #[Operand.tmp 13], argTypes := #[44] }, some (8, true)⟩] ⟨some 15, Op.pick (Operand.tmp 11) (Operand.tmp 14) (Operand.const (Value.bool false)), none⟩,
  .one ⟨some 2, Op.assign (Operand.tmp 15), none⟩]
def act_isWrap_L : MCode := (.seq (.reg 0 act_isWrap_R0 false) (.seq (.reg 1 act_isWrap_R1 false) .ret))
def act_isWrap_ks : Nat → List Nat := fun i => match i with
  | _ => []
theorem act_isWrap_hl : Tryz.f301.body.map light = some act_isWrap_L.flat := by kernel_rfl
theorem act_isWrap_hk : act_isWrap_L.ok = true := by kernel_rfl
theorem act_isWrap_hb : Tryz.f301.body.map (codeB 16 act_isWrap_ks) = some true := by kernel_rfl
theorem act_isWrap_hr : Tryz.f301.results.toList = [ResultVar.tmp 2] := rfl
theorem act_isWrap_hn : fnB Tryz.prog 301 = true := by kernel_rfl
theorem act_isWrap_pu {args : List V} {st : List SO} {res : V} (an : Ann) (ha : args.length ≤ 16) (hres : noRef res = true) (h : wpM ⟨Tryz.prog, GW, 16, st.length⟩ an act_isWrap_ks act_isWrap_L (argE args 0) st (EndsP ⟨Tryz.prog, GW, 16, st.length⟩ [ResultVar.tmp 2] res st)) : FnOK Tryz.prog GW 301 args st res st :=
  fn_pure Tryz.func301 act_isWrap_hr act_isWrap_hl act_isWrap_hk act_isWrap_hb rfl act_isWrap_hn an ha hres h
/-! slices.IndexFunc[list of agora/api.Wrap,agora/api.Wrap] -/
def slices_IndexFunc_Lapi_Wrap_api_Wrap_R0 : List Itm := [.one ⟨some 4, Op.assign (Operand.const (Value.int IntKind.i64 0)), none⟩]
def slices_IndexFunc_Lapi_Wrap_api_Wrap_R1 : List Itm := [.one ⟨some 6, Op.move (Operand.tmp 0), none⟩,
  .one ⟨some 7, Op.call { callee := Callee.builtin Builtin.len, args := #[Operand.tmp 6], argTypes := #[45] }, none⟩,
  .one ⟨some 8, Op.move (Operand.const (Value.int IntKind.i64 0)), none⟩]
def slices_IndexFunc_Lapi_Wrap_api_Wrap_R2 : List Itm := [.one ⟨some 9, Op.binOp BinOp.lss 3 (Operand.tmp 8) (Operand.tmp 7) 3, none⟩]
def slices_IndexFunc_Lapi_Wrap_api_Wrap_R3 : List Itm := [.one ⟨some 10, Op.move (Operand.tmp 8), none⟩,
  .one ⟨some 5, Op.assign (Operand.tmp 10), none⟩]
def slices_IndexFunc_Lapi_Wrap_api_Wrap_R4 : List Itm := [.one ⟨some 11, Op.move (Operand.tmp 1), none⟩,
  .one ⟨some 12, Op.move (Operand.tmp 0), none⟩,
  .one ⟨some 13, Op.move (Operand.tmp 5), none⟩,
  .one ⟨some 14, Op.indexAddr 45 (Operand.tmp 12) (Operand.tmp 13), none⟩,
  .one ⟨some 15, Op.load 230 (Operand.tmp 14), none⟩,
  .one ⟨some 16, Op.call { callee := Callee.value (Operand.tmp 11), args := #[Operand.tmp 15], argTypes := #[230] }, none⟩]
def slices_IndexFunc_Lapi_Wrap_api_Wrap_R5 : List Itm := [.one ⟨some 17, Op.move (Operand.tmp 5), none⟩,
  .one ⟨some 4, Op.assign (Operand.tmp 17), none⟩]
def slices_IndexFunc_Lapi_Wrap_api_Wrap_B1 : MCode := (.seq (.reg 3 slices_IndexFunc_Lapi_Wrap_api_Wrap_R3 false) (.seq (.reg 4 slices_IndexFunc_Lapi_Wrap_api_Wrap_R4 false) (.cond (Operand.tmp 16) (.seq (.reg 5 slices_IndexFunc_Lapi_Wrap_api_Wrap_R5 false) .ret) .skip)))
def slices_IndexFunc_Lapi_Wrap_api_Wrap_R6 : List Itm := [.one ⟨some 18, Op.binOp BinOp.add 3 (Operand.tmp 8) (Operand.const (Value.int IntKind.i64 1)) 3, none⟩,
  .one ⟨some 8, Op.move (Operand.tmp 18), none⟩]
def slices_IndexFunc_Lapi_Wrap_api_Wrap_W1 : MCode := (.seq (.reg 2 slices_IndexFunc_Lapi_Wrap_api_Wrap_R2 false) (.seq (.cond (Operand.tmp 9) .skip (.exit 0)) (.seq (.block 1 slices_IndexFunc_Lapi_Wrap_api_Wrap_B1) (.reg 6 slices_IndexFunc_Lapi_Wrap_api_Wrap_R6 false))))
def slices_IndexFunc_Lapi_Wrap_api_Wrap_B0 : MCode := (.loop slices_IndexFunc_Lapi_Wrap_api_Wrap_W1)
def slices_IndexFunc_Lapi_Wrap_api_Wrap_R7 : List Itm := [.one ⟨some 4, Op.assign (Operand.const (Value.int IntKind.i64 (-1))), none⟩]
def slices_IndexFunc_Lapi_Wrap_api_Wrap_L : MCode := (.seq (.reg 0 slices_IndexFunc_Lapi_Wrap_api_Wrap_R0 false) (.seq (.seq (.reg 1 slices_IndexFunc_Lapi_Wrap_api_Wrap_R1 false) (.block 0 slices_IndexFunc_Lapi_Wrap_api_Wrap_B0)) (.seq (.reg 7 slices_IndexFunc_Lapi_Wrap_api_Wrap_R7 false) .ret)))
def slices_IndexFunc_Lapi_Wrap_api_Wrap_ks : Nat → List Nat := fun i => match i with
  | _ => []
theorem slices_IndexFunc_Lapi_Wrap_api_Wrap_hl : Tryz.f302.body.map light = some slices_IndexFunc_Lapi_Wrap_api_Wrap_L.flat := by kernel_rfl
theorem slices_IndexFunc_Lapi_Wrap_api_Wrap_hk : slices_IndexFunc_Lapi_Wrap_api_Wrap_L.ok = true := by kernel_rfl
theorem slices_IndexFunc_Lapi_Wrap_api_Wrap_hb : Tryz.f302.body.map (codeB 19 slices_IndexFunc_Lapi_Wrap_api_Wrap_ks) = some true := by kernel_rfl
theorem slices_IndexFunc_Lapi_Wrap_api_Wrap_hr : Tryz.f302.results.toList = [ResultVar.tmp 4] := rfl
theorem slices_IndexFunc_Lapi_Wrap_api_Wrap_hn : fnB Tryz.prog 302 = true := by kernel_rfl
theorem slices_IndexFunc_Lapi_Wrap_api_Wrap_pu {args : List V} {st : List SO} {res : V} (an : Ann) (ha : args.length ≤ 19) (hres : noRef res = true) (h : wpM ⟨Tryz.prog, GW, 19, st.length⟩ an slices_IndexFunc_Lapi_Wrap_api_Wrap_ks slices_IndexFunc_Lapi_Wrap_api_Wrap_L (argE args 0) st (EndsP ⟨Tryz.prog, GW, 19, st.length⟩ [ResultVar.tmp 4] res st)) : FnOK Tryz.prog GW 302 args st res st :=
  fn_pure Tryz.func302 slices_IndexFunc_Lapi_Wrap_api_Wrap_hr slices_IndexFunc_Lapi_Wrap_api_Wrap_hl slices_IndexFunc_Lapi_Wrap_api_Wrap_hk slices_IndexFunc_Lapi_Wrap_api_Wrap_hb rfl slices_IndexFunc_Lapi_Wrap_api_Wrap_hn an ha hres h
end Go.Proofs.YthkmfboffnhkaaaGreatDoor
