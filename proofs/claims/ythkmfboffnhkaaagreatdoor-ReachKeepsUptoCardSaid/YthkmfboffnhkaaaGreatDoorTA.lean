/-
  The light code of functions: printed by wip/tools/gen.py.
-/
import Derived.Test.YthkmfboffnhkaaaGreatDoorTY
namespace Go.Proofs.YthkmfboffnhkaaaGreatDoor
open Go Go.L1
set_option linter.all false
set_option maxRecDepth 100000
/-! slices.IndexFunc[list of agora/api.Chain,agora/api.Chain] -/
def slices_IndexFunc_Lapi_Chain_api_Chain_R0 : List Itm := [.one ⟨some 4, .assign (.const (.int .i64 0)), none⟩]
def slices_IndexFunc_Lapi_Chain_api_Chain_R1 : List Itm := [.one ⟨some 6, .move (.tmp 0), none⟩,
  .one ⟨some 7, .call ⟨.builtin .len, #[.tmp 6], #[22]⟩, none⟩,
  .one ⟨some 8, .move (.const (.int .i64 0)), none⟩]
def slices_IndexFunc_Lapi_Chain_api_Chain_R2 : List Itm := [.one ⟨some 9, .binOp .lss 3 (.tmp 8) (.tmp 7) 3, none⟩]
def slices_IndexFunc_Lapi_Chain_api_Chain_R3 : List Itm := [.one ⟨some 10, .move (.tmp 8), none⟩,
  .one ⟨some 5, .assign (.tmp 10), none⟩]
def slices_IndexFunc_Lapi_Chain_api_Chain_R4 : List Itm := [.one ⟨some 11, .move (.tmp 1), none⟩,
  .one ⟨some 12, .move (.tmp 0), none⟩,
  .one ⟨some 13, .move (.tmp 5), none⟩,
  .one ⟨some 14, .indexAddr 22 (.tmp 12) (.tmp 13), none⟩,
  .one ⟨some 15, .load 40 (.tmp 14), none⟩,
  .one ⟨some 16, .call ⟨.value (.tmp 11), #[.tmp 15], #[40]⟩, none⟩]
def slices_IndexFunc_Lapi_Chain_api_Chain_R5 : List Itm := [.one ⟨some 17, .move (.tmp 5), none⟩,
  .one ⟨some 4, .assign (.tmp 17), none⟩]
def slices_IndexFunc_Lapi_Chain_api_Chain_B1 : MCode := (.seq (.reg 3 slices_IndexFunc_Lapi_Chain_api_Chain_R3 false) (.seq (.reg 4 slices_IndexFunc_Lapi_Chain_api_Chain_R4 false) (.cond (.tmp 16) (.seq (.reg 5 slices_IndexFunc_Lapi_Chain_api_Chain_R5 false) .ret) .skip)))
def slices_IndexFunc_Lapi_Chain_api_Chain_R6 : List Itm := [.one ⟨some 18, .binOp .add 3 (.tmp 8) (.const (.int .i64 1)) 3, none⟩,
  .one ⟨some 8, .move (.tmp 18), none⟩]
def slices_IndexFunc_Lapi_Chain_api_Chain_W1 : MCode := (.seq (.reg 2 slices_IndexFunc_Lapi_Chain_api_Chain_R2 false) (.seq (.cond (.tmp 9) .skip (.exit 0)) (.seq (.block 1 slices_IndexFunc_Lapi_Chain_api_Chain_B1) (.reg 6 slices_IndexFunc_Lapi_Chain_api_Chain_R6 false))))
def slices_IndexFunc_Lapi_Chain_api_Chain_B0 : MCode := (.loop slices_IndexFunc_Lapi_Chain_api_Chain_W1)
def slices_IndexFunc_Lapi_Chain_api_Chain_R7 : List Itm := [.one ⟨some 4, .assign (.const (.int .i64 (-1))), none⟩]
def slices_IndexFunc_Lapi_Chain_api_Chain_L : MCode := (.seq (.reg 0 slices_IndexFunc_Lapi_Chain_api_Chain_R0 false) (.seq (.seq (.reg 1 slices_IndexFunc_Lapi_Chain_api_Chain_R1 false) (.block 0 slices_IndexFunc_Lapi_Chain_api_Chain_B0)) (.seq (.reg 7 slices_IndexFunc_Lapi_Chain_api_Chain_R7 false) .ret)))
def slices_IndexFunc_Lapi_Chain_api_Chain_ks : Nat → List Nat := fun i => match i with
  | _ => []
theorem slices_IndexFunc_Lapi_Chain_api_Chain_F : FnL Tryz.prog GW 62 19 slices_IndexFunc_Lapi_Chain_api_Chain_L [.tmp 4] slices_IndexFunc_Lapi_Chain_api_Chain_ks := ⟨⟨_, Tryz.func62, rfl, by kernel_rfl, by kernel_rfl, rfl⟩, by kernel_rfl, by kernel_rfl⟩
/-! agora/chain.Find$1 -/
def chain_Find_1_R0 : List Itm := [.one ⟨some 2, .box 40 (.tmp 0), none⟩,
  .one ⟨some 3, .assign (.const (.bool false)), none⟩]
def chain_Find_1_R1 : List Itm := [.one ⟨some 4, .fieldAddr 40 (.tmp 2) 0, none⟩,
  .one ⟨some 5, .load 9 (.tmp 4), none⟩,
  .one ⟨some 6, .load 9 (.tmp 1), none⟩,
  .one ⟨some 7, .binOp .eql 9 (.tmp 5) (.tmp 6) 9, none⟩,
  .one ⟨some 3, .assign (.tmp 7), none⟩]
def chain_Find_1_L : MCode := (.seq (.reg 0 chain_Find_1_R0 false) (.seq (.reg 1 chain_Find_1_R1 false) .ret))
def chain_Find_1_ks : Nat → List Nat := fun i => match i with
  | _ => []
theorem chain_Find_1_F : FnL Tryz.prog GW 63 8 chain_Find_1_L [.tmp 3] chain_Find_1_ks := ⟨⟨_, Tryz.func63, rfl, by kernel_rfl, by kernel_rfl, rfl⟩, by kernel_rfl, by kernel_rfl⟩
/-! agora/chain.Find -/
def chain_Find_R0 : List Itm := [.one ⟨some 3, .box 9 (.tmp 1), none⟩,
  .one ⟨some 4, .alloc 40, none⟩,
  .one ⟨some 5, .assign (.const (.bool false)), none⟩]
def chain_Find_R1 : List Itm := [.one ⟨some 7, .move (.tmp 0), none⟩,
  .one ⟨some 8, .makeFunc (.func 63) #[] #[.tmp 3], none⟩,
  .one ⟨some 9, .call ⟨.value (.func 62), #[.tmp 7, .tmp 8], #[22, 58]⟩, none⟩,
  .one ⟨some 6, .assign (.tmp 9), none⟩]
def chain_Find_R2 : List Itm := [.one ⟨some 10, .move (.tmp 6), none⟩,
  .one ⟨some 11, .binOp .lss 3 (.tmp 10) (.const (.int .i64 0)) 3, none⟩]
def chain_Find_R3 : List Itm := [.one ⟨some 12, .build 40 #[], none⟩,
  .one ⟨none, .store 40 (.tmp 4) (.tmp 12), none⟩,
  .one ⟨some 5, .assign (.const (.bool false)), none⟩]
def chain_Find_R4 : List Itm := [.one ⟨some 13, .move (.tmp 0), none⟩,
  .one ⟨some 14, .move (.tmp 6), none⟩,
  .one ⟨some 15, .indexAddr 22 (.tmp 13) (.tmp 14), none⟩,
  .one ⟨some 16, .load 40 (.tmp 15), none⟩,
  .one ⟨none, .store 40 (.tmp 4) (.tmp 16), none⟩,
  .one ⟨some 5, .assign (.const (.bool true)), none⟩]
def chain_Find_L : MCode := (.seq (.reg 0 chain_Find_R0 false) (.seq (.reg 1 chain_Find_R1 false) (.seq (.seq (.reg 2 chain_Find_R2 false) (.cond (.tmp 11) (.seq (.reg 3 chain_Find_R3 false) .ret) .skip)) (.seq (.reg 4 chain_Find_R4 false) .ret))))
def chain_Find_ks : Nat → List Nat := fun i => match i with
  | _ => []
theorem chain_Find_F : FnL Tryz.prog GW 21 17 chain_Find_L [.cell 4 40, .tmp 5] chain_Find_ks := ⟨⟨_, Tryz.func21, rfl, by kernel_rfl, by kernel_rfl, rfl⟩, by kernel_rfl, by kernel_rfl⟩
/-! slices.IndexFunc[list of agora/api.Act,agora/api.Act] -/
def slices_IndexFunc_Lapi_Act_api_Act_R0 : List Itm := [.one ⟨some 4, .assign (.const (.int .i64 0)), none⟩]
def slices_IndexFunc_Lapi_Act_api_Act_R1 : List Itm := [.one ⟨some 6, .move (.tmp 0), none⟩,
  .one ⟨some 7, .call ⟨.builtin .len, #[.tmp 6], #[37]⟩, none⟩,
  .one ⟨some 8, .move (.const (.int .i64 0)), none⟩]
def slices_IndexFunc_Lapi_Act_api_Act_R2 : List Itm := [.one ⟨some 9, .binOp .lss 3 (.tmp 8) (.tmp 7) 3, none⟩]
def slices_IndexFunc_Lapi_Act_api_Act_R3 : List Itm := [.one ⟨some 10, .move (.tmp 8), none⟩,
  .one ⟨some 5, .assign (.tmp 10), none⟩]
def slices_IndexFunc_Lapi_Act_api_Act_R4 : List Itm := [.one ⟨some 11, .move (.tmp 1), none⟩,
  .one ⟨some 12, .move (.tmp 0), none⟩,
  .one ⟨some 13, .move (.tmp 5), none⟩,
  .one ⟨some 14, .indexAddr 37 (.tmp 12) (.tmp 13), none⟩,
  .one ⟨some 15, .load 49 (.tmp 14), none⟩,
  .one ⟨some 16, .call ⟨.value (.tmp 11), #[.tmp 15], #[49]⟩, none⟩]
def slices_IndexFunc_Lapi_Act_api_Act_R5 : List Itm := [.one ⟨some 17, .move (.tmp 5), none⟩,
  .one ⟨some 4, .assign (.tmp 17), none⟩]
def slices_IndexFunc_Lapi_Act_api_Act_B1 : MCode := (.seq (.reg 3 slices_IndexFunc_Lapi_Act_api_Act_R3 false) (.seq (.reg 4 slices_IndexFunc_Lapi_Act_api_Act_R4 false) (.cond (.tmp 16) (.seq (.reg 5 slices_IndexFunc_Lapi_Act_api_Act_R5 false) .ret) .skip)))
def slices_IndexFunc_Lapi_Act_api_Act_R6 : List Itm := [.one ⟨some 18, .binOp .add 3 (.tmp 8) (.const (.int .i64 1)) 3, none⟩,
  .one ⟨some 8, .move (.tmp 18), none⟩]
def slices_IndexFunc_Lapi_Act_api_Act_W1 : MCode := (.seq (.reg 2 slices_IndexFunc_Lapi_Act_api_Act_R2 false) (.seq (.cond (.tmp 9) .skip (.exit 0)) (.seq (.block 1 slices_IndexFunc_Lapi_Act_api_Act_B1) (.reg 6 slices_IndexFunc_Lapi_Act_api_Act_R6 false))))
def slices_IndexFunc_Lapi_Act_api_Act_B0 : MCode := (.loop slices_IndexFunc_Lapi_Act_api_Act_W1)
def slices_IndexFunc_Lapi_Act_api_Act_R7 : List Itm := [.one ⟨some 4, .assign (.const (.int .i64 (-1))), none⟩]
def slices_IndexFunc_Lapi_Act_api_Act_L : MCode := (.seq (.reg 0 slices_IndexFunc_Lapi_Act_api_Act_R0 false) (.seq (.seq (.reg 1 slices_IndexFunc_Lapi_Act_api_Act_R1 false) (.block 0 slices_IndexFunc_Lapi_Act_api_Act_B0)) (.seq (.reg 7 slices_IndexFunc_Lapi_Act_api_Act_R7 false) .ret)))
def slices_IndexFunc_Lapi_Act_api_Act_ks : Nat → List Nat := fun i => match i with
  | _ => []
theorem slices_IndexFunc_Lapi_Act_api_Act_F : FnL Tryz.prog GW 82 19 slices_IndexFunc_Lapi_Act_api_Act_L [.tmp 4] slices_IndexFunc_Lapi_Act_api_Act_ks := ⟨⟨_, Tryz.func82, rfl, by kernel_rfl, by kernel_rfl, rfl⟩, by kernel_rfl, by kernel_rfl⟩
/-! agora/ident.Right -/
def ident_Right_R0 : List Itm := [.one ⟨some 2, .assign (.const (.bool false)), none⟩]
def ident_Right_R1 : List Itm := [.one ⟨some 3, .move (.tmp 0), none⟩,
  .one ⟨some 4, .call ⟨.builtin .len, #[.tmp 3], #[9]⟩, none⟩,
  .one ⟨some 5, .binOp .eql 3 (.tmp 4) (.const (.int .i64 16)) 3, none⟩,
  .one ⟨some 6, .move (.tmp 5), none⟩,
  .blk 3 true [.one ⟨some 7, .move (.tmp 0), some (3, true)⟩,
  .one ⟨some 8, .call ⟨.value (.func 219), #[.tmp 7, .const (.string ⟨#[48, 49, 50, 51, 52, 53, 54, 55, 56, 57, 97, 98, 99, 100, 101, 102]⟩)], #[9, 9]⟩, some (3, true)⟩,
  .one ⟨some 9, .binOp .eql 9 (.tmp 8) (.const (.string ⟨#[]⟩)) 9, some (3, true)⟩] ⟨some 10, .pick (.tmp 6) (.tmp 9) (.const (.bool false)), none⟩,
  .one ⟨some 2, .assign (.tmp 10), none⟩]
def ident_Right_L : MCode := (.seq (.reg 0 ident_Right_R0 false) (.seq (.reg 1 ident_Right_R1 false) .ret))
def ident_Right_ks : Nat → List Nat := fun i => match i with
  | _ => []
theorem ident_Right_F : FnL Tryz.prog GW 188 11 ident_Right_L [.tmp 2] ident_Right_ks := ⟨⟨_, Tryz.func188, rfl, by kernel_rfl, by kernel_rfl, rfl⟩, by kernel_rfl, by kernel_rfl⟩
/-! agora/act.within -/
def act_within_R0 : List Itm := [.one ⟨some 6, .assign (.const (.bool false)), none⟩]
def act_within_R1 : List Itm := [.one ⟨some 7, .move (.tmp 0), none⟩,
  .one ⟨some 8, .move (.tmp 1), none⟩,
  .one ⟨some 9, .binOp .geq 3 (.tmp 7) (.tmp 8) 3, none⟩,
  .one ⟨some 10, .move (.tmp 9), none⟩,
  .blk 3 true [.one ⟨some 11, .move (.tmp 0), some (3, true)⟩,
  .one ⟨some 12, .move (.tmp 2), some (3, true)⟩,
  .one ⟨some 13, .binOp .leq 3 (.tmp 11) (.tmp 12) 3, some (3, true)⟩] ⟨some 14, .pick (.tmp 10) (.tmp 13) (.const (.bool false)), none⟩,
  .one ⟨some 6, .assign (.tmp 14), none⟩]
def act_within_L : MCode := (.seq (.reg 0 act_within_R0 false) (.seq (.reg 1 act_within_R1 false) .ret))
def act_within_ks : Nat → List Nat := fun i => match i with
  | _ => []
theorem act_within_F : FnL Tryz.prog GW 189 15 act_within_L [.tmp 6] act_within_ks := ⟨⟨_, Tryz.func189, rfl, by kernel_rfl, by kernel_rfl, rfl⟩, by kernel_rfl, by kernel_rfl⟩
/-! agora/act.isDigest -/
def act_isDigest_R0 : List Itm := [.one ⟨some 2, .assign (.const (.bool false)), none⟩]
def act_isDigest_R1 : List Itm := [.one ⟨some 3, .move (.tmp 0), none⟩,
  .one ⟨some 4, .call ⟨.builtin .len, #[.tmp 3], #[9]⟩, none⟩,
  .one ⟨some 5, .binOp .eql 3 (.tmp 4) (.const (.int .i64 32)) 3, none⟩,
  .one ⟨some 2, .assign (.tmp 5), none⟩]
def act_isDigest_L : MCode := (.seq (.reg 0 act_isDigest_R0 false) (.seq (.reg 1 act_isDigest_R1 false) .ret))
def act_isDigest_ks : Nat → List Nat := fun i => match i with
  | _ => []
theorem act_isDigest_F : FnL Tryz.prog GW 190 6 act_isDigest_L [.tmp 2] act_isDigest_ks := ⟨⟨_, Tryz.func190, rfl, by kernel_rfl, by kernel_rfl, rfl⟩, by kernel_rfl, by kernel_rfl⟩
/-! (agora/act.fields).unused -/
def act_fields_unused_R0 : List Itm := [.one ⟨some 2, .box 248 (.tmp 0), none⟩,
  .one ⟨some 3, .box 49 (.tmp 1), none⟩,
  .one ⟨some 4, .assign (.const (.bool false)), none⟩]
def act_fields_unused_R1 : List Itm := [.one ⟨some 6, .fieldAddr 49 (.tmp 3) 7, none⟩,
  .one ⟨some 7, .load 3 (.tmp 6), none⟩,
  .one ⟨some 8, .binOp .eql 3 (.tmp 7) (.const (.int .i64 0)) 3, none⟩,
  .one ⟨some 9, .move (.tmp 8), none⟩,
  .blk 3 true [.one ⟨some 10, .fieldAddr 49 (.tmp 3) 12, some (3, true)⟩,
  .one ⟨some 11, .load 3 (.tmp 10), some (3, true)⟩,
  .one ⟨some 12, .binOp .eql 3 (.tmp 11) (.const (.int .i64 0)) 3, some (3, true)⟩] ⟨some 13, .pick (.tmp 9) (.tmp 12) (.const (.bool false)), none⟩,
  .one ⟨some 14, .move (.tmp 13), none⟩,
  .blk 8 true [.one ⟨some 15, .fieldAddr 49 (.tmp 3) 11, some (8, true)⟩,
  .one ⟨some 16, .load 44 (.tmp 15), some (8, true)⟩,
  .one ⟨some 17, .build 44 #[], some (8, true)⟩,
  .one ⟨some 18, .binOp .eql 44 (.tmp 16) (.tmp 17) 44, some (8, true)⟩] ⟨some 19, .pick (.tmp 14) (.tmp 18) (.const (.bool false)), none⟩,
  .one ⟨some 5, .assign (.tmp 19), none⟩]
def act_fields_unused_R2 : List Itm := [.one ⟨some 20, .fieldAddr 248 (.tmp 2) 0, none⟩,
  .one ⟨some 21, .load 4 (.tmp 20), none⟩,
  .one ⟨some 22, .move (.tmp 21), none⟩,
  .blk 2 false [.one ⟨some 23, .fieldAddr 49 (.tmp 3) 5, some (2, false)⟩,
  .one ⟨some 24, .load 9 (.tmp 23), some (2, false)⟩,
  .one ⟨some 25, .binOp .eql 9 (.tmp 24) (.const (.string ⟨#[]⟩)) 9, some (2, false)⟩] ⟨some 26, .pick (.tmp 22) (.const (.bool true)) (.tmp 25), none⟩,
  .one ⟨some 27, .move (.tmp 26), none⟩,
  .blk 7 true [.one ⟨some 28, .fieldAddr 248 (.tmp 2) 1, some (7, true)⟩,
  .one ⟨some 29, .load 4 (.tmp 28), some (7, true)⟩,
  .one ⟨some 30, .move (.tmp 29), some (7, true)⟩,
  .blk 10 false [.one ⟨some 31, .fieldAddr 49 (.tmp 3) 6, some (10, false)⟩,
  .one ⟨some 32, .load 9 (.tmp 31), some (10, false)⟩,
  .one ⟨some 33, .binOp .eql 9 (.tmp 32) (.const (.string ⟨#[]⟩)) 9, some (10, false)⟩] ⟨some 34, .pick (.tmp 30) (.const (.bool true)) (.tmp 33), some (7, true)⟩] ⟨some 35, .pick (.tmp 27) (.tmp 34) (.const (.bool false)), none⟩,
  .one ⟨some 36, .move (.tmp 35), none⟩,
  .blk 16 true [.one ⟨some 37, .fieldAddr 248 (.tmp 2) 2, some (16, true)⟩,
  .one ⟨some 38, .load 4 (.tmp 37), some (16, true)⟩,
  .one ⟨some 39, .move (.tmp 38), some (16, true)⟩,
  .blk 19 false [.one ⟨some 40, .move (.tmp 5), some (19, false)⟩] ⟨some 41, .pick (.tmp 39) (.const (.bool true)) (.tmp 40), some (16, true)⟩] ⟨some 42, .pick (.tmp 36) (.tmp 41) (.const (.bool false)), none⟩,
  .one ⟨some 43, .move (.tmp 42), none⟩,
  .blk 23 true [.one ⟨some 44, .fieldAddr 248 (.tmp 2) 2, some (23, true)⟩,
  .one ⟨some 45, .load 4 (.tmp 44), some (23, true)⟩,
  .one ⟨some 46, .move (.tmp 45), some (23, true)⟩,
  .blk 26 false [.one ⟨some 47, .fieldAddr 248 (.tmp 2) 3, some (26, false)⟩,
  .one ⟨some 48, .load 4 (.tmp 47), some (26, false)⟩] ⟨some 49, .pick (.tmp 46) (.const (.bool true)) (.tmp 48), some (23, true)⟩,
  .one ⟨some 50, .move (.tmp 49), some (23, true)⟩,
  .blk 30 false [.one ⟨some 51, .fieldAddr 49 (.tmp 3) 8, some (30, false)⟩,
  .one ⟨some 52, .load 9 (.tmp 51), some (30, false)⟩,
  .one ⟨some 53, .binOp .eql 9 (.tmp 52) (.const (.string ⟨#[]⟩)) 9, some (30, false)⟩] ⟨some 54, .pick (.tmp 50) (.const (.bool true)) (.tmp 53), some (23, true)⟩] ⟨some 55, .pick (.tmp 43) (.tmp 54) (.const (.bool false)), none⟩,
  .one ⟨some 56, .move (.tmp 55), none⟩,
  .blk 36 true [.one ⟨some 57, .fieldAddr 248 (.tmp 2) 2, some (36, true)⟩,
  .one ⟨some 58, .load 4 (.tmp 57), some (36, true)⟩,
  .one ⟨some 59, .move (.tmp 58), some (36, true)⟩,
  .blk 39 false [.one ⟨some 60, .fieldAddr 248 (.tmp 2) 4, some (39, false)⟩,
  .one ⟨some 61, .load 4 (.tmp 60), some (39, false)⟩] ⟨some 62, .pick (.tmp 59) (.const (.bool true)) (.tmp 61), some (36, true)⟩,
  .one ⟨some 63, .move (.tmp 62), some (36, true)⟩,
  .blk 43 false [.one ⟨some 64, .fieldAddr 49 (.tmp 3) 9, some (43, false)⟩,
  .one ⟨some 65, .load 23 (.tmp 64), some (43, false)⟩,
  .one ⟨some 66, .call ⟨.builtin .len, #[.tmp 65], #[23]⟩, some (43, false)⟩,
  .one ⟨some 67, .binOp .eql 3 (.tmp 66) (.const (.int .i64 0)) 3, some (43, false)⟩] ⟨some 68, .pick (.tmp 63) (.const (.bool true)) (.tmp 67), some (36, true)⟩] ⟨some 69, .pick (.tmp 56) (.tmp 68) (.const (.bool false)), none⟩,
  .one ⟨some 70, .move (.tmp 69), none⟩,
  .blk 50 true [.one ⟨some 71, .fieldAddr 248 (.tmp 2) 2, some (50, true)⟩,
  .one ⟨some 72, .load 4 (.tmp 71), some (50, true)⟩,
  .one ⟨some 73, .move (.tmp 72), some (50, true)⟩,
  .blk 53 false [.one ⟨some 74, .fieldAddr 248 (.tmp 2) 5, some (53, false)⟩,
  .one ⟨some 75, .load 4 (.tmp 74), some (53, false)⟩] ⟨some 76, .pick (.tmp 73) (.const (.bool true)) (.tmp 75), some (50, true)⟩,
  .one ⟨some 77, .move (.tmp 76), some (50, true)⟩,
  .blk 57 false [.one ⟨some 78, .fieldAddr 49 (.tmp 3) 10, some (57, false)⟩,
  .one ⟨some 79, .load 9 (.tmp 78), some (57, false)⟩,
  .one ⟨some 80, .binOp .eql 9 (.tmp 79) (.const (.string ⟨#[]⟩)) 9, some (57, false)⟩] ⟨some 81, .pick (.tmp 77) (.const (.bool true)) (.tmp 80), some (50, true)⟩] ⟨some 82, .pick (.tmp 70) (.tmp 81) (.const (.bool false)), none⟩,
  .one ⟨some 83, .move (.tmp 82), none⟩,
  .blk 63 true [.one ⟨some 84, .fieldAddr 248 (.tmp 2) 6, some (63, true)⟩,
  .one ⟨some 85, .load 4 (.tmp 84), some (63, true)⟩,
  .one ⟨some 86, .move (.tmp 85), some (63, true)⟩,
  .blk 66 false [.one ⟨some 87, .fieldAddr 49 (.tmp 3) 13, some (66, false)⟩,
  .one ⟨some 88, .load 45 (.tmp 87), some (66, false)⟩,
  .one ⟨some 89, .call ⟨.builtin .len, #[.tmp 88], #[45]⟩, some (66, false)⟩,
  .one ⟨some 90, .binOp .eql 3 (.tmp 89) (.const (.int .i64 0)) 3, some (66, false)⟩] ⟨some 91, .pick (.tmp 86) (.const (.bool true)) (.tmp 90), some (63, true)⟩] ⟨some 92, .pick (.tmp 83) (.tmp 91) (.const (.bool false)), none⟩,
  .one ⟨some 93, .move (.tmp 92), none⟩,
  .blk 73 true [.one ⟨some 94, .fieldAddr 248 (.tmp 2) 7, some (73, true)⟩,
  .one ⟨some 95, .load 4 (.tmp 94), some (73, true)⟩,
  .one ⟨some 96, .move (.tmp 95), some (73, true)⟩,
  .blk 76 false [.one ⟨some 97, .fieldAddr 49 (.tmp 3) 14, some (76, false)⟩,
  .one ⟨some 98, .load 3 (.tmp 97), some (76, false)⟩,
  .one ⟨some 99, .binOp .eql 3 (.tmp 98) (.const (.int .i64 0)) 3, some (76, false)⟩] ⟨some 100, .pick (.tmp 96) (.const (.bool true)) (.tmp 99), some (73, true)⟩] ⟨some 101, .pick (.tmp 93) (.tmp 100) (.const (.bool false)), none⟩,
  .one ⟨some 102, .move (.tmp 101), none⟩,
  .blk 82 true [.one ⟨some 103, .fieldAddr 248 (.tmp 2) 8, some (82, true)⟩,
  .one ⟨some 104, .load 4 (.tmp 103), some (82, true)⟩,
  .one ⟨some 105, .move (.tmp 104), some (82, true)⟩,
  .blk 85 false [.one ⟨some 106, .fieldAddr 49 (.tmp 3) 15, some (85, false)⟩,
  .one ⟨some 107, .load 3 (.tmp 106), some (85, false)⟩,
  .one ⟨some 108, .binOp .eql 3 (.tmp 107) (.const (.int .i64 0)) 3, some (85, false)⟩] ⟨some 109, .pick (.tmp 105) (.const (.bool true)) (.tmp 108), some (82, true)⟩] ⟨some 110, .pick (.tmp 102) (.tmp 109) (.const (.bool false)), none⟩,
  .one ⟨some 4, .assign (.tmp 110), none⟩]
def act_fields_unused_L : MCode := (.seq (.reg 0 act_fields_unused_R0 false) (.seq (.reg 1 act_fields_unused_R1 false) (.seq (.reg 2 act_fields_unused_R2 false) .ret)))
def act_fields_unused_ks : Nat → List Nat := fun i => match i with
  | _ => []
theorem act_fields_unused_F : FnL Tryz.prog GW 191 111 act_fields_unused_L [.tmp 4] act_fields_unused_ks := ⟨⟨_, Tryz.func191, rfl, by kernel_rfl, by kernel_rfl, rfl⟩, by kernel_rfl, by kernel_rfl⟩
/-! agora/act.Right -/
def act_Right_R0 : List Itm := [.one ⟨some 1, .box 49 (.tmp 0), none⟩,
  .one ⟨some 2, .assign (.const (.bool false)), none⟩]
def act_Right_R1 : List Itm := [.one ⟨some 6, .load 250 (.global 0), none⟩,
  .one ⟨some 7, .fieldAddr 49 (.tmp 1) 3, none⟩,
  .one ⟨some 8, .load 3 (.tmp 7), none⟩,
  .one ⟨some 9, .lookup 250 (.tmp 6) (.tmp 8) true, none⟩,
  .one ⟨some 5, .move (.tmp 9), none⟩,
  .one ⟨some 10, .extract (.tmp 5) 0, none⟩,
  .one ⟨some 11, .extract (.tmp 5) 1, none⟩,
  .one ⟨some 3, .alloc 248, none⟩,
  .one ⟨none, .store 248 (.tmp 3) (.tmp 10), none⟩,
  .one ⟨some 4, .assign (.tmp 11), none⟩]
def act_Right_R2 : List Itm := [.one ⟨some 12, .move (.tmp 4), none⟩,
  .one ⟨some 13, .unOp .not 4 (.tmp 12), none⟩,
  .one ⟨some 14, .move (.tmp 13), none⟩,
  .blk 2 false [.one ⟨some 15, .fieldAddr 49 (.tmp 1) 0, some (2, false)⟩,
  .one ⟨some 16, .load 9 (.tmp 15), some (2, false)⟩,
  .one ⟨some 17, .call ⟨.value (.func 188), #[.tmp 16], #[9]⟩, some (2, false)⟩,
  .one ⟨some 18, .unOp .not 4 (.tmp 17), some (2, false)⟩] ⟨some 19, .pick (.tmp 14) (.const (.bool true)) (.tmp 18), none⟩,
  .one ⟨some 20, .move (.tmp 19), none⟩,
  .blk 8 false [.one ⟨some 21, .fieldAddr 49 (.tmp 1) 1, some (8, false)⟩,
  .one ⟨some 22, .load 3 (.tmp 21), some (8, false)⟩,
  .one ⟨some 23, .call ⟨.value (.func 189), #[.tmp 22, .const (.int .i64 0), .const (.int .i64 1073741824)], #[3, 3, 3]⟩, some (8, false)⟩,
  .one ⟨some 24, .unOp .not 4 (.tmp 23), some (8, false)⟩] ⟨some 25, .pick (.tmp 20) (.const (.bool true)) (.tmp 24), none⟩,
  .one ⟨some 26, .move (.tmp 25), none⟩,
  .blk 14 false [.one ⟨some 27, .fieldAddr 49 (.tmp 1) 4, some (14, false)⟩,
  .one ⟨some 28, .load 3 (.tmp 27), some (14, false)⟩,
  .one ⟨some 29, .call ⟨.value (.func 189), #[.tmp 28, .const (.int .i64 0), .const (.int .i64 1099511627776)], #[3, 3, 3]⟩, some (14, false)⟩,
  .one ⟨some 30, .unOp .not 4 (.tmp 29), some (14, false)⟩] ⟨some 31, .pick (.tmp 26) (.const (.bool true)) (.tmp 30), none⟩,
  .one ⟨some 32, .move (.tmp 31), none⟩,
  .blk 20 false [.one ⟨some 33, .fieldAddr 49 (.tmp 1) 3, some (20, false)⟩,
  .one ⟨some 34, .load 3 (.tmp 33), some (20, false)⟩,
  .one ⟨some 35, .binOp .eql 3 (.tmp 34) (.const (.int .i64 0)) 3, some (20, false)⟩,
  .one ⟨some 36, .fieldAddr 49 (.tmp 1) 1, some (20, false)⟩,
  .one ⟨some 37, .load 3 (.tmp 36), some (20, false)⟩,
  .one ⟨some 38, .binOp .eql 3 (.tmp 37) (.const (.int .i64 0)) 3, some (20, false)⟩,
  .one ⟨some 39, .binOp .neq 4 (.tmp 35) (.tmp 38) 4, some (20, false)⟩] ⟨some 40, .pick (.tmp 32) (.const (.bool true)) (.tmp 39), none⟩]
def act_Right_R3 : List Itm := [.one ⟨some 2, .assign (.const (.bool false)), none⟩]
def act_Right_R4 : List Itm := [.one ⟨some 41, .fieldAddr 49 (.tmp 1) 16, none⟩,
  .one ⟨some 42, .fieldAddr 47 (.tmp 41) 0, none⟩,
  .one ⟨some 43, .load 3 (.tmp 42), none⟩,
  .one ⟨some 44, .call ⟨.value (.func 189), #[.tmp 43, .const (.int .i64 0), .const (.int .i64 2305843009213693949)], #[3, 3, 3]⟩, none⟩,
  .one ⟨some 45, .unOp .not 4 (.tmp 44), none⟩,
  .one ⟨some 46, .move (.tmp 45), none⟩,
  .blk 5 false [.one ⟨some 47, .fieldAddr 49 (.tmp 1) 16, some (5, false)⟩,
  .one ⟨some 48, .fieldAddr 47 (.tmp 47) 1, some (5, false)⟩,
  .one ⟨some 49, .load 3 (.tmp 48), some (5, false)⟩,
  .one ⟨some 50, .call ⟨.value (.func 189), #[.tmp 49, .const (.int .i64 0), .const (.int .i64 2305843009213693949)], #[3, 3, 3]⟩, some (5, false)⟩,
  .one ⟨some 51, .unOp .not 4 (.tmp 50), some (5, false)⟩] ⟨some 52, .pick (.tmp 46) (.const (.bool true)) (.tmp 51), none⟩]
def act_Right_R5 : List Itm := [.one ⟨some 2, .assign (.const (.bool false)), none⟩]
def act_Right_R6 : List Itm := [.one ⟨some 53, .fieldAddr 49 (.tmp 1) 1, none⟩,
  .one ⟨some 54, .load 3 (.tmp 53), none⟩,
  .one ⟨some 55, .binOp .eql 3 (.tmp 54) (.const (.int .i64 0)) 3, none⟩,
  .one ⟨some 56, .move (.tmp 55), none⟩,
  .blk 3 true [.one ⟨some 57, .fieldAddr 49 (.tmp 1) 2, some (3, true)⟩,
  .one ⟨some 58, .load 9 (.tmp 57), some (3, true)⟩,
  .one ⟨some 59, .binOp .neq 9 (.tmp 58) (.const (.string ⟨#[]⟩)) 9, some (3, true)⟩] ⟨some 60, .pick (.tmp 56) (.tmp 59) (.const (.bool false)), none⟩,
  .one ⟨some 61, .move (.tmp 60), none⟩,
  .blk 8 false [.one ⟨some 62, .fieldAddr 49 (.tmp 1) 1, some (8, false)⟩,
  .one ⟨some 63, .load 3 (.tmp 62), some (8, false)⟩,
  .one ⟨some 64, .binOp .gtr 3 (.tmp 63) (.const (.int .i64 0)) 3, some (8, false)⟩,
  .one ⟨some 65, .move (.tmp 64), some (8, false)⟩,
  .blk 12 true [.one ⟨some 66, .fieldAddr 49 (.tmp 1) 2, some (12, true)⟩,
  .one ⟨some 67, .load 9 (.tmp 66), some (12, true)⟩,
  .one ⟨some 68, .call ⟨.value (.func 190), #[.tmp 67], #[9]⟩, some (12, true)⟩,
  .one ⟨some 69, .unOp .not 4 (.tmp 68), some (12, true)⟩] ⟨some 70, .pick (.tmp 65) (.tmp 69) (.const (.bool false)), some (8, false)⟩] ⟨some 71, .pick (.tmp 61) (.const (.bool true)) (.tmp 70), none⟩,
  .one ⟨some 72, .move (.tmp 71), none⟩,
  .blk 19 false [.one ⟨some 73, .load 248 (.tmp 3), some (19, false)⟩,
  .one ⟨some 74, .load 49 (.tmp 1), some (19, false)⟩,
  .one ⟨some 75, .call ⟨.value (.func 191), #[.tmp 73, .tmp 74], #[248, 49]⟩, some (19, false)⟩,
  .one ⟨some 76, .unOp .not 4 (.tmp 75), some (19, false)⟩] ⟨some 77, .pick (.tmp 72) (.const (.bool true)) (.tmp 76), none⟩]
def act_Right_R7 : List Itm := [.one ⟨some 2, .assign (.const (.bool false)), none⟩]
def act_Right_R8 : List Itm := [.one ⟨some 78, .fieldAddr 248 (.tmp 3) 0, none⟩,
  .one ⟨some 79, .load 4 (.tmp 78), none⟩,
  .one ⟨some 80, .move (.tmp 79), none⟩,
  .blk 2 true [.one ⟨some 81, .fieldAddr 49 (.tmp 1) 5, some (2, true)⟩,
  .one ⟨some 82, .load 9 (.tmp 81), some (2, true)⟩,
  .one ⟨some 83, .call ⟨.value (.func 190), #[.tmp 82], #[9]⟩, some (2, true)⟩,
  .one ⟨some 84, .unOp .not 4 (.tmp 83), some (2, true)⟩] ⟨some 85, .pick (.tmp 80) (.tmp 84) (.const (.bool false)), none⟩,
  .one ⟨some 86, .move (.tmp 85), none⟩,
  .blk 8 true [.one ⟨some 87, .fieldAddr 248 (.tmp 3) 1, some (8, true)⟩,
  .one ⟨some 88, .load 4 (.tmp 87), some (8, true)⟩,
  .one ⟨some 89, .unOp .not 4 (.tmp 88), some (8, true)⟩,
  .one ⟨some 90, .move (.tmp 89), some (8, true)⟩,
  .blk 12 false [.one ⟨some 91, .fieldAddr 49 (.tmp 1) 5, some (12, false)⟩,
  .one ⟨some 92, .load 9 (.tmp 91), some (12, false)⟩,
  .one ⟨some 93, .binOp .neq 9 (.tmp 92) (.const (.string ⟨#[]⟩)) 9, some (12, false)⟩] ⟨some 94, .pick (.tmp 90) (.const (.bool true)) (.tmp 93), some (8, true)⟩] ⟨some 95, .pick (.tmp 86) (.tmp 94) (.const (.bool false)), none⟩,
  .one ⟨some 96, .move (.tmp 95), none⟩,
  .blk 18 false [.one ⟨some 97, .fieldAddr 248 (.tmp 3) 1, some (18, false)⟩,
  .one ⟨some 98, .load 4 (.tmp 97), some (18, false)⟩,
  .one ⟨some 99, .move (.tmp 98), some (18, false)⟩,
  .blk 21 true [.one ⟨some 100, .fieldAddr 49 (.tmp 1) 6, some (21, true)⟩,
  .one ⟨some 101, .load 9 (.tmp 100), some (21, true)⟩,
  .one ⟨some 102, .call ⟨.value (.func 188), #[.tmp 101], #[9]⟩, some (21, true)⟩,
  .one ⟨some 103, .unOp .not 4 (.tmp 102), some (21, true)⟩] ⟨some 104, .pick (.tmp 99) (.tmp 103) (.const (.bool false)), some (18, false)⟩,
  .one ⟨some 105, .move (.tmp 104), some (18, false)⟩,
  .blk 27 true [.one ⟨some 106, .fieldAddr 248 (.tmp 3) 0, some (27, true)⟩,
  .one ⟨some 107, .load 4 (.tmp 106), some (27, true)⟩,
  .one ⟨some 108, .unOp .not 4 (.tmp 107), some (27, true)⟩,
  .one ⟨some 109, .move (.tmp 108), some (27, true)⟩,
  .blk 31 false [.one ⟨some 110, .fieldAddr 49 (.tmp 1) 6, some (31, false)⟩,
  .one ⟨some 111, .load 9 (.tmp 110), some (31, false)⟩,
  .one ⟨some 112, .binOp .neq 9 (.tmp 111) (.const (.string ⟨#[]⟩)) 9, some (31, false)⟩] ⟨some 113, .pick (.tmp 109) (.const (.bool true)) (.tmp 112), some (27, true)⟩] ⟨some 114, .pick (.tmp 105) (.tmp 113) (.const (.bool false)), some (18, false)⟩] ⟨some 115, .pick (.tmp 96) (.const (.bool true)) (.tmp 114), none⟩]
def act_Right_R9 : List Itm := [.one ⟨some 2, .assign (.const (.bool false)), none⟩]
def act_Right_R10 : List Itm := [.one ⟨some 116, .fieldAddr 248 (.tmp 3) 9, none⟩,
  .one ⟨some 117, .load 151 (.tmp 116), none⟩,
  .one ⟨some 118, .binOp .eql 151 (.tmp 117) (.const .nilFunc) 151, none⟩,
  .one ⟨some 119, .move (.tmp 118), none⟩,
  .blk 3 false [.one ⟨some 120, .fieldAddr 248 (.tmp 3) 9, some (3, false)⟩,
  .one ⟨some 121, .load 151 (.tmp 120), some (3, false)⟩,
  .one ⟨some 122, .load 49 (.tmp 1), some (3, false)⟩,
  .one ⟨some 123, .call ⟨.value (.tmp 121), #[.tmp 122], #[49]⟩, some (3, false)⟩] ⟨some 124, .pick (.tmp 119) (.const (.bool true)) (.tmp 123), none⟩,
  .one ⟨some 2, .assign (.tmp 124), none⟩]
def act_Right_L : MCode := (.seq (.reg 0 act_Right_R0 false) (.seq (.reg 1 act_Right_R1 false) (.seq (.seq (.reg 2 act_Right_R2 false) (.cond (.tmp 40) (.seq (.reg 3 act_Right_R3 false) .ret) .skip)) (.seq (.seq (.reg 4 act_Right_R4 false) (.cond (.tmp 52) (.seq (.reg 5 act_Right_R5 false) .ret) .skip)) (.seq (.seq (.reg 6 act_Right_R6 false) (.cond (.tmp 77) (.seq (.reg 7 act_Right_R7 false) .ret) .skip)) (.seq (.seq (.reg 8 act_Right_R8 false) (.cond (.tmp 115) (.seq (.reg 9 act_Right_R9 false) .ret) .skip)) (.seq (.reg 10 act_Right_R10 false) .ret)))))))
def act_Right_ks : Nat → List Nat := fun i => match i with
  | _ => []
theorem act_Right_F : FnL Tryz.prog GW 152 125 act_Right_L [.tmp 2] act_Right_ks := ⟨⟨_, Tryz.func152, rfl, by kernel_rfl, by kernel_rfl, rfl⟩, by kernel_rfl, by kernel_rfl⟩
/-! slices.Equal[list of string,string] -/
def slices_Equal_Lstring_string_R0 : List Itm := [.one ⟨some 4, .assign (.const (.bool false)), none⟩]
def slices_Equal_Lstring_string_R1 : List Itm := [.one ⟨some 6, .move (.tmp 0), none⟩,
  .one ⟨some 7, .call ⟨.builtin .len, #[.tmp 6], #[23]⟩, none⟩,
  .one ⟨some 8, .move (.tmp 1), none⟩,
  .one ⟨some 9, .call ⟨.builtin .len, #[.tmp 8], #[23]⟩, none⟩,
  .one ⟨some 10, .binOp .neq 3 (.tmp 7) (.tmp 9) 3, none⟩]
def slices_Equal_Lstring_string_R2 : List Itm := [.one ⟨some 4, .assign (.const (.bool false)), none⟩]
def slices_Equal_Lstring_string_R3 : List Itm := [.one ⟨some 11, .move (.tmp 0), none⟩,
  .one ⟨some 12, .call ⟨.builtin .len, #[.tmp 11], #[23]⟩, none⟩,
  .one ⟨some 13, .move (.const (.int .i64 0)), none⟩]
def slices_Equal_Lstring_string_R4 : List Itm := [.one ⟨some 14, .binOp .lss 3 (.tmp 13) (.tmp 12) 3, none⟩]
def slices_Equal_Lstring_string_R5 : List Itm := [.one ⟨some 15, .move (.tmp 13), none⟩,
  .one ⟨some 5, .assign (.tmp 15), none⟩]
def slices_Equal_Lstring_string_R6 : List Itm := [.one ⟨some 16, .move (.tmp 0), none⟩,
  .one ⟨some 17, .move (.tmp 5), none⟩,
  .one ⟨some 18, .indexAddr 23 (.tmp 16) (.tmp 17), none⟩,
  .one ⟨some 19, .load 9 (.tmp 18), none⟩,
  .one ⟨some 20, .move (.tmp 1), none⟩,
  .one ⟨some 21, .move (.tmp 5), none⟩,
  .one ⟨some 22, .indexAddr 23 (.tmp 20) (.tmp 21), none⟩,
  .one ⟨some 23, .load 9 (.tmp 22), none⟩,
  .one ⟨some 24, .binOp .neq 9 (.tmp 19) (.tmp 23) 9, none⟩]
def slices_Equal_Lstring_string_R7 : List Itm := [.one ⟨some 4, .assign (.const (.bool false)), none⟩]
def slices_Equal_Lstring_string_B1 : MCode := (.seq (.reg 5 slices_Equal_Lstring_string_R5 false) (.seq (.reg 6 slices_Equal_Lstring_string_R6 true) (.cond (.tmp 24) (.seq (.reg 7 slices_Equal_Lstring_string_R7 false) .ret) .skip)))
def slices_Equal_Lstring_string_R8 : List Itm := [.one ⟨some 25, .binOp .add 3 (.tmp 13) (.const (.int .i64 1)) 3, none⟩,
  .one ⟨some 13, .move (.tmp 25), none⟩]
def slices_Equal_Lstring_string_W1 : MCode := (.seq (.reg 4 slices_Equal_Lstring_string_R4 false) (.seq (.cond (.tmp 14) .skip (.exit 0)) (.seq (.block 1 slices_Equal_Lstring_string_B1) (.reg 8 slices_Equal_Lstring_string_R8 false))))
def slices_Equal_Lstring_string_B0 : MCode := (.loop slices_Equal_Lstring_string_W1)
def slices_Equal_Lstring_string_R9 : List Itm := [.one ⟨some 4, .assign (.const (.bool true)), none⟩]
def slices_Equal_Lstring_string_L : MCode := (.seq (.reg 0 slices_Equal_Lstring_string_R0 false) (.seq (.seq (.reg 1 slices_Equal_Lstring_string_R1 false) (.cond (.tmp 10) (.seq (.reg 2 slices_Equal_Lstring_string_R2 false) .ret) .skip)) (.seq (.seq (.reg 3 slices_Equal_Lstring_string_R3 false) (.block 0 slices_Equal_Lstring_string_B0)) (.seq (.reg 9 slices_Equal_Lstring_string_R9 false) .ret))))
def slices_Equal_Lstring_string_ks : Nat → List Nat := fun i => match i with
  | 6 => [0, 0, 0, 0, 0, 0, 0, 0, 0]
  | _ => []
theorem slices_Equal_Lstring_string_F : FnL Tryz.prog GW 69 26 slices_Equal_Lstring_string_L [.tmp 4] slices_Equal_Lstring_string_ks := ⟨⟨_, Tryz.func69, rfl, by kernel_rfl, by kernel_rfl, rfl⟩, by kernel_rfl, by kernel_rfl⟩
/-! slices.Equal[list of agora/api.Wrap,agora/api.Wrap] -/
def slices_Equal_Lapi_Wrap_api_Wrap_R0 : List Itm := [.one ⟨some 4, .assign (.const (.bool false)), none⟩]
def slices_Equal_Lapi_Wrap_api_Wrap_R1 : List Itm := [.one ⟨some 6, .move (.tmp 0), none⟩,
  .one ⟨some 7, .call ⟨.builtin .len, #[.tmp 6], #[45]⟩, none⟩,
  .one ⟨some 8, .move (.tmp 1), none⟩,
  .one ⟨some 9, .call ⟨.builtin .len, #[.tmp 8], #[45]⟩, none⟩,
  .one ⟨some 10, .binOp .neq 3 (.tmp 7) (.tmp 9) 3, none⟩]
def slices_Equal_Lapi_Wrap_api_Wrap_R2 : List Itm := [.one ⟨some 4, .assign (.const (.bool false)), none⟩]
def slices_Equal_Lapi_Wrap_api_Wrap_R3 : List Itm := [.one ⟨some 11, .move (.tmp 0), none⟩,
  .one ⟨some 12, .call ⟨.builtin .len, #[.tmp 11], #[45]⟩, none⟩,
  .one ⟨some 13, .move (.const (.int .i64 0)), none⟩]
def slices_Equal_Lapi_Wrap_api_Wrap_R4 : List Itm := [.one ⟨some 14, .binOp .lss 3 (.tmp 13) (.tmp 12) 3, none⟩]
def slices_Equal_Lapi_Wrap_api_Wrap_R5 : List Itm := [.one ⟨some 15, .move (.tmp 13), none⟩,
  .one ⟨some 5, .assign (.tmp 15), none⟩]
def slices_Equal_Lapi_Wrap_api_Wrap_R6 : List Itm := [.one ⟨some 16, .move (.tmp 0), none⟩,
  .one ⟨some 17, .move (.tmp 5), none⟩,
  .one ⟨some 18, .indexAddr 45 (.tmp 16) (.tmp 17), none⟩,
  .one ⟨some 19, .load 230 (.tmp 18), none⟩,
  .one ⟨some 20, .move (.tmp 1), none⟩,
  .one ⟨some 21, .move (.tmp 5), none⟩,
  .one ⟨some 22, .indexAddr 45 (.tmp 20) (.tmp 21), none⟩,
  .one ⟨some 23, .load 230 (.tmp 22), none⟩,
  .one ⟨some 24, .binOp .neq 230 (.tmp 19) (.tmp 23) 230, none⟩]
def slices_Equal_Lapi_Wrap_api_Wrap_R7 : List Itm := [.one ⟨some 4, .assign (.const (.bool false)), none⟩]
def slices_Equal_Lapi_Wrap_api_Wrap_B1 : MCode := (.seq (.reg 5 slices_Equal_Lapi_Wrap_api_Wrap_R5 false) (.seq (.reg 6 slices_Equal_Lapi_Wrap_api_Wrap_R6 true) (.cond (.tmp 24) (.seq (.reg 7 slices_Equal_Lapi_Wrap_api_Wrap_R7 false) .ret) .skip)))
def slices_Equal_Lapi_Wrap_api_Wrap_R8 : List Itm := [.one ⟨some 25, .binOp .add 3 (.tmp 13) (.const (.int .i64 1)) 3, none⟩,
  .one ⟨some 13, .move (.tmp 25), none⟩]
def slices_Equal_Lapi_Wrap_api_Wrap_W1 : MCode := (.seq (.reg 4 slices_Equal_Lapi_Wrap_api_Wrap_R4 false) (.seq (.cond (.tmp 14) .skip (.exit 0)) (.seq (.block 1 slices_Equal_Lapi_Wrap_api_Wrap_B1) (.reg 8 slices_Equal_Lapi_Wrap_api_Wrap_R8 false))))
def slices_Equal_Lapi_Wrap_api_Wrap_B0 : MCode := (.loop slices_Equal_Lapi_Wrap_api_Wrap_W1)
def slices_Equal_Lapi_Wrap_api_Wrap_R9 : List Itm := [.one ⟨some 4, .assign (.const (.bool true)), none⟩]
def slices_Equal_Lapi_Wrap_api_Wrap_L : MCode := (.seq (.reg 0 slices_Equal_Lapi_Wrap_api_Wrap_R0 false) (.seq (.seq (.reg 1 slices_Equal_Lapi_Wrap_api_Wrap_R1 false) (.cond (.tmp 10) (.seq (.reg 2 slices_Equal_Lapi_Wrap_api_Wrap_R2 false) .ret) .skip)) (.seq (.seq (.reg 3 slices_Equal_Lapi_Wrap_api_Wrap_R3 false) (.block 0 slices_Equal_Lapi_Wrap_api_Wrap_B0)) (.seq (.reg 9 slices_Equal_Lapi_Wrap_api_Wrap_R9 false) .ret))))
def slices_Equal_Lapi_Wrap_api_Wrap_ks : Nat → List Nat := fun i => match i with
  | 6 => [0, 0, 0, 0, 0, 0, 0, 0, 0]
  | _ => []
theorem slices_Equal_Lapi_Wrap_api_Wrap_F : FnL Tryz.prog GW 246 26 slices_Equal_Lapi_Wrap_api_Wrap_L [.tmp 4] slices_Equal_Lapi_Wrap_api_Wrap_ks := ⟨⟨_, Tryz.func246, rfl, by kernel_rfl, by kernel_rfl, rfl⟩, by kernel_rfl, by kernel_rfl⟩
/-! agora/act.Same -/
def act_Same_R0 : List Itm := [.one ⟨some 2, .box 49 (.tmp 0), none⟩,
  .one ⟨some 3, .box 49 (.tmp 1), none⟩,
  .one ⟨some 4, .assign (.const (.bool false)), none⟩]
def act_Same_R1 : List Itm := [.one ⟨some 5, .fieldAddr 49 (.tmp 2) 9, none⟩,
  .one ⟨some 6, .load 23 (.tmp 5), none⟩,
  .one ⟨some 7, .fieldAddr 49 (.tmp 3) 9, none⟩,
  .one ⟨some 8, .load 23 (.tmp 7), none⟩,
  .one ⟨some 9, .call ⟨.value (.func 69), #[.tmp 6, .tmp 8], #[23, 23]⟩, none⟩,
  .one ⟨some 10, .unOp .not 4 (.tmp 9), none⟩,
  .one ⟨some 11, .move (.tmp 10), none⟩,
  .blk 6 false [.one ⟨some 12, .fieldAddr 49 (.tmp 2) 13, some (6, false)⟩,
  .one ⟨some 13, .load 45 (.tmp 12), some (6, false)⟩,
  .one ⟨some 14, .fieldAddr 49 (.tmp 3) 13, some (6, false)⟩,
  .one ⟨some 15, .load 45 (.tmp 14), some (6, false)⟩,
  .one ⟨some 16, .call ⟨.value (.func 246), #[.tmp 13, .tmp 15], #[45, 45]⟩, some (6, false)⟩,
  .one ⟨some 17, .unOp .not 4 (.tmp 16), some (6, false)⟩] ⟨some 18, .pick (.tmp 11) (.const (.bool true)) (.tmp 17), none⟩]
def act_Same_R2 : List Itm := [.one ⟨some 4, .assign (.const (.bool false)), none⟩]
def act_Same_R3 : List Itm := [.one ⟨some 19, .fieldAddr 49 (.tmp 2) 0, none⟩,
  .one ⟨some 20, .load 9 (.tmp 19), none⟩,
  .one ⟨some 21, .fieldAddr 49 (.tmp 3) 0, none⟩,
  .one ⟨some 22, .load 9 (.tmp 21), none⟩,
  .one ⟨some 23, .binOp .eql 9 (.tmp 20) (.tmp 22) 9, none⟩,
  .one ⟨some 24, .move (.tmp 23), none⟩,
  .blk 5 true [.one ⟨some 25, .fieldAddr 49 (.tmp 2) 1, some (5, true)⟩,
  .one ⟨some 26, .load 3 (.tmp 25), some (5, true)⟩,
  .one ⟨some 27, .fieldAddr 49 (.tmp 3) 1, some (5, true)⟩,
  .one ⟨some 28, .load 3 (.tmp 27), some (5, true)⟩,
  .one ⟨some 29, .binOp .eql 3 (.tmp 26) (.tmp 28) 3, some (5, true)⟩] ⟨some 30, .pick (.tmp 24) (.tmp 29) (.const (.bool false)), none⟩,
  .one ⟨some 31, .move (.tmp 30), none⟩,
  .blk 12 true [.one ⟨some 32, .fieldAddr 49 (.tmp 2) 2, some (12, true)⟩,
  .one ⟨some 33, .load 9 (.tmp 32), some (12, true)⟩,
  .one ⟨some 34, .fieldAddr 49 (.tmp 3) 2, some (12, true)⟩,
  .one ⟨some 35, .load 9 (.tmp 34), some (12, true)⟩,
  .one ⟨some 36, .binOp .eql 9 (.tmp 33) (.tmp 35) 9, some (12, true)⟩] ⟨some 37, .pick (.tmp 31) (.tmp 36) (.const (.bool false)), none⟩,
  .one ⟨some 38, .move (.tmp 37), none⟩,
  .blk 19 true [.one ⟨some 39, .fieldAddr 49 (.tmp 2) 3, some (19, true)⟩,
  .one ⟨some 40, .load 3 (.tmp 39), some (19, true)⟩,
  .one ⟨some 41, .fieldAddr 49 (.tmp 3) 3, some (19, true)⟩,
  .one ⟨some 42, .load 3 (.tmp 41), some (19, true)⟩,
  .one ⟨some 43, .binOp .eql 3 (.tmp 40) (.tmp 42) 3, some (19, true)⟩] ⟨some 44, .pick (.tmp 38) (.tmp 43) (.const (.bool false)), none⟩,
  .one ⟨some 45, .move (.tmp 44), none⟩,
  .blk 26 true [.one ⟨some 46, .fieldAddr 49 (.tmp 2) 4, some (26, true)⟩,
  .one ⟨some 47, .load 3 (.tmp 46), some (26, true)⟩,
  .one ⟨some 48, .fieldAddr 49 (.tmp 3) 4, some (26, true)⟩,
  .one ⟨some 49, .load 3 (.tmp 48), some (26, true)⟩,
  .one ⟨some 50, .binOp .eql 3 (.tmp 47) (.tmp 49) 3, some (26, true)⟩] ⟨some 51, .pick (.tmp 45) (.tmp 50) (.const (.bool false)), none⟩,
  .one ⟨some 52, .move (.tmp 51), none⟩,
  .blk 33 true [.one ⟨some 53, .fieldAddr 49 (.tmp 2) 5, some (33, true)⟩,
  .one ⟨some 54, .load 9 (.tmp 53), some (33, true)⟩,
  .one ⟨some 55, .fieldAddr 49 (.tmp 3) 5, some (33, true)⟩,
  .one ⟨some 56, .load 9 (.tmp 55), some (33, true)⟩,
  .one ⟨some 57, .binOp .eql 9 (.tmp 54) (.tmp 56) 9, some (33, true)⟩] ⟨some 58, .pick (.tmp 52) (.tmp 57) (.const (.bool false)), none⟩,
  .one ⟨some 59, .move (.tmp 58), none⟩,
  .blk 40 true [.one ⟨some 60, .fieldAddr 49 (.tmp 2) 6, some (40, true)⟩,
  .one ⟨some 61, .load 9 (.tmp 60), some (40, true)⟩,
  .one ⟨some 62, .fieldAddr 49 (.tmp 3) 6, some (40, true)⟩,
  .one ⟨some 63, .load 9 (.tmp 62), some (40, true)⟩,
  .one ⟨some 64, .binOp .eql 9 (.tmp 61) (.tmp 63) 9, some (40, true)⟩] ⟨some 65, .pick (.tmp 59) (.tmp 64) (.const (.bool false)), none⟩,
  .one ⟨some 66, .move (.tmp 65), none⟩,
  .blk 47 true [.one ⟨some 67, .fieldAddr 49 (.tmp 2) 7, some (47, true)⟩,
  .one ⟨some 68, .load 3 (.tmp 67), some (47, true)⟩,
  .one ⟨some 69, .fieldAddr 49 (.tmp 3) 7, some (47, true)⟩,
  .one ⟨some 70, .load 3 (.tmp 69), some (47, true)⟩,
  .one ⟨some 71, .binOp .eql 3 (.tmp 68) (.tmp 70) 3, some (47, true)⟩] ⟨some 72, .pick (.tmp 66) (.tmp 71) (.const (.bool false)), none⟩,
  .one ⟨some 73, .move (.tmp 72), none⟩,
  .blk 54 true [.one ⟨some 74, .fieldAddr 49 (.tmp 2) 8, some (54, true)⟩,
  .one ⟨some 75, .load 9 (.tmp 74), some (54, true)⟩,
  .one ⟨some 76, .fieldAddr 49 (.tmp 3) 8, some (54, true)⟩,
  .one ⟨some 77, .load 9 (.tmp 76), some (54, true)⟩,
  .one ⟨some 78, .binOp .eql 9 (.tmp 75) (.tmp 77) 9, some (54, true)⟩] ⟨some 79, .pick (.tmp 73) (.tmp 78) (.const (.bool false)), none⟩,
  .one ⟨some 80, .move (.tmp 79), none⟩,
  .blk 61 true [.one ⟨some 81, .fieldAddr 49 (.tmp 2) 10, some (61, true)⟩,
  .one ⟨some 82, .load 9 (.tmp 81), some (61, true)⟩,
  .one ⟨some 83, .fieldAddr 49 (.tmp 3) 10, some (61, true)⟩,
  .one ⟨some 84, .load 9 (.tmp 83), some (61, true)⟩,
  .one ⟨some 85, .binOp .eql 9 (.tmp 82) (.tmp 84) 9, some (61, true)⟩] ⟨some 86, .pick (.tmp 80) (.tmp 85) (.const (.bool false)), none⟩,
  .one ⟨some 87, .move (.tmp 86), none⟩,
  .blk 68 true [.one ⟨some 88, .fieldAddr 49 (.tmp 2) 11, some (68, true)⟩,
  .one ⟨some 89, .load 44 (.tmp 88), some (68, true)⟩,
  .one ⟨some 90, .fieldAddr 49 (.tmp 3) 11, some (68, true)⟩,
  .one ⟨some 91, .load 44 (.tmp 90), some (68, true)⟩,
  .one ⟨some 92, .binOp .eql 44 (.tmp 89) (.tmp 91) 44, some (68, true)⟩] ⟨some 93, .pick (.tmp 87) (.tmp 92) (.const (.bool false)), none⟩,
  .one ⟨some 94, .move (.tmp 93), none⟩,
  .blk 75 true [.one ⟨some 95, .fieldAddr 49 (.tmp 2) 12, some (75, true)⟩,
  .one ⟨some 96, .load 3 (.tmp 95), some (75, true)⟩,
  .one ⟨some 97, .fieldAddr 49 (.tmp 3) 12, some (75, true)⟩,
  .one ⟨some 98, .load 3 (.tmp 97), some (75, true)⟩,
  .one ⟨some 99, .binOp .eql 3 (.tmp 96) (.tmp 98) 3, some (75, true)⟩] ⟨some 100, .pick (.tmp 94) (.tmp 99) (.const (.bool false)), none⟩,
  .one ⟨some 101, .move (.tmp 100), none⟩,
  .blk 82 true [.one ⟨some 102, .fieldAddr 49 (.tmp 2) 14, some (82, true)⟩,
  .one ⟨some 103, .load 3 (.tmp 102), some (82, true)⟩,
  .one ⟨some 104, .fieldAddr 49 (.tmp 3) 14, some (82, true)⟩,
  .one ⟨some 105, .load 3 (.tmp 104), some (82, true)⟩,
  .one ⟨some 106, .binOp .eql 3 (.tmp 103) (.tmp 105) 3, some (82, true)⟩] ⟨some 107, .pick (.tmp 101) (.tmp 106) (.const (.bool false)), none⟩,
  .one ⟨some 108, .move (.tmp 107), none⟩,
  .blk 89 true [.one ⟨some 109, .fieldAddr 49 (.tmp 2) 15, some (89, true)⟩,
  .one ⟨some 110, .load 3 (.tmp 109), some (89, true)⟩,
  .one ⟨some 111, .fieldAddr 49 (.tmp 3) 15, some (89, true)⟩,
  .one ⟨some 112, .load 3 (.tmp 111), some (89, true)⟩,
  .one ⟨some 113, .binOp .eql 3 (.tmp 110) (.tmp 112) 3, some (89, true)⟩] ⟨some 114, .pick (.tmp 108) (.tmp 113) (.const (.bool false)), none⟩,
  .one ⟨some 115, .move (.tmp 114), none⟩,
  .blk 96 true [.one ⟨some 116, .fieldAddr 49 (.tmp 2) 16, some (96, true)⟩,
  .one ⟨some 117, .load 47 (.tmp 116), some (96, true)⟩,
  .one ⟨some 118, .fieldAddr 49 (.tmp 3) 16, some (96, true)⟩,
  .one ⟨some 119, .load 47 (.tmp 118), some (96, true)⟩,
  .one ⟨some 120, .binOp .eql 47 (.tmp 117) (.tmp 119) 47, some (96, true)⟩] ⟨some 121, .pick (.tmp 115) (.tmp 120) (.const (.bool false)), none⟩,
  .one ⟨some 4, .assign (.tmp 121), none⟩]
def act_Same_L : MCode := (.seq (.reg 0 act_Same_R0 false) (.seq (.seq (.reg 1 act_Same_R1 false) (.cond (.tmp 18) (.seq (.reg 2 act_Same_R2 false) .ret) .skip)) (.seq (.reg 3 act_Same_R3 false) .ret)))
def act_Same_ks : Nat → List Nat := fun i => match i with
  | _ => []
theorem act_Same_F : FnL Tryz.prog GW 227 122 act_Same_L [.tmp 4] act_Same_ks := ⟨⟨_, Tryz.func227, rfl, by kernel_rfl, by kernel_rfl, rfl⟩, by kernel_rfl, by kernel_rfl⟩
/-! agora/item.sameDecision -/
def item_sameDecision_R0 : List Itm := [.one ⟨some 2, .box 147 (.tmp 0), none⟩,
  .one ⟨some 3, .box 147 (.tmp 1), none⟩,
  .one ⟨some 4, .assign (.const (.bool false)), none⟩]
def item_sameDecision_R1 : List Itm := [.one ⟨some 5, .fieldAddr 147 (.tmp 2) 6, none⟩,
  .one ⟨some 6, .load 23 (.tmp 5), none⟩,
  .one ⟨some 7, .fieldAddr 147 (.tmp 3) 6, none⟩,
  .one ⟨some 8, .load 23 (.tmp 7), none⟩,
  .one ⟨some 9, .call ⟨.value (.func 69), #[.tmp 6, .tmp 8], #[23, 23]⟩, none⟩,
  .one ⟨some 10, .move (.tmp 9), none⟩,
  .blk 5 true [.one ⟨some 11, .fieldAddr 147 (.tmp 2) 0, some (5, true)⟩,
  .one ⟨some 12, .load 3 (.tmp 11), some (5, true)⟩,
  .one ⟨some 13, .fieldAddr 147 (.tmp 3) 0, some (5, true)⟩,
  .one ⟨some 14, .load 3 (.tmp 13), some (5, true)⟩,
  .one ⟨some 15, .binOp .eql 3 (.tmp 12) (.tmp 14) 3, some (5, true)⟩] ⟨some 16, .pick (.tmp 10) (.tmp 15) (.const (.bool false)), none⟩,
  .one ⟨some 17, .move (.tmp 16), none⟩,
  .blk 12 true [.one ⟨some 18, .fieldAddr 147 (.tmp 2) 1, some (12, true)⟩,
  .one ⟨some 19, .load 3 (.tmp 18), some (12, true)⟩,
  .one ⟨some 20, .fieldAddr 147 (.tmp 3) 1, some (12, true)⟩,
  .one ⟨some 21, .load 3 (.tmp 20), some (12, true)⟩,
  .one ⟨some 22, .binOp .eql 3 (.tmp 19) (.tmp 21) 3, some (12, true)⟩] ⟨some 23, .pick (.tmp 17) (.tmp 22) (.const (.bool false)), none⟩,
  .one ⟨some 24, .move (.tmp 23), none⟩,
  .blk 19 true [.one ⟨some 25, .fieldAddr 147 (.tmp 2) 2, some (19, true)⟩,
  .one ⟨some 26, .load 3 (.tmp 25), some (19, true)⟩,
  .one ⟨some 27, .fieldAddr 147 (.tmp 3) 2, some (19, true)⟩,
  .one ⟨some 28, .load 3 (.tmp 27), some (19, true)⟩,
  .one ⟨some 29, .binOp .eql 3 (.tmp 26) (.tmp 28) 3, some (19, true)⟩] ⟨some 30, .pick (.tmp 24) (.tmp 29) (.const (.bool false)), none⟩,
  .one ⟨some 31, .move (.tmp 30), none⟩,
  .blk 26 true [.one ⟨some 32, .fieldAddr 147 (.tmp 2) 3, some (26, true)⟩,
  .one ⟨some 33, .load 9 (.tmp 32), some (26, true)⟩,
  .one ⟨some 34, .fieldAddr 147 (.tmp 3) 3, some (26, true)⟩,
  .one ⟨some 35, .load 9 (.tmp 34), some (26, true)⟩,
  .one ⟨some 36, .binOp .eql 9 (.tmp 33) (.tmp 35) 9, some (26, true)⟩] ⟨some 37, .pick (.tmp 31) (.tmp 36) (.const (.bool false)), none⟩,
  .one ⟨some 38, .move (.tmp 37), none⟩,
  .blk 33 true [.one ⟨some 39, .fieldAddr 147 (.tmp 2) 4, some (33, true)⟩,
  .one ⟨some 40, .load 9 (.tmp 39), some (33, true)⟩,
  .one ⟨some 41, .fieldAddr 147 (.tmp 3) 4, some (33, true)⟩,
  .one ⟨some 42, .load 9 (.tmp 41), some (33, true)⟩,
  .one ⟨some 43, .binOp .eql 9 (.tmp 40) (.tmp 42) 9, some (33, true)⟩] ⟨some 44, .pick (.tmp 38) (.tmp 43) (.const (.bool false)), none⟩,
  .one ⟨some 45, .move (.tmp 44), none⟩,
  .blk 40 true [.one ⟨some 46, .fieldAddr 147 (.tmp 2) 5, some (40, true)⟩,
  .one ⟨some 47, .load 9 (.tmp 46), some (40, true)⟩,
  .one ⟨some 48, .fieldAddr 147 (.tmp 3) 5, some (40, true)⟩,
  .one ⟨some 49, .load 9 (.tmp 48), some (40, true)⟩,
  .one ⟨some 50, .binOp .eql 9 (.tmp 47) (.tmp 49) 9, some (40, true)⟩] ⟨some 51, .pick (.tmp 45) (.tmp 50) (.const (.bool false)), none⟩,
  .one ⟨some 52, .move (.tmp 51), none⟩,
  .blk 47 true [.one ⟨some 53, .fieldAddr 147 (.tmp 2) 7, some (47, true)⟩,
  .one ⟨some 54, .load 3 (.tmp 53), some (47, true)⟩,
  .one ⟨some 55, .fieldAddr 147 (.tmp 3) 7, some (47, true)⟩,
  .one ⟨some 56, .load 3 (.tmp 55), some (47, true)⟩,
  .one ⟨some 57, .binOp .eql 3 (.tmp 54) (.tmp 56) 3, some (47, true)⟩] ⟨some 58, .pick (.tmp 52) (.tmp 57) (.const (.bool false)), none⟩,
  .one ⟨some 59, .move (.tmp 58), none⟩,
  .blk 54 true [.one ⟨some 60, .fieldAddr 147 (.tmp 2) 8, some (54, true)⟩,
  .one ⟨some 61, .load 3 (.tmp 60), some (54, true)⟩,
  .one ⟨some 62, .fieldAddr 147 (.tmp 3) 8, some (54, true)⟩,
  .one ⟨some 63, .load 3 (.tmp 62), some (54, true)⟩,
  .one ⟨some 64, .binOp .eql 3 (.tmp 61) (.tmp 63) 3, some (54, true)⟩] ⟨some 65, .pick (.tmp 59) (.tmp 64) (.const (.bool false)), none⟩,
  .one ⟨some 66, .move (.tmp 65), none⟩,
  .blk 61 true [.one ⟨some 67, .fieldAddr 147 (.tmp 2) 9, some (61, true)⟩,
  .one ⟨some 68, .load 3 (.tmp 67), some (61, true)⟩,
  .one ⟨some 69, .fieldAddr 147 (.tmp 3) 9, some (61, true)⟩,
  .one ⟨some 70, .load 3 (.tmp 69), some (61, true)⟩,
  .one ⟨some 71, .binOp .eql 3 (.tmp 68) (.tmp 70) 3, some (61, true)⟩] ⟨some 72, .pick (.tmp 66) (.tmp 71) (.const (.bool false)), none⟩,
  .one ⟨some 73, .move (.tmp 72), none⟩,
  .blk 68 true [.one ⟨some 74, .fieldAddr 147 (.tmp 2) 10, some (68, true)⟩,
  .one ⟨some 75, .load 47 (.tmp 74), some (68, true)⟩,
  .one ⟨some 76, .fieldAddr 147 (.tmp 3) 10, some (68, true)⟩,
  .one ⟨some 77, .load 47 (.tmp 76), some (68, true)⟩,
  .one ⟨some 78, .binOp .eql 47 (.tmp 75) (.tmp 77) 47, some (68, true)⟩] ⟨some 79, .pick (.tmp 73) (.tmp 78) (.const (.bool false)), none⟩,
  .one ⟨some 4, .assign (.tmp 79), none⟩]
def item_sameDecision_L : MCode := (.seq (.reg 0 item_sameDecision_R0 false) (.seq (.reg 1 item_sameDecision_R1 false) .ret))
def item_sameDecision_ks : Nat → List Nat := fun i => match i with
  | _ => []
theorem item_sameDecision_F : FnL Tryz.prog GW 228 80 item_sameDecision_L [.tmp 4] item_sameDecision_ks := ⟨⟨_, Tryz.func228, rfl, by kernel_rfl, by kernel_rfl, rfl⟩, by kernel_rfl, by kernel_rfl⟩
/-! agora/item.Same -/
def item_Same_R0 : List Itm := [.one ⟨some 2, .box 149 (.tmp 0), none⟩,
  .one ⟨some 3, .box 149 (.tmp 1), none⟩,
  .one ⟨some 4, .assign (.const (.bool false)), none⟩]
def item_Same_R1 : List Itm := [.one ⟨some 5, .fieldAddr 149 (.tmp 2) 0, none⟩,
  .one ⟨some 6, .load 3 (.tmp 5), none⟩,
  .one ⟨some 7, .fieldAddr 149 (.tmp 3) 0, none⟩,
  .one ⟨some 8, .load 3 (.tmp 7), none⟩,
  .one ⟨some 9, .binOp .eql 3 (.tmp 6) (.tmp 8) 3, none⟩,
  .one ⟨some 10, .move (.tmp 9), none⟩,
  .blk 5 true [.one ⟨some 11, .fieldAddr 149 (.tmp 2) 1, some (5, true)⟩,
  .one ⟨some 12, .load 49 (.tmp 11), some (5, true)⟩,
  .one ⟨some 13, .fieldAddr 149 (.tmp 3) 1, some (5, true)⟩,
  .one ⟨some 14, .load 49 (.tmp 13), some (5, true)⟩,
  .one ⟨some 15, .call ⟨.value (.func 227), #[.tmp 12, .tmp 14], #[49, 49]⟩, some (5, true)⟩] ⟨some 16, .pick (.tmp 10) (.tmp 15) (.const (.bool false)), none⟩,
  .one ⟨some 17, .move (.tmp 16), none⟩,
  .blk 12 true [.one ⟨some 18, .fieldAddr 149 (.tmp 2) 2, some (12, true)⟩,
  .one ⟨some 19, .load 143 (.tmp 18), some (12, true)⟩,
  .one ⟨some 20, .fieldAddr 149 (.tmp 3) 2, some (12, true)⟩,
  .one ⟨some 21, .load 143 (.tmp 20), some (12, true)⟩,
  .one ⟨some 22, .binOp .eql 143 (.tmp 19) (.tmp 21) 143, some (12, true)⟩] ⟨some 23, .pick (.tmp 17) (.tmp 22) (.const (.bool false)), none⟩,
  .one ⟨some 24, .move (.tmp 23), none⟩,
  .blk 19 true [.one ⟨some 25, .fieldAddr 149 (.tmp 2) 3, some (19, true)⟩,
  .one ⟨some 26, .load 145 (.tmp 25), some (19, true)⟩,
  .one ⟨some 27, .fieldAddr 149 (.tmp 3) 3, some (19, true)⟩,
  .one ⟨some 28, .load 145 (.tmp 27), some (19, true)⟩,
  .one ⟨some 29, .binOp .eql 145 (.tmp 26) (.tmp 28) 145, some (19, true)⟩] ⟨some 30, .pick (.tmp 24) (.tmp 29) (.const (.bool false)), none⟩,
  .one ⟨some 31, .move (.tmp 30), none⟩,
  .blk 26 true [.one ⟨some 32, .fieldAddr 149 (.tmp 2) 4, some (26, true)⟩,
  .one ⟨some 33, .load 147 (.tmp 32), some (26, true)⟩,
  .one ⟨some 34, .fieldAddr 149 (.tmp 3) 4, some (26, true)⟩,
  .one ⟨some 35, .load 147 (.tmp 34), some (26, true)⟩,
  .one ⟨some 36, .call ⟨.value (.func 228), #[.tmp 33, .tmp 35], #[147, 147]⟩, some (26, true)⟩] ⟨some 37, .pick (.tmp 31) (.tmp 36) (.const (.bool false)), none⟩,
  .one ⟨some 4, .assign (.tmp 37), none⟩]
def item_Same_L : MCode := (.seq (.reg 0 item_Same_R0 false) (.seq (.reg 1 item_Same_R1 false) .ret))
def item_Same_ks : Nat → List Nat := fun i => match i with
  | _ => []
theorem item_Same_F : FnL Tryz.prog GW 204 38 item_Same_L [.tmp 4] item_Same_ks := ⟨⟨_, Tryz.func204, rfl, by kernel_rfl, by kernel_rfl, rfl⟩, by kernel_rfl, by kernel_rfl⟩
/-! agora/item.Right -/
def item_Right_R0 : List Itm := [.one ⟨some 1, .box 149 (.tmp 0), none⟩,
  .one ⟨some 2, .assign (.const (.bool false)), none⟩]
def item_Right_R1 : List Itm := [.one ⟨some 5, .fieldAddr 149 (.tmp 1) 0, none⟩,
  .one ⟨some 6, .load 3 (.tmp 5), none⟩,
  .one ⟨some 7, .build 149 #[(0, .tmp 6)], none⟩,
  .one ⟨some 3, .alloc 149, none⟩,
  .one ⟨none, .store 149 (.tmp 3) (.tmp 7), none⟩]
def item_Right_R2 : List Itm := [.one ⟨some 4, .assign (.const (.bool false)), none⟩]
def item_Right_R3 : List Itm := [.one ⟨some 8, .fieldAddr 149 (.tmp 1) 0, none⟩,
  .one ⟨some 9, .load 3 (.tmp 8), none⟩]
def item_Right_R4 : List Itm := [.one ⟨some 11, .binOp .eql 3 (.tmp 9) (.const (.int .i64 0)) 3, none⟩,
  .one ⟨some 10, .assign (.tmp 11), none⟩]
def item_Right_R5 : List Itm := [.one ⟨some 12, .fieldAddr 149 (.tmp 1) 1, none⟩,
  .one ⟨some 13, .load 49 (.tmp 12), none⟩,
  .one ⟨some 14, .fieldAddr 149 (.tmp 1) 1, none⟩,
  .one ⟨some 15, .load 49 (.tmp 14), none⟩,
  .one ⟨some 16, .call ⟨.value (.func 152), #[.tmp 15], #[49]⟩, none⟩,
  .one ⟨some 17, .fieldAddr 149 (.tmp 3) 1, none⟩,
  .one ⟨none, .store 49 (.tmp 17) (.tmp 13), none⟩,
  .one ⟨some 4, .assign (.tmp 16), none⟩]
def item_Right_R6 : List Itm := [.one ⟨some 19, .binOp .eql 3 (.tmp 9) (.const (.int .i64 1)) 3, none⟩,
  .one ⟨some 18, .assign (.tmp 19), none⟩]
def item_Right_R7 : List Itm := [.one ⟨some 20, .fieldAddr 149 (.tmp 1) 2, none⟩,
  .one ⟨some 21, .load 143 (.tmp 20), none⟩,
  .one ⟨some 22, .fieldAddr 149 (.tmp 1) 2, none⟩,
  .one ⟨some 23, .load 143 (.tmp 22), none⟩,
  .one ⟨some 24, .call ⟨.value (.func 201), #[.tmp 23], #[143]⟩, none⟩,
  .one ⟨some 25, .fieldAddr 149 (.tmp 3) 2, none⟩,
  .one ⟨none, .store 143 (.tmp 25) (.tmp 21), none⟩,
  .one ⟨some 4, .assign (.tmp 24), none⟩]
def item_Right_R8 : List Itm := [.one ⟨some 27, .binOp .eql 3 (.tmp 9) (.const (.int .i64 2)) 3, none⟩,
  .one ⟨some 26, .assign (.tmp 27), none⟩]
def item_Right_R9 : List Itm := [.one ⟨some 28, .fieldAddr 149 (.tmp 1) 3, none⟩,
  .one ⟨some 29, .load 145 (.tmp 28), none⟩,
  .one ⟨some 30, .fieldAddr 149 (.tmp 1) 3, none⟩,
  .one ⟨some 31, .load 145 (.tmp 30), none⟩,
  .one ⟨some 32, .call ⟨.value (.func 202), #[.tmp 31], #[145]⟩, none⟩,
  .one ⟨some 33, .fieldAddr 149 (.tmp 3) 3, none⟩,
  .one ⟨none, .store 145 (.tmp 33) (.tmp 29), none⟩,
  .one ⟨some 4, .assign (.tmp 32), none⟩]
def item_Right_R10 : List Itm := [.one ⟨some 35, .binOp .eql 3 (.tmp 9) (.const (.int .i64 3)) 3, none⟩,
  .one ⟨some 34, .assign (.tmp 35), none⟩]
def item_Right_R11 : List Itm := [.one ⟨some 36, .fieldAddr 149 (.tmp 1) 4, none⟩,
  .one ⟨some 37, .load 147 (.tmp 36), none⟩,
  .one ⟨some 38, .fieldAddr 149 (.tmp 1) 4, none⟩,
  .one ⟨some 39, .load 147 (.tmp 38), none⟩,
  .one ⟨some 40, .call ⟨.value (.func 203), #[.tmp 39], #[147]⟩, none⟩,
  .one ⟨some 41, .fieldAddr 149 (.tmp 3) 4, none⟩,
  .one ⟨none, .store 147 (.tmp 41) (.tmp 37), none⟩,
  .one ⟨some 4, .assign (.tmp 40), none⟩]
def item_Right_B0 : MCode := (.seq (.reg 4 item_Right_R4 false) (.cond (.tmp 10) (.reg 5 item_Right_R5 true) (.seq (.reg 6 item_Right_R6 false) (.cond (.tmp 18) (.reg 7 item_Right_R7 true) (.seq (.reg 8 item_Right_R8 false) (.cond (.tmp 26) (.reg 9 item_Right_R9 true) (.seq (.reg 10 item_Right_R10 false) (.cond (.tmp 34) (.reg 11 item_Right_R11 true) .skip))))))))
def item_Right_R12 : List Itm := [.one ⟨some 42, .move (.tmp 4), none⟩,
  .one ⟨some 43, .move (.tmp 42), none⟩,
  .blk 1 true [.one ⟨some 44, .load 149 (.tmp 1), some (1, true)⟩,
  .one ⟨some 45, .load 149 (.tmp 3), some (1, true)⟩,
  .one ⟨some 46, .call ⟨.value (.func 204), #[.tmp 44, .tmp 45], #[149, 149]⟩, some (1, true)⟩] ⟨some 47, .pick (.tmp 43) (.tmp 46) (.const (.bool false)), none⟩,
  .one ⟨some 2, .assign (.tmp 47), none⟩]
def item_Right_L : MCode := (.seq (.reg 0 item_Right_R0 false) (.seq (.reg 1 item_Right_R1 false) (.seq (.reg 2 item_Right_R2 false) (.seq (.seq (.reg 3 item_Right_R3 false) (.block 0 item_Right_B0)) (.seq (.reg 12 item_Right_R12 false) .ret)))))
def item_Right_ks : Nat → List Nat := fun i => match i with
  | 5 => [0, 0, 0, 0, 0, 0, 2, 0]
  | 7 => [0, 0, 0, 0, 0, 0, 2, 0]
  | 9 => [0, 0, 0, 0, 0, 0, 2, 0]
  | 11 => [0, 0, 0, 0, 0, 0, 2, 0]
  | _ => []
theorem item_Right_F : FnL Tryz.prog GW 162 48 item_Right_L [.tmp 2] item_Right_ks := ⟨⟨_, Tryz.func162, rfl, by kernel_rfl, by kernel_rfl, rfl⟩, by kernel_rfl, by kernel_rfl⟩
/-! agora/ident.Name -/
def ident_Name_R0 : List Itm := [.one ⟨some 2, .assign (.const (.bool false)), none⟩]
def ident_Name_R1 : List Itm := [.one ⟨some 7, .move (.tmp 0), none⟩,
  .one ⟨some 8, .range 9 (.tmp 7), none⟩]
def ident_Name_R2 : List Itm := [.one ⟨some 9, .next (.tmp 8) true, none⟩,
  .one ⟨some 10, .extract (.tmp 9) 0, none⟩]
def ident_Name_R3 : List Itm := [.one ⟨some 11, .extract (.tmp 9) 1, none⟩,
  .one ⟨some 12, .extract (.tmp 9) 2, none⟩,
  .one ⟨some 3, .assign (.tmp 11), none⟩,
  .one ⟨some 4, .assign (.tmp 12), none⟩]
def ident_Name_R4 : List Itm := [.one ⟨some 13, .move (.tmp 4), none⟩,
  .one ⟨some 14, .binOp .geq 21 (.tmp 13) (.const (.int .i32 97)) 21, none⟩,
  .one ⟨some 15, .move (.tmp 14), none⟩,
  .blk 2 true [.one ⟨some 16, .move (.tmp 4), some (2, true)⟩,
  .one ⟨some 17, .binOp .leq 21 (.tmp 16) (.const (.int .i32 122)) 21, some (2, true)⟩] ⟨some 18, .pick (.tmp 15) (.tmp 17) (.const (.bool false)), none⟩,
  .one ⟨some 5, .assign (.tmp 18), none⟩]
def ident_Name_R5 : List Itm := [.one ⟨some 19, .move (.tmp 4), none⟩,
  .one ⟨some 20, .binOp .geq 21 (.tmp 19) (.const (.int .i32 48)) 21, none⟩,
  .one ⟨some 21, .move (.tmp 20), none⟩,
  .blk 2 true [.one ⟨some 22, .move (.tmp 4), some (2, true)⟩,
  .one ⟨some 23, .binOp .leq 21 (.tmp 22) (.const (.int .i32 57)) 21, some (2, true)⟩] ⟨some 24, .pick (.tmp 21) (.tmp 23) (.const (.bool false)), none⟩,
  .one ⟨some 25, .move (.tmp 24), none⟩,
  .blk 6 false [.one ⟨some 26, .move (.tmp 4), some (6, false)⟩,
  .one ⟨some 27, .binOp .eql 21 (.tmp 26) (.const (.int .i32 95)) 21, some (6, false)⟩] ⟨some 28, .pick (.tmp 25) (.const (.bool true)) (.tmp 27), none⟩,
  .one ⟨some 6, .assign (.tmp 28), none⟩]
def ident_Name_R6 : List Itm := [.one ⟨some 29, .move (.tmp 5), none⟩,
  .one ⟨some 30, .unOp .not 4 (.tmp 29), none⟩,
  .one ⟨some 31, .move (.tmp 30), none⟩,
  .blk 2 true [.one ⟨some 32, .move (.tmp 3), some (2, true)⟩,
  .one ⟨some 33, .binOp .eql 3 (.tmp 32) (.const (.int .i64 0)) 3, some (2, true)⟩,
  .one ⟨some 34, .move (.tmp 33), some (2, true)⟩,
  .blk 5 false [.one ⟨some 35, .move (.tmp 6), some (5, false)⟩,
  .one ⟨some 36, .unOp .not 4 (.tmp 35), some (5, false)⟩] ⟨some 37, .pick (.tmp 34) (.const (.bool true)) (.tmp 36), some (2, true)⟩] ⟨some 38, .pick (.tmp 31) (.tmp 37) (.const (.bool false)), none⟩]
def ident_Name_R7 : List Itm := [.one ⟨some 2, .assign (.const (.bool false)), none⟩]
def ident_Name_B1 : MCode := (.seq (.reg 3 ident_Name_R3 false) (.seq (.reg 4 ident_Name_R4 false) (.seq (.reg 5 ident_Name_R5 false) (.seq (.reg 6 ident_Name_R6 false) (.cond (.tmp 38) (.seq (.reg 7 ident_Name_R7 false) .ret) .skip)))))
def ident_Name_W1 : MCode := (.seq (.reg 2 ident_Name_R2 false) (.seq (.cond (.tmp 10) .skip (.exit 0)) (.block 1 ident_Name_B1)))
def ident_Name_B0 : MCode := (.loop ident_Name_W1)
def ident_Name_R8 : List Itm := [.one ⟨some 39, .move (.tmp 0), none⟩,
  .one ⟨some 40, .binOp .neq 9 (.tmp 39) (.const (.string ⟨#[]⟩)) 9, none⟩,
  .one ⟨some 41, .move (.tmp 40), none⟩,
  .blk 2 true [.one ⟨some 42, .move (.tmp 0), some (2, true)⟩,
  .one ⟨some 43, .call ⟨.builtin .len, #[.tmp 42], #[9]⟩, some (2, true)⟩,
  .one ⟨some 44, .binOp .leq 3 (.tmp 43) (.const (.int .i64 24)) 3, some (2, true)⟩] ⟨some 45, .pick (.tmp 41) (.tmp 44) (.const (.bool false)), none⟩,
  .one ⟨some 2, .assign (.tmp 45), none⟩]
def ident_Name_L : MCode := (.seq (.reg 0 ident_Name_R0 false) (.seq (.seq (.reg 1 ident_Name_R1 false) (.block 0 ident_Name_B0)) (.seq (.reg 8 ident_Name_R8 false) .ret)))
def ident_Name_ks : Nat → List Nat := fun i => match i with
  | _ => []
theorem ident_Name_F : FnL Tryz.prog GW 284 46 ident_Name_L [.tmp 2] ident_Name_ks := ⟨⟨_, Tryz.func284, rfl, by kernel_rfl, by kernel_rfl, rfl⟩, by kernel_rfl, by kernel_rfl⟩
/-! agora/act.isPublic -/
def act_isPublic_R0 : List Itm := [.one ⟨some 2, .assign (.const (.bool false)), none⟩]
def act_isPublic_R1 : List Itm := [.one ⟨some 3, .move (.tmp 0), none⟩,
  .one ⟨some 4, .call ⟨.value (.func 189), #[.tmp 3, .const (.int .i64 1), .const (.int .i64 2305843009213693950)], #[3, 3, 3]⟩, none⟩,
  .one ⟨some 2, .assign (.tmp 4), none⟩]
def act_isPublic_L : MCode := (.seq (.reg 0 act_isPublic_R0 false) (.seq (.reg 1 act_isPublic_R1 false) .ret))
def act_isPublic_ks : Nat → List Nat := fun i => match i with
  | _ => []
theorem act_isPublic_F : FnL Tryz.prog GW 285 5 act_isPublic_L [.tmp 2] act_isPublic_ks := ⟨⟨_, Tryz.func285, rfl, by kernel_rfl, by kernel_rfl, rfl⟩, by kernel_rfl, by kernel_rfl⟩
/-! agora/act.audience -/
def act_audience_R0 : List Itm := [.one ⟨some 1, .box 49 (.tmp 0), none⟩,
  .one ⟨some 2, .assign (.const (.bool false)), none⟩]
def act_audience_R1 : List Itm := [.one ⟨some 3, .fieldAddr 49 (.tmp 1) 9, none⟩,
  .one ⟨some 4, .load 23 (.tmp 3), none⟩,
  .one ⟨some 5, .call ⟨.value (.func 226), #[.tmp 4], #[23]⟩, none⟩,
  .one ⟨some 6, .unOp .not 4 (.tmp 5), none⟩]
def act_audience_R2 : List Itm := [.one ⟨some 2, .assign (.const (.bool false)), none⟩]
def act_audience_R3 : List Itm := [.one ⟨some 7, .fieldAddr 49 (.tmp 1) 7, none⟩,
  .one ⟨some 8, .load 3 (.tmp 7), none⟩,
  .one ⟨some 9, .binOp .eql 3 (.tmp 8) (.const (.int .i64 0)) 3, none⟩]
def act_audience_R4 : List Itm := [.one ⟨some 10, .fieldAddr 49 (.tmp 1) 8, none⟩,
  .one ⟨some 11, .load 9 (.tmp 10), none⟩,
  .one ⟨some 12, .binOp .eql 9 (.tmp 11) (.const (.string ⟨#[]⟩)) 9, none⟩,
  .one ⟨some 13, .move (.tmp 12), none⟩,
  .blk 3 true [.one ⟨some 14, .fieldAddr 49 (.tmp 1) 12, some (3, true)⟩,
  .one ⟨some 15, .load 3 (.tmp 14), some (3, true)⟩,
  .one ⟨some 16, .binOp .eql 3 (.tmp 15) (.const (.int .i64 0)) 3, some (3, true)⟩] ⟨some 17, .pick (.tmp 13) (.tmp 16) (.const (.bool false)), none⟩,
  .one ⟨some 18, .move (.tmp 17), none⟩,
  .blk 8 true [.one ⟨some 19, .fieldAddr 49 (.tmp 1) 10, some (8, true)⟩,
  .one ⟨some 20, .load 9 (.tmp 19), some (8, true)⟩,
  .one ⟨some 21, .call ⟨.value (.func 297), #[.tmp 20], #[9]⟩, some (8, true)⟩] ⟨some 22, .pick (.tmp 18) (.tmp 21) (.const (.bool false)), none⟩,
  .one ⟨some 23, .move (.tmp 22), none⟩,
  .blk 13 true [.one ⟨some 24, .fieldAddr 49 (.tmp 1) 11, some (13, true)⟩,
  .one ⟨some 25, .load 44 (.tmp 24), some (13, true)⟩,
  .one ⟨some 26, .build 44 #[], some (13, true)⟩,
  .one ⟨some 27, .binOp .eql 44 (.tmp 25) (.tmp 26) 44, some (13, true)⟩] ⟨some 28, .pick (.tmp 23) (.tmp 27) (.const (.bool false)), none⟩,
  .one ⟨some 2, .assign (.tmp 28), none⟩]
def act_audience_R5 : List Itm := [.one ⟨some 29, .load 49 (.tmp 1), none⟩,
  .one ⟨some 30, .call ⟨.value (.func 290), #[.tmp 29], #[49]⟩, none⟩,
  .one ⟨some 31, .move (.tmp 30), none⟩,
  .blk 2 true [.one ⟨some 32, .fieldAddr 49 (.tmp 1) 12, some (2, true)⟩,
  .one ⟨some 33, .load 3 (.tmp 32), some (2, true)⟩,
  .one ⟨some 34, .call ⟨.value (.func 189), #[.tmp 33, .const (.int .i64 0), .const (.int .i64 1073741824)], #[3, 3, 3]⟩, some (2, true)⟩] ⟨some 35, .pick (.tmp 31) (.tmp 34) (.const (.bool false)), none⟩,
  .one ⟨some 36, .move (.tmp 35), none⟩,
  .blk 7 true [.one ⟨some 37, .fieldAddr 49 (.tmp 1) 10, some (7, true)⟩,
  .one ⟨some 38, .load 9 (.tmp 37), some (7, true)⟩,
  .one ⟨some 39, .binOp .eql 9 (.tmp 38) (.const (.string ⟨#[]⟩)) 9, some (7, true)⟩] ⟨some 40, .pick (.tmp 36) (.tmp 39) (.const (.bool false)), none⟩,
  .one ⟨some 41, .move (.tmp 40), none⟩,
  .blk 12 true [.one ⟨some 42, .fieldAddr 49 (.tmp 1) 11, some (12, true)⟩,
  .one ⟨some 43, .load 44 (.tmp 42), some (12, true)⟩,
  .one ⟨some 44, .call ⟨.value (.func 298), #[.tmp 43], #[44]⟩, some (12, true)⟩] ⟨some 45, .pick (.tmp 41) (.tmp 44) (.const (.bool false)), none⟩,
  .one ⟨some 46, .move (.tmp 45), none⟩,
  .blk 17 true [.one ⟨some 47, .fieldAddr 49 (.tmp 1) 9, some (17, true)⟩,
  .one ⟨some 48, .load 23 (.tmp 47), some (17, true)⟩,
  .one ⟨some 49, .call ⟨.builtin .len, #[.tmp 48], #[23]⟩, some (17, true)⟩,
  .one ⟨some 50, .binOp .eql 3 (.tmp 49) (.const (.int .i64 0)) 3, some (17, true)⟩,
  .one ⟨some 51, .move (.tmp 50), some (17, true)⟩,
  .blk 22 false [.one ⟨some 52, .fieldAddr 49 (.tmp 1) 7, some (22, false)⟩,
  .one ⟨some 53, .load 3 (.tmp 52), some (22, false)⟩,
  .one ⟨some 54, .binOp .eql 3 (.tmp 53) (.const (.int .i64 3)) 3, some (22, false)⟩] ⟨some 55, .pick (.tmp 51) (.const (.bool true)) (.tmp 54), some (17, true)⟩] ⟨some 56, .pick (.tmp 46) (.tmp 55) (.const (.bool false)), none⟩,
  .one ⟨some 2, .assign (.tmp 56), none⟩]
def act_audience_L : MCode := (.seq (.reg 0 act_audience_R0 false) (.seq (.seq (.reg 1 act_audience_R1 false) (.cond (.tmp 6) (.seq (.reg 2 act_audience_R2 false) .ret) .skip)) (.seq (.seq (.reg 3 act_audience_R3 false) (.cond (.tmp 9) (.seq (.reg 4 act_audience_R4 false) .ret) .skip)) (.seq (.reg 5 act_audience_R5 false) .ret))))
def act_audience_ks : Nat → List Nat := fun i => match i with
  | _ => []
theorem act_audience_F : FnL Tryz.prog GW 286 57 act_audience_L [.tmp 2] act_audience_ks := ⟨⟨_, Tryz.func286, rfl, by kernel_rfl, by kernel_rfl, rfl⟩, by kernel_rfl, by kernel_rfl⟩
/-! agora/act.reason -/
def act_reason_R0 : List Itm := [.one ⟨some 1, .box 49 (.tmp 0), none⟩,
  .one ⟨some 2, .assign (.const (.bool false)), none⟩]
def act_reason_R1 : List Itm := [.one ⟨some 3, .fieldAddr 49 (.tmp 1) 10, none⟩,
  .one ⟨some 4, .load 9 (.tmp 3), none⟩,
  .one ⟨some 5, .call ⟨.value (.func 297), #[.tmp 4], #[9]⟩, none⟩,
  .one ⟨some 2, .assign (.tmp 5), none⟩]
def act_reason_L : MCode := (.seq (.reg 0 act_reason_R0 false) (.seq (.reg 1 act_reason_R1 false) .ret))
def act_reason_ks : Nat → List Nat := fun i => match i with
  | _ => []
theorem act_reason_F : FnL Tryz.prog GW 287 6 act_reason_L [.tmp 2] act_reason_ks := ⟨⟨_, Tryz.func287, rfl, by kernel_rfl, by kernel_rfl, rfl⟩, by kernel_rfl, by kernel_rfl⟩
/-! agora/act.kinds$1 -/
def act_kinds_1_R0 : List Itm := [.one ⟨some 1, .box 49 (.tmp 0), none⟩,
  .one ⟨some 2, .assign (.const (.bool false)), none⟩]
def act_kinds_1_R1 : List Itm := [.one ⟨some 3, .fieldAddr 49 (.tmp 1) 10, none⟩,
  .one ⟨some 4, .load 9 (.tmp 3), none⟩,
  .one ⟨some 5, .call ⟨.value (.func 284), #[.tmp 4], #[9]⟩, none⟩,
  .one ⟨some 6, .move (.tmp 5), none⟩,
  .blk 3 true [.one ⟨some 7, .fieldAddr 49 (.tmp 1) 14, some (3, true)⟩,
  .one ⟨some 8, .load 3 (.tmp 7), some (3, true)⟩,
  .one ⟨some 9, .call ⟨.value (.func 285), #[.tmp 8], #[3]⟩, some (3, true)⟩] ⟨some 10, .pick (.tmp 6) (.tmp 9) (.const (.bool false)), none⟩,
  .one ⟨some 11, .move (.tmp 10), none⟩,
  .blk 8 true [.one ⟨some 12, .fieldAddr 49 (.tmp 1) 15, some (8, true)⟩,
  .one ⟨some 13, .load 3 (.tmp 12), some (8, true)⟩,
  .one ⟨some 14, .call ⟨.value (.func 189), #[.tmp 13, .const (.int .i64 0), .const (.int .i64 19)], #[3, 3, 3]⟩, some (8, true)⟩] ⟨some 15, .pick (.tmp 11) (.tmp 14) (.const (.bool false)), none⟩,
  .one ⟨some 2, .assign (.tmp 15), none⟩]
def act_kinds_1_L : MCode := (.seq (.reg 0 act_kinds_1_R0 false) (.seq (.reg 1 act_kinds_1_R1 false) .ret))
def act_kinds_1_ks : Nat → List Nat := fun i => match i with
  | _ => []
theorem act_kinds_1_F : FnL Tryz.prog GW 283 16 act_kinds_1_L [.tmp 2] act_kinds_1_ks := ⟨⟨_, Tryz.func283, rfl, by kernel_rfl, by kernel_rfl, rfl⟩, by kernel_rfl, by kernel_rfl⟩
/-! agora/act.kinds$2 -/
def act_kinds_2_R0 : List Itm := [.one ⟨some 1, .box 49 (.tmp 0), none⟩,
  .one ⟨some 2, .assign (.const (.bool false)), none⟩]
def act_kinds_2_R1 : List Itm := [.one ⟨some 3, .fieldAddr 49 (.tmp 1) 8, none⟩,
  .one ⟨some 4, .load 9 (.tmp 3), none⟩,
  .one ⟨some 5, .call ⟨.value (.func 284), #[.tmp 4], #[9]⟩, none⟩,
  .one ⟨some 6, .move (.tmp 5), none⟩,
  .blk 3 true [.one ⟨some 7, .fieldAddr 49 (.tmp 1) 9, some (3, true)⟩,
  .one ⟨some 8, .load 23 (.tmp 7), some (3, true)⟩,
  .one ⟨some 9, .call ⟨.value (.func 226), #[.tmp 8], #[23]⟩, some (3, true)⟩] ⟨some 10, .pick (.tmp 6) (.tmp 9) (.const (.bool false)), none⟩,
  .one ⟨some 2, .assign (.tmp 10), none⟩]
def act_kinds_2_L : MCode := (.seq (.reg 0 act_kinds_2_R0 false) (.seq (.reg 1 act_kinds_2_R1 false) .ret))
def act_kinds_2_ks : Nat → List Nat := fun i => match i with
  | _ => []
theorem act_kinds_2_F : FnL Tryz.prog GW 288 11 act_kinds_2_L [.tmp 2] act_kinds_2_ks := ⟨⟨_, Tryz.func288, rfl, by kernel_rfl, by kernel_rfl, rfl⟩, by kernel_rfl, by kernel_rfl⟩
/-! agora/act.kinds$3 -/
def act_kinds_3_R0 : List Itm := [.one ⟨some 1, .box 49 (.tmp 0), none⟩,
  .one ⟨some 2, .assign (.const (.bool false)), none⟩]
def act_kinds_3_R1 : List Itm := [.one ⟨some 3, .load 49 (.tmp 1), none⟩,
  .one ⟨some 4, .call ⟨.value (.func 290), #[.tmp 3], #[49]⟩, none⟩,
  .one ⟨some 5, .move (.tmp 4), none⟩,
  .blk 2 true [.one ⟨some 6, .fieldAddr 49 (.tmp 1) 12, some (2, true)⟩,
  .one ⟨some 7, .load 3 (.tmp 6), some (2, true)⟩,
  .one ⟨some 8, .call ⟨.value (.func 189), #[.tmp 7, .const (.int .i64 0), .const (.int .i64 1073741824)], #[3, 3, 3]⟩, some (2, true)⟩] ⟨some 9, .pick (.tmp 5) (.tmp 8) (.const (.bool false)), none⟩,
  .one ⟨some 10, .move (.tmp 9), none⟩,
  .blk 7 true [.one ⟨some 11, .fieldAddr 49 (.tmp 1) 9, some (7, true)⟩,
  .one ⟨some 12, .load 23 (.tmp 11), some (7, true)⟩,
  .one ⟨some 13, .call ⟨.value (.func 226), #[.tmp 12], #[23]⟩, some (7, true)⟩] ⟨some 14, .pick (.tmp 10) (.tmp 13) (.const (.bool false)), none⟩,
  .one ⟨some 15, .move (.tmp 14), none⟩,
  .blk 12 true [.one ⟨some 16, .load 49 (.tmp 1), some (12, true)⟩,
  .one ⟨some 17, .call ⟨.value (.func 291), #[.tmp 16], #[49]⟩, some (12, true)⟩] ⟨some 18, .pick (.tmp 15) (.tmp 17) (.const (.bool false)), none⟩,
  .one ⟨some 19, .move (.tmp 18), none⟩,
  .blk 16 true [.one ⟨some 20, .fieldAddr 49 (.tmp 1) 10, some (16, true)⟩,
  .one ⟨some 21, .load 9 (.tmp 20), some (16, true)⟩,
  .one ⟨some 22, .binOp .eql 9 (.tmp 21) (.const (.string ⟨#[]⟩)) 9, some (16, true)⟩] ⟨some 23, .pick (.tmp 19) (.tmp 22) (.const (.bool false)), none⟩,
  .one ⟨some 24, .move (.tmp 23), none⟩,
  .blk 21 true [.one ⟨some 25, .fieldAddr 49 (.tmp 1) 11, some (21, true)⟩,
  .one ⟨some 26, .load 44 (.tmp 25), some (21, true)⟩,
  .one ⟨some 27, .build 44 #[], some (21, true)⟩,
  .one ⟨some 28, .binOp .eql 44 (.tmp 26) (.tmp 27) 44, some (21, true)⟩] ⟨some 29, .pick (.tmp 24) (.tmp 28) (.const (.bool false)), none⟩,
  .one ⟨some 2, .assign (.tmp 29), none⟩]
def act_kinds_3_L : MCode := (.seq (.reg 0 act_kinds_3_R0 false) (.seq (.reg 1 act_kinds_3_R1 false) .ret))
def act_kinds_3_ks : Nat → List Nat := fun i => match i with
  | _ => []
theorem act_kinds_3_F : FnL Tryz.prog GW 289 30 act_kinds_3_L [.tmp 2] act_kinds_3_ks := ⟨⟨_, Tryz.func289, rfl, by kernel_rfl, by kernel_rfl, rfl⟩, by kernel_rfl, by kernel_rfl⟩
/-! agora/act.grouped -/
def act_grouped_R0 : List Itm := [.one ⟨some 1, .box 49 (.tmp 0), none⟩,
  .one ⟨some 2, .assign (.const (.bool false)), none⟩]
def act_grouped_R1 : List Itm := [.one ⟨some 3, .fieldAddr 49 (.tmp 1) 7, none⟩,
  .one ⟨some 4, .load 3 (.tmp 3), none⟩]
def act_grouped_R2 : List Itm := [.one ⟨some 6, .binOp .eql 3 (.tmp 4) (.const (.int .i64 2)) 3, none⟩,
  .one ⟨some 5, .assign (.tmp 6), none⟩]
def act_grouped_R3 : List Itm := [.one ⟨some 7, .fieldAddr 49 (.tmp 1) 8, none⟩,
  .one ⟨some 8, .load 9 (.tmp 7), none⟩,
  .one ⟨some 9, .call ⟨.value (.func 284), #[.tmp 8], #[9]⟩, none⟩,
  .one ⟨some 2, .assign (.tmp 9), none⟩]
def act_grouped_R4 : List Itm := [.one ⟨some 11, .binOp .eql 3 (.tmp 4) (.const (.int .i64 1)) 3, none⟩,
  .one ⟨some 10, .assign (.tmp 11), none⟩]
def act_grouped_R5 : List Itm := [.one ⟨some 12, .binOp .eql 3 (.tmp 4) (.const (.int .i64 3)) 3, none⟩,
  .one ⟨some 10, .assign (.tmp 12), none⟩]
def act_grouped_R6 : List Itm := [.one ⟨some 13, .fieldAddr 49 (.tmp 1) 8, none⟩,
  .one ⟨some 14, .load 9 (.tmp 13), none⟩,
  .one ⟨some 15, .binOp .eql 9 (.tmp 14) (.const (.string ⟨#[]⟩)) 9, none⟩,
  .one ⟨some 2, .assign (.tmp 15), none⟩]
def act_grouped_B0 : MCode := (.seq (.reg 2 act_grouped_R2 false) (.cond (.tmp 5) (.seq (.reg 3 act_grouped_R3 false) .ret) (.seq (.seq (.reg 4 act_grouped_R4 false) (.cond (.tmp 10) .skip (.reg 5 act_grouped_R5 false))) (.cond (.tmp 10) (.seq (.reg 6 act_grouped_R6 false) .ret) .skip))))
def act_grouped_R7 : List Itm := [.one ⟨some 2, .assign (.const (.bool false)), none⟩]
def act_grouped_L : MCode := (.seq (.reg 0 act_grouped_R0 false) (.seq (.seq (.reg 1 act_grouped_R1 false) (.block 0 act_grouped_B0)) (.seq (.reg 7 act_grouped_R7 false) .ret)))
def act_grouped_ks : Nat → List Nat := fun i => match i with
  | _ => []
theorem act_grouped_F : FnL Tryz.prog GW 290 16 act_grouped_L [.tmp 2] act_grouped_ks := ⟨⟨_, Tryz.func290, rfl, by kernel_rfl, by kernel_rfl, rfl⟩, by kernel_rfl, by kernel_rfl⟩
/-! agora/act.wraps -/
def act_wraps_R0 : List Itm := [.one ⟨some 1, .box 49 (.tmp 0), none⟩,
  .one ⟨some 2, .assign (.const (.bool false)), none⟩]
def act_wraps_R1 : List Itm := [.one ⟨some 3, .fieldAddr 49 (.tmp 1) 13, none⟩,
  .one ⟨some 4, .load 45 (.tmp 3), none⟩,
  .one ⟨some 5, .call ⟨.builtin .len, #[.tmp 4], #[45]⟩, none⟩,
  .one ⟨some 6, .fieldAddr 49 (.tmp 1) 9, none⟩,
  .one ⟨some 7, .load 23 (.tmp 6), none⟩,
  .one ⟨some 8, .call ⟨.builtin .len, #[.tmp 7], #[23]⟩, none⟩,
  .one ⟨some 9, .binOp .eql 3 (.tmp 5) (.tmp 8) 3, none⟩,
  .one ⟨some 10, .move (.tmp 9), none⟩,
  .blk 7 true [.one ⟨some 11, .fieldAddr 49 (.tmp 1) 13, some (7, true)⟩,
  .one ⟨some 12, .load 45 (.tmp 11), some (7, true)⟩,
  .one ⟨some 13, .call ⟨.value (.func 299), #[.tmp 12, .func 300], #[45, 333]⟩, some (7, true)⟩,
  .one ⟨some 14, .unOp .not 4 (.tmp 13), some (7, true)⟩] ⟨some 15, .pick (.tmp 10) (.tmp 14) (.const (.bool false)), none⟩,
  .one ⟨some 2, .assign (.tmp 15), none⟩]
def act_wraps_L : MCode := (.seq (.reg 0 act_wraps_R0 false) (.seq (.reg 1 act_wraps_R1 false) .ret))
def act_wraps_ks : Nat → List Nat := fun i => match i with
  | _ => []
theorem act_wraps_F : FnL Tryz.prog GW 291 16 act_wraps_L [.tmp 2] act_wraps_ks := ⟨⟨_, Tryz.func291, rfl, by kernel_rfl, by kernel_rfl, rfl⟩, by kernel_rfl, by kernel_rfl⟩
/-! agora/act.kinds$4 -/
def act_kinds_4_R0 : List Itm := [.one ⟨some 1, .box 49 (.tmp 0), none⟩,
  .one ⟨some 2, .assign (.const (.bool false)), none⟩]
def act_kinds_4_R1 : List Itm := [.one ⟨some 3, .fieldAddr 49 (.tmp 1) 10, none⟩,
  .one ⟨some 4, .load 9 (.tmp 3), none⟩,
  .one ⟨some 5, .call ⟨.value (.func 284), #[.tmp 4], #[9]⟩, none⟩,
  .one ⟨some 6, .move (.tmp 5), none⟩,
  .blk 3 true [.one ⟨some 7, .fieldAddr 49 (.tmp 1) 5, some (3, true)⟩,
  .one ⟨some 8, .load 9 (.tmp 7), some (3, true)⟩,
  .one ⟨some 9, .binOp .eql 9 (.tmp 8) (.const (.string ⟨#[]⟩)) 9, some (3, true)⟩,
  .one ⟨some 10, .fieldAddr 49 (.tmp 1) 6, some (3, true)⟩,
  .one ⟨some 11, .load 9 (.tmp 10), some (3, true)⟩,
  .one ⟨some 12, .binOp .eql 9 (.tmp 11) (.const (.string ⟨#[]⟩)) 9, some (3, true)⟩,
  .one ⟨some 13, .binOp .neq 4 (.tmp 9) (.tmp 12) 4, some (3, true)⟩] ⟨some 14, .pick (.tmp 6) (.tmp 13) (.const (.bool false)), none⟩,
  .one ⟨some 2, .assign (.tmp 14), none⟩]
def act_kinds_4_L : MCode := (.seq (.reg 0 act_kinds_4_R0 false) (.seq (.reg 1 act_kinds_4_R1 false) .ret))
def act_kinds_4_ks : Nat → List Nat := fun i => match i with
  | _ => []
theorem act_kinds_4_F : FnL Tryz.prog GW 292 15 act_kinds_4_L [.tmp 2] act_kinds_4_ks := ⟨⟨_, Tryz.func292, rfl, by kernel_rfl, by kernel_rfl, rfl⟩, by kernel_rfl, by kernel_rfl⟩
/-! agora/act.kinds$5 -/
def act_kinds_5_R0 : List Itm := [.one ⟨some 1, .box 49 (.tmp 0), none⟩,
  .one ⟨some 2, .assign (.const (.bool false)), none⟩]
def act_kinds_5_R1 : List Itm := [.one ⟨some 3, .fieldAddr 49 (.tmp 1) 14, none⟩,
  .one ⟨some 4, .load 3 (.tmp 3), none⟩,
  .one ⟨some 5, .call ⟨.value (.func 285), #[.tmp 4], #[3]⟩, none⟩,
  .one ⟨some 6, .move (.tmp 5), none⟩,
  .blk 3 true [.one ⟨some 7, .fieldAddr 49 (.tmp 1) 15, some (3, true)⟩,
  .one ⟨some 8, .load 3 (.tmp 7), some (3, true)⟩,
  .one ⟨some 9, .call ⟨.value (.func 189), #[.tmp 8, .const (.int .i64 0), .const (.int .i64 19)], #[3, 3, 3]⟩, some (3, true)⟩] ⟨some 10, .pick (.tmp 6) (.tmp 9) (.const (.bool false)), none⟩,
  .one ⟨some 2, .assign (.tmp 10), none⟩]
def act_kinds_5_L : MCode := (.seq (.reg 0 act_kinds_5_R0 false) (.seq (.reg 1 act_kinds_5_R1 false) .ret))
def act_kinds_5_ks : Nat → List Nat := fun i => match i with
  | _ => []
theorem act_kinds_5_F : FnL Tryz.prog GW 293 11 act_kinds_5_L [.tmp 2] act_kinds_5_ks := ⟨⟨_, Tryz.func293, rfl, by kernel_rfl, by kernel_rfl, rfl⟩, by kernel_rfl, by kernel_rfl⟩
/-! agora/act.kinds$6 -/
def act_kinds_6_R0 : List Itm := [.one ⟨some 1, .box 49 (.tmp 0), none⟩,
  .one ⟨some 2, .assign (.const (.bool false)), none⟩]
def act_kinds_6_R1 : List Itm := [.one ⟨some 3, .fieldAddr 49 (.tmp 1) 9, none⟩,
  .one ⟨some 4, .load 23 (.tmp 3), none⟩,
  .one ⟨some 5, .call ⟨.value (.func 226), #[.tmp 4], #[23]⟩, none⟩,
  .one ⟨some 6, .move (.tmp 5), none⟩,
  .blk 3 true [.one ⟨some 7, .fieldAddr 49 (.tmp 1) 9, some (3, true)⟩,
  .one ⟨some 8, .load 23 (.tmp 7), some (3, true)⟩,
  .one ⟨some 9, .call ⟨.builtin .len, #[.tmp 8], #[23]⟩, some (3, true)⟩,
  .one ⟨some 10, .binOp .gtr 3 (.tmp 9) (.const (.int .i64 0)) 3, some (3, true)⟩] ⟨some 11, .pick (.tmp 6) (.tmp 10) (.const (.bool false)), none⟩,
  .one ⟨some 12, .move (.tmp 11), none⟩,
  .blk 9 true [.one ⟨some 13, .load 49 (.tmp 1), some (9, true)⟩,
  .one ⟨some 14, .call ⟨.value (.func 291), #[.tmp 13], #[49]⟩, some (9, true)⟩] ⟨some 15, .pick (.tmp 12) (.tmp 14) (.const (.bool false)), none⟩,
  .one ⟨some 16, .move (.tmp 15), none⟩,
  .blk 13 true [.one ⟨some 17, .fieldAddr 49 (.tmp 1) 14, some (13, true)⟩,
  .one ⟨some 18, .load 3 (.tmp 17), some (13, true)⟩,
  .one ⟨some 19, .fieldAddr 49 (.tmp 1) 9, some (13, true)⟩,
  .one ⟨some 20, .load 23 (.tmp 19), some (13, true)⟩,
  .one ⟨some 21, .call ⟨.builtin .len, #[.tmp 20], #[23]⟩, some (13, true)⟩,
  .one ⟨some 22, .call ⟨.value (.func 189), #[.tmp 18, .const (.int .i64 1), .tmp 21], #[3, 3, 3]⟩, some (13, true)⟩] ⟨some 23, .pick (.tmp 16) (.tmp 22) (.const (.bool false)), none⟩,
  .one ⟨some 24, .move (.tmp 23), none⟩,
  .blk 21 true [.one ⟨some 25, .fieldAddr 49 (.tmp 1) 15, some (21, true)⟩,
  .one ⟨some 26, .load 3 (.tmp 25), some (21, true)⟩,
  .one ⟨some 27, .call ⟨.value (.func 285), #[.tmp 26], #[3]⟩, some (21, true)⟩] ⟨some 28, .pick (.tmp 24) (.tmp 27) (.const (.bool false)), none⟩,
  .one ⟨some 2, .assign (.tmp 28), none⟩]
def act_kinds_6_L : MCode := (.seq (.reg 0 act_kinds_6_R0 false) (.seq (.reg 1 act_kinds_6_R1 false) .ret))
def act_kinds_6_ks : Nat → List Nat := fun i => match i with
  | _ => []
theorem act_kinds_6_F : FnL Tryz.prog GW 294 29 act_kinds_6_L [.tmp 2] act_kinds_6_ks := ⟨⟨_, Tryz.func294, rfl, by kernel_rfl, by kernel_rfl, rfl⟩, by kernel_rfl, by kernel_rfl⟩
/-! agora/act.kinds$7 -/
def act_kinds_7_R0 : List Itm := [.one ⟨some 1, .box 49 (.tmp 0), none⟩,
  .one ⟨some 2, .assign (.const (.bool false)), none⟩]
def act_kinds_7_R1 : List Itm := [.one ⟨some 3, .fieldAddr 49 (.tmp 1) 14, none⟩,
  .one ⟨some 4, .load 3 (.tmp 3), none⟩,
  .one ⟨some 5, .call ⟨.value (.func 189), #[.tmp 4, .const (.int .i64 0), .const (.int .i64 1)], #[3, 3, 3]⟩, none⟩,
  .one ⟨some 2, .assign (.tmp 5), none⟩]
def act_kinds_7_L : MCode := (.seq (.reg 0 act_kinds_7_R0 false) (.seq (.reg 1 act_kinds_7_R1 false) .ret))
def act_kinds_7_ks : Nat → List Nat := fun i => match i with
  | _ => []
theorem act_kinds_7_F : FnL Tryz.prog GW 295 6 act_kinds_7_L [.tmp 2] act_kinds_7_ks := ⟨⟨_, Tryz.func295, rfl, by kernel_rfl, by kernel_rfl, rfl⟩, by kernel_rfl, by kernel_rfl⟩
/-! agora/act.kinds$8 -/
def act_kinds_8_R0 : List Itm := [.one ⟨some 1, .box 49 (.tmp 0), none⟩,
  .one ⟨some 2, .assign (.const (.bool false)), none⟩]
def act_kinds_8_R1 : List Itm := [.one ⟨some 3, .fieldAddr 49 (.tmp 1) 10, none⟩,
  .one ⟨some 4, .load 9 (.tmp 3), none⟩,
  .one ⟨some 5, .call ⟨.value (.func 297), #[.tmp 4], #[9]⟩, none⟩,
  .one ⟨some 6, .move (.tmp 5), none⟩,
  .blk 3 true [.one ⟨some 7, .fieldAddr 49 (.tmp 1) 14, some (3, true)⟩,
  .one ⟨some 8, .load 3 (.tmp 7), some (3, true)⟩,
  .one ⟨some 9, .call ⟨.value (.func 189), #[.tmp 8, .const (.int .i64 0), .const (.int .i64 1099511627776)], #[3, 3, 3]⟩, some (3, true)⟩] ⟨some 10, .pick (.tmp 6) (.tmp 9) (.const (.bool false)), none⟩,
  .one ⟨some 2, .assign (.tmp 10), none⟩]
def act_kinds_8_L : MCode := (.seq (.reg 0 act_kinds_8_R0 false) (.seq (.reg 1 act_kinds_8_R1 false) .ret))
def act_kinds_8_ks : Nat → List Nat := fun i => match i with
  | _ => []
theorem act_kinds_8_F : FnL Tryz.prog GW 296 11 act_kinds_8_L [.tmp 2] act_kinds_8_ks := ⟨⟨_, Tryz.func296, rfl, by kernel_rfl, by kernel_rfl, rfl⟩, by kernel_rfl, by kernel_rfl⟩
/-! agora/act.short -/
def act_short_R0 : List Itm := [.one ⟨some 2, .assign (.const (.bool false)), none⟩]
def act_short_R1 : List Itm := [.one ⟨some 3, .move (.tmp 0), none⟩,
  .one ⟨some 4, .call ⟨.builtin .len, #[.tmp 3], #[9]⟩, none⟩,
  .one ⟨some 5, .binOp .leq 3 (.tmp 4) (.const (.int .i64 500)) 3, none⟩,
  .one ⟨some 2, .assign (.tmp 5), none⟩]
def act_short_L : MCode := (.seq (.reg 0 act_short_R0 false) (.seq (.reg 1 act_short_R1 false) .ret))
def act_short_ks : Nat → List Nat := fun i => match i with
  | _ => []
theorem act_short_F : FnL Tryz.prog GW 297 6 act_short_L [.tmp 2] act_short_ks := ⟨⟨_, Tryz.func297, rfl, by kernel_rfl, by kernel_rfl, rfl⟩, by kernel_rfl, by kernel_rfl⟩
/-! agora/act.isBox -/
def act_isBox_R0 : List Itm := [.one ⟨some 1, .box 44 (.tmp 0), none⟩,
  .one ⟨some 2, .assign (.const (.bool false)), none⟩]
def act_isBox_R1 : List Itm := [.one ⟨some 3, .fieldAddr 44 (.tmp 1) 0, none⟩,
  .one ⟨some 4, .load 9 (.tmp 3), none⟩,
  .one ⟨some 5, .call ⟨.builtin .len, #[.tmp 4], #[9]⟩, none⟩,
  .one ⟨some 6, .binOp .eql 3 (.tmp 5) (.const (.int .i64 32)) 3, none⟩,
  .one ⟨some 7, .move (.tmp 6), none⟩,
  .blk 4 true [.one ⟨some 8, .fieldAddr 44 (.tmp 1) 2, some (4, true)⟩,
  .one ⟨some 9, .load 9 (.tmp 8), some (4, true)⟩,
  .one ⟨some 10, .call ⟨.builtin .len, #[.tmp 9], #[9]⟩, some (4, true)⟩,
  .one ⟨some 11, .binOp .eql 3 (.tmp 10) (.const (.int .i64 16)) 3, some (4, true)⟩] ⟨some 12, .pick (.tmp 7) (.tmp 11) (.const (.bool false)), none⟩,
  .one ⟨some 13, .move (.tmp 12), none⟩,
  .blk 10 true [.one ⟨some 14, .fieldAddr 44 (.tmp 1) 1, some (10, true)⟩,
  .one ⟨some 15, .load 9 (.tmp 14), some (10, true)⟩,
  .one ⟨some 16, .call ⟨.value (.func 297), #[.tmp 15], #[9]⟩, some (10, true)⟩] ⟨some 17, .pick (.tmp 13) (.tmp 16) (.const (.bool false)), none⟩,
  .one ⟨some 2, .assign (.tmp 17), none⟩]
def act_isBox_L : MCode := (.seq (.reg 0 act_isBox_R0 false) (.seq (.reg 1 act_isBox_R1 false) .ret))
def act_isBox_ks : Nat → List Nat := fun i => match i with
  | _ => []
theorem act_isBox_F : FnL Tryz.prog GW 298 18 act_isBox_L [.tmp 2] act_isBox_ks := ⟨⟨_, Tryz.func298, rfl, by kernel_rfl, by kernel_rfl, rfl⟩, by kernel_rfl, by kernel_rfl⟩
/-! slices.ContainsFunc[list of agora/api.Wrap,agora/api.Wrap] -/
def slices_ContainsFunc_Lapi_Wrap_api_Wrap_R0 : List Itm := [.one ⟨some 4, .assign (.const (.bool false)), none⟩]
def slices_ContainsFunc_Lapi_Wrap_api_Wrap_R1 : List Itm := [.one ⟨some 5, .move (.tmp 0), none⟩,
  .one ⟨some 6, .move (.tmp 1), none⟩,
  .one ⟨some 7, .call ⟨.value (.func 302), #[.tmp 5, .tmp 6], #[45, 333]⟩, none⟩,
  .one ⟨some 8, .binOp .geq 3 (.tmp 7) (.const (.int .i64 0)) 3, none⟩,
  .one ⟨some 4, .assign (.tmp 8), none⟩]
def slices_ContainsFunc_Lapi_Wrap_api_Wrap_L : MCode := (.seq (.reg 0 slices_ContainsFunc_Lapi_Wrap_api_Wrap_R0 false) (.seq (.reg 1 slices_ContainsFunc_Lapi_Wrap_api_Wrap_R1 false) .ret))
def slices_ContainsFunc_Lapi_Wrap_api_Wrap_ks : Nat → List Nat := fun i => match i with
  | _ => []
theorem slices_ContainsFunc_Lapi_Wrap_api_Wrap_F : FnL Tryz.prog GW 299 9 slices_ContainsFunc_Lapi_Wrap_api_Wrap_L [.tmp 4] slices_ContainsFunc_Lapi_Wrap_api_Wrap_ks := ⟨⟨_, Tryz.func299, rfl, by kernel_rfl, by kernel_rfl, rfl⟩, by kernel_rfl, by kernel_rfl⟩
/-! agora/act.wraps$1 -/
def act_wraps_1_R0 : List Itm := [.one ⟨some 1, .box 230 (.tmp 0), none⟩,
  .one ⟨some 2, .assign (.const (.bool false)), none⟩]
def act_wraps_1_R1 : List Itm := [.one ⟨some 3, .load 230 (.tmp 1), none⟩,
  .one ⟨some 4, .call ⟨.value (.func 301), #[.tmp 3], #[230]⟩, none⟩,
  .one ⟨some 5, .unOp .not 4 (.tmp 4), none⟩,
  .one ⟨some 2, .assign (.tmp 5), none⟩]
def act_wraps_1_L : MCode := (.seq (.reg 0 act_wraps_1_R0 false) (.seq (.reg 1 act_wraps_1_R1 false) .ret))
def act_wraps_1_ks : Nat → List Nat := fun i => match i with
  | _ => []
theorem act_wraps_1_F : FnL Tryz.prog GW 300 6 act_wraps_1_L [.tmp 2] act_wraps_1_ks := ⟨⟨_, Tryz.func300, rfl, by kernel_rfl, by kernel_rfl, rfl⟩, by kernel_rfl, by kernel_rfl⟩
/-! agora/act.isWrap -/
def act_isWrap_R0 : List Itm := [.one ⟨some 1, .box 230 (.tmp 0), none⟩,
  .one ⟨some 2, .assign (.const (.bool false)), none⟩]
def act_isWrap_R1 : List Itm := [.one ⟨some 3, .fieldAddr 230 (.tmp 1) 0, none⟩,
  .one ⟨some 4, .load 3 (.tmp 3), none⟩,
  .one ⟨some 5, .call ⟨.value (.func 285), #[.tmp 4], #[3]⟩, none⟩,
  .one ⟨some 6, .move (.tmp 5), none⟩,
  .blk 3 true [.one ⟨some 7, .fieldAddr 230 (.tmp 1) 1, some (3, true)⟩,
  .one ⟨some 8, .load 3 (.tmp 7), some (3, true)⟩,
  .one ⟨some 9, .call ⟨.value (.func 285), #[.tmp 8], #[3]⟩, some (3, true)⟩] ⟨some 10, .pick (.tmp 6) (.tmp 9) (.const (.bool false)), none⟩,
  .one ⟨some 11, .move (.tmp 10), none⟩,
  .blk 8 true [.one ⟨some 12, .fieldAddr 230 (.tmp 1) 2, some (8, true)⟩,
  .one ⟨some 13, .load 44 (.tmp 12), some (8, true)⟩,
  .one ⟨some 14, .call ⟨.value (.func 298), #[.tmp 13], #[44]⟩, some (8, true)⟩] ⟨some 15, .pick (.tmp 11) (.tmp 14) (.const (.bool false)), none⟩,
  .one ⟨some 2, .assign (.tmp 15), none⟩]
def act_isWrap_L : MCode := (.seq (.reg 0 act_isWrap_R0 false) (.seq (.reg 1 act_isWrap_R1 false) .ret))
def act_isWrap_ks : Nat → List Nat := fun i => match i with
  | _ => []
theorem act_isWrap_F : FnL Tryz.prog GW 301 16 act_isWrap_L [.tmp 2] act_isWrap_ks := ⟨⟨_, Tryz.func301, rfl, by kernel_rfl, by kernel_rfl, rfl⟩, by kernel_rfl, by kernel_rfl⟩
/-! slices.IndexFunc[list of agora/api.Wrap,agora/api.Wrap] -/
def slices_IndexFunc_Lapi_Wrap_api_Wrap_R0 : List Itm := [.one ⟨some 4, .assign (.const (.int .i64 0)), none⟩]
def slices_IndexFunc_Lapi_Wrap_api_Wrap_R1 : List Itm := [.one ⟨some 6, .move (.tmp 0), none⟩,
  .one ⟨some 7, .call ⟨.builtin .len, #[.tmp 6], #[45]⟩, none⟩,
  .one ⟨some 8, .move (.const (.int .i64 0)), none⟩]
def slices_IndexFunc_Lapi_Wrap_api_Wrap_R2 : List Itm := [.one ⟨some 9, .binOp .lss 3 (.tmp 8) (.tmp 7) 3, none⟩]
def slices_IndexFunc_Lapi_Wrap_api_Wrap_R3 : List Itm := [.one ⟨some 10, .move (.tmp 8), none⟩,
  .one ⟨some 5, .assign (.tmp 10), none⟩]
def slices_IndexFunc_Lapi_Wrap_api_Wrap_R4 : List Itm := [.one ⟨some 11, .move (.tmp 1), none⟩,
  .one ⟨some 12, .move (.tmp 0), none⟩,
  .one ⟨some 13, .move (.tmp 5), none⟩,
  .one ⟨some 14, .indexAddr 45 (.tmp 12) (.tmp 13), none⟩,
  .one ⟨some 15, .load 230 (.tmp 14), none⟩,
  .one ⟨some 16, .call ⟨.value (.tmp 11), #[.tmp 15], #[230]⟩, none⟩]
def slices_IndexFunc_Lapi_Wrap_api_Wrap_R5 : List Itm := [.one ⟨some 17, .move (.tmp 5), none⟩,
  .one ⟨some 4, .assign (.tmp 17), none⟩]
def slices_IndexFunc_Lapi_Wrap_api_Wrap_B1 : MCode := (.seq (.reg 3 slices_IndexFunc_Lapi_Wrap_api_Wrap_R3 false) (.seq (.reg 4 slices_IndexFunc_Lapi_Wrap_api_Wrap_R4 false) (.cond (.tmp 16) (.seq (.reg 5 slices_IndexFunc_Lapi_Wrap_api_Wrap_R5 false) .ret) .skip)))
def slices_IndexFunc_Lapi_Wrap_api_Wrap_R6 : List Itm := [.one ⟨some 18, .binOp .add 3 (.tmp 8) (.const (.int .i64 1)) 3, none⟩,
  .one ⟨some 8, .move (.tmp 18), none⟩]
def slices_IndexFunc_Lapi_Wrap_api_Wrap_W1 : MCode := (.seq (.reg 2 slices_IndexFunc_Lapi_Wrap_api_Wrap_R2 false) (.seq (.cond (.tmp 9) .skip (.exit 0)) (.seq (.block 1 slices_IndexFunc_Lapi_Wrap_api_Wrap_B1) (.reg 6 slices_IndexFunc_Lapi_Wrap_api_Wrap_R6 false))))
def slices_IndexFunc_Lapi_Wrap_api_Wrap_B0 : MCode := (.loop slices_IndexFunc_Lapi_Wrap_api_Wrap_W1)
def slices_IndexFunc_Lapi_Wrap_api_Wrap_R7 : List Itm := [.one ⟨some 4, .assign (.const (.int .i64 (-1))), none⟩]
def slices_IndexFunc_Lapi_Wrap_api_Wrap_L : MCode := (.seq (.reg 0 slices_IndexFunc_Lapi_Wrap_api_Wrap_R0 false) (.seq (.seq (.reg 1 slices_IndexFunc_Lapi_Wrap_api_Wrap_R1 false) (.block 0 slices_IndexFunc_Lapi_Wrap_api_Wrap_B0)) (.seq (.reg 7 slices_IndexFunc_Lapi_Wrap_api_Wrap_R7 false) .ret)))
def slices_IndexFunc_Lapi_Wrap_api_Wrap_ks : Nat → List Nat := fun i => match i with
  | _ => []
theorem slices_IndexFunc_Lapi_Wrap_api_Wrap_F : FnL Tryz.prog GW 302 19 slices_IndexFunc_Lapi_Wrap_api_Wrap_L [.tmp 4] slices_IndexFunc_Lapi_Wrap_api_Wrap_ks := ⟨⟨_, Tryz.func302, rfl, by kernel_rfl, by kernel_rfl, rfl⟩, by kernel_rfl, by kernel_rfl⟩
end Go.Proofs.YthkmfboffnhkaaaGreatDoor
