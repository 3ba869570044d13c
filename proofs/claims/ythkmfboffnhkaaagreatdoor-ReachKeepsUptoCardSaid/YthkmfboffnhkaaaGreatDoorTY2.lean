/-
  Facts on further types that the functions use: printed by wip/tools/gen.py.
-/
import Derived.Test.YthkmfboffnhkaaaGreatDoorTY
namespace Go.Proofs.YthkmfboffnhkaaaGreatDoor
open Go Go.L1
set_option linter.all false
set_option maxRecDepth 100000
@[simp] theorem ty50_sz : szOf Tryz.prog 50 = some 1 := by kernel_rfl
@[simp] theorem ty50_ag : agOf Tryz.prog 50 = some false := by kernel_rfl
@[simp] theorem ty50_zv : zvOf Tryz.prog 50 = some [.c (.sl [])] := by kernel_rfl
@[simp] theorem ty50_els : elS Tryz.prog 50 = some 2 := by kernel_rfl
@[simp] theorem ty50_issl : isSl Tryz.prog 50 = true := by kernel_rfl
@[simp] theorem ty50_own : ownTy Tryz.prog 50 = some (55, 2, 24) := by kernel_rfl
@[simp] theorem ty50_und : (Tryz.prog.underlying 50).isSome = true := by kernel_rfl
@[simp] theorem ty50_usl : Tryz.prog.underlying 50 = some (.slice 55) := by kernel_rfl
@[simp] theorem ty55_sz : szOf Tryz.prog 55 = some 2 := by kernel_rfl
@[simp] theorem ty55_ag : agOf Tryz.prog 55 = some true := by kernel_rfl
@[simp] theorem ty55_zv : zvOf Tryz.prog 55 = some [.c (.str []), .c (.int .i64 0)] := by kernel_rfl
@[simp] theorem ty55_eqt : eqTy Tryz.prog 55 = some (.st [(0, 1, .s), (1, 1, .i)]) := by kernel_rfl
@[simp] theorem ty55_und : (Tryz.prog.underlying 55).isSome = true := by kernel_rfl
@[simp] theorem ty55_pl : plB Tryz.prog 55 = some [(0, 1), (1, 1)] := by kernel_rfl
@[simp] theorem ty55_f0 : fOff Tryz.prog 55 0 = some 0 := by kernel_rfl
@[simp] theorem ty55_g0 : fTy Tryz.prog 55 0 = some (0, 9) := by kernel_rfl
@[simp] theorem ty55_f1 : fOff Tryz.prog 55 1 = some 1 := by kernel_rfl
@[simp] theorem ty55_g1 : fTy Tryz.prog 55 1 = some (1, 3) := by kernel_rfl
@[simp] theorem ty115_sz : szOf Tryz.prog 115 = some 1 := by kernel_rfl
@[simp] theorem ty115_ag : agOf Tryz.prog 115 = some false := by kernel_rfl
@[simp] theorem ty115_zv : zvOf Tryz.prog 115 = some [.c .nilm] := by kernel_rfl
@[simp] theorem ty115_map : mapTy Tryz.prog 115 = some (.string, false, .c (.bool false)) := by kernel_rfl
@[simp] theorem ty115_und : (Tryz.prog.underlying 115).isSome = true := by kernel_rfl
@[simp] theorem ty116_sz : szOf Tryz.prog 116 = some 1 := by kernel_rfl
@[simp] theorem ty116_ag : agOf Tryz.prog 116 = some false := by kernel_rfl
@[simp] theorem ty116_zv : zvOf Tryz.prog 116 = some [.c .nilm] := by kernel_rfl
@[simp] theorem ty116_map : mapTy Tryz.prog 116 = some (.string, false, .c (.int .i64 0)) := by kernel_rfl
@[simp] theorem ty116_und : (Tryz.prog.underlying 116).isSome = true := by kernel_rfl
@[simp] theorem ty118_sz : szOf Tryz.prog 118 = some 1 := by kernel_rfl
@[simp] theorem ty118_ag : agOf Tryz.prog 118 = some false := by kernel_rfl
@[simp] theorem ty118_zv : zvOf Tryz.prog 118 = some [.c .nilm] := by kernel_rfl
@[simp] theorem ty118_map : mapTy Tryz.prog 118 = some (.int .i64, false, .c (.str [])) := by kernel_rfl
@[simp] theorem ty118_und : (Tryz.prog.underlying 118).isSome = true := by kernel_rfl
end Go.Proofs.YthkmfboffnhkaaaGreatDoor
