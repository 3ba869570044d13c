/-
  Facts on further types that the functions use: printed by wip/tools/gen.py.
-/
import Derived.Test.YthkmfboffnhkaaaGreatDoorTY
import Derived.Test.YthkmfboffnhkaaaGreatDoorTY2
namespace Go.Proofs.YthkmfboffnhkaaaGreatDoor
open Go Go.L1
set_option linter.all false
set_option maxRecDepth 100000
@[simp] theorem ty72_sz : szOf Tryz.prog 72 = some 4 := by kernel_rfl
@[simp] theorem ty72_ag : agOf Tryz.prog 72 = some true := by kernel_rfl
@[simp] theorem ty72_zv : zvOf Tryz.prog 72 = some [.c (.sl []), .c (.sl []), .c (.sl []), .c (.sl [])] := by kernel_rfl
@[simp] theorem ty72_und : (Tryz.prog.underlying 72).isSome = true := by kernel_rfl
@[simp] theorem ty72_pl : plB Tryz.prog 72 = some [(0, 1), (1, 1), (2, 1), (3, 1)] := by kernel_rfl
@[simp] theorem ty72_f1 : fOff Tryz.prog 72 1 = some 1 := by kernel_rfl
@[simp] theorem ty72_g1 : fTy Tryz.prog 72 1 = some (1, 23) := by kernel_rfl
@[simp] theorem ty125_sz : szOf Tryz.prog 125 = some 1 := by kernel_rfl
@[simp] theorem ty125_ag : agOf Tryz.prog 125 = some false := by kernel_rfl
@[simp] theorem ty125_zv : zvOf Tryz.prog 125 = some [.c .nilm] := by kernel_rfl
@[simp] theorem ty125_map : mapTy Tryz.prog 125 = some (.string, false, .c (.bool false)) := by kernel_rfl
@[simp] theorem ty125_und : (Tryz.prog.underlying 125).isSome = true := by kernel_rfl
@[simp] theorem ty127_sz : szOf Tryz.prog 127 = some 4 := by kernel_rfl
@[simp] theorem ty127_ag : agOf Tryz.prog 127 = some true := by kernel_rfl
@[simp] theorem ty127_zv : zvOf Tryz.prog 127 = some [.c .nilm, .c .nilm, .c .nilm, .c .nilm] := by kernel_rfl
@[simp] theorem ty127_und : (Tryz.prog.underlying 127).isSome = true := by kernel_rfl
@[simp] theorem ty127_pl : plB Tryz.prog 127 = some [(0, 1), (1, 1), (2, 1), (3, 1)] := by kernel_rfl
@[simp] theorem ty127_f0 : fOff Tryz.prog 127 0 = some 0 := by kernel_rfl
@[simp] theorem ty127_g0 : fTy Tryz.prog 127 0 = some (0, 125) := by kernel_rfl
@[simp] theorem ty127_f1 : fOff Tryz.prog 127 1 = some 1 := by kernel_rfl
@[simp] theorem ty127_g1 : fTy Tryz.prog 127 1 = some (1, 125) := by kernel_rfl
@[simp] theorem ty127_f2 : fOff Tryz.prog 127 2 = some 2 := by kernel_rfl
@[simp] theorem ty127_g2 : fTy Tryz.prog 127 2 = some (2, 125) := by kernel_rfl
@[simp] theorem ty127_f3 : fOff Tryz.prog 127 3 = some 3 := by kernel_rfl
@[simp] theorem ty127_g3 : fTy Tryz.prog 127 3 = some (3, 125) := by kernel_rfl
@[simp] theorem ty131_sz : szOf Tryz.prog 131 = some 1 := by kernel_rfl
@[simp] theorem ty131_ag : agOf Tryz.prog 131 = some false := by kernel_rfl
@[simp] theorem ty131_zv : zvOf Tryz.prog 131 = some [.c .nilfn] := by kernel_rfl
@[simp] theorem ty131_isfn : isFn Tryz.prog 131 = true := by kernel_rfl
@[simp] theorem ty131_und : (Tryz.prog.underlying 131).isSome = true := by kernel_rfl
end Go.Proofs.YthkmfboffnhkaaaGreatDoor
