/-
  Facts on further types that the functions use: printed by wip/tools/gen.py.
-/
import Derived.Test.YthkmfboffnhkaaaGreatDoorTY
import Derived.Test.YthkmfboffnhkaaaGreatDoorTY2
import Derived.Test.YthkmfboffnhkaaaGreatDoorTY3
namespace Go.Proofs.YthkmfboffnhkaaaGreatDoor
open Go Go.L1
set_option linter.all false
set_option maxRecDepth 100000
@[simp] theorem ty40_f2 : fOff Tryz.prog 40 2 = some 2 := by kernel_rfl
@[simp] theorem ty40_g2 : fTy Tryz.prog 40 2 = some (2, 38) := by kernel_rfl
@[simp] theorem ty40_f4 : fOff Tryz.prog 40 4 = some 4 := by kernel_rfl
@[simp] theorem ty40_g4 : fTy Tryz.prog 40 4 = some (4, 3) := by kernel_rfl
@[simp] theorem ty72_f2 : fOff Tryz.prog 72 2 = some 2 := by kernel_rfl
@[simp] theorem ty72_g2 : fTy Tryz.prog 72 2 = some (2, 23) := by kernel_rfl
@[simp] theorem ty75_sz : szOf Tryz.prog 75 = some 1 := by kernel_rfl
@[simp] theorem ty75_ag : agOf Tryz.prog 75 = some false := by kernel_rfl
@[simp] theorem ty75_zv : zvOf Tryz.prog 75 = some [.c (.sl [])] := by kernel_rfl
@[simp] theorem ty75_els : elS Tryz.prog 75 = some 2 := by kernel_rfl
@[simp] theorem ty75_issl : isSl Tryz.prog 75 = true := by kernel_rfl
@[simp] theorem ty75_own : ownTy Tryz.prog 75 = some (78, 2, 24) := by kernel_rfl
@[simp] theorem ty75_und : (Tryz.prog.underlying 75).isSome = true := by kernel_rfl
@[simp] theorem ty75_usl : Tryz.prog.underlying 75 = some (.slice 78) := by kernel_rfl
@[simp] theorem ty78_sz : szOf Tryz.prog 78 = some 2 := by kernel_rfl
@[simp] theorem ty78_ag : agOf Tryz.prog 78 = some true := by kernel_rfl
@[simp] theorem ty78_zv : zvOf Tryz.prog 78 = some [.c (.str []), .c (.int .i64 0)] := by kernel_rfl
@[simp] theorem ty78_eqt : eqTy Tryz.prog 78 = some (.st [(0, 1, .s), (1, 1, .i)]) := by kernel_rfl
@[simp] theorem ty78_und : (Tryz.prog.underlying 78).isSome = true := by kernel_rfl
@[simp] theorem ty78_pl : plB Tryz.prog 78 = some [(0, 1), (1, 1)] := by kernel_rfl
@[simp] theorem ty133_f0 : fOff Tryz.prog 133 0 = some 0 := by kernel_rfl
@[simp] theorem ty133_g0 : fTy Tryz.prog 133 0 = some (0, 3) := by kernel_rfl
end Go.Proofs.YthkmfboffnhkaaaGreatDoor
