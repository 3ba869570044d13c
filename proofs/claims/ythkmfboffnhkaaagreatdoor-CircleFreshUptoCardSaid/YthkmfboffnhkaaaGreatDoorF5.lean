/-
  The frame: a world for the witness.
-/
import Derived.Test.YthkmfboffnhkaaaGreatDoorF3
import Derived.Lay
import Derived.LaidMore
import Derived.Deep.DeepWitnessRowRef
set_option linter.all false
namespace Go.Proofs.YthkmfboffnhkaaaGreatDoor
open Go Go.ChangeShapes Go.WideShapes Go.ChangeAt Go.RowKit
set_option maxRecDepth 100000
set_option maxHeartbeats 4000000

/-- The door's world, and the great table. -/
noncomputable def laidW (os : Os) : World := (World.doorLaid Tryz.prog 168 os).layVars Tryz.prog [("unicode/utf8.first", Rows.laid_unicode_utf8_first)]
theorem laidW_os (os : Os) : (laidW os).os = os := World.layVars_os _ _ _
noncomputable def memW (os : Os) (args : Array Value) : World := ((laidW os).forCall (fun _ _ => 0) ⟨#[], args, []⟩).memory
theorem laidW_met (os : Os) (args : Array Value) : laidMetH Tryz.prog Rows.listsGrowsUptoRow.laid (memW os args) :=
  laidMetH_of_parts3 (fuel := 12) (laidMet_layVars (w0 := World.doorLaid Tryz.prog 168 os) ["unicode/utf8.first"] [4] (by kernel_rfl) (by kernel_rfl) (by kernel_rfl)
    (LaidIn.of_run _ 12 (by kernel_rfl) (by kernel_rfl) (by kernel_rfl) (by kernel_rfl))) (by kernel_rfl) (by kernel_rfl)
end Go.Proofs.YthkmfboffnhkaaaGreatDoor
