/-
  CircleFresh: the row's closed facts.
-/
import Derived.Test.YthkmfboffnhkaaaGreatDoorF3
set_option linter.all false
namespace Go.Proofs.YthkmfboffnhkaaaGreatDoor
open Go
set_option maxRecDepth 100000
set_option maxHeartbeats 4000000
theorem cfreshand {a b : Bool} (ha : a = true) (hb : b = true) : (a && b) = true := by rw [ha, hb]; rfl
theorem cfreshK0 : (Rows.circleFreshUptoRow.wf (OpenSpec.ofChange (Rows.OpenSpec.upto Rows.circleFreshSpec).bare)) = true := by kernel_rfl
theorem cfreshK1 : (laidOutB Tryz.pinned.checked.prog) = true := by kernel_rfl
theorem cfreshK2 : (mapsRowed Tryz.pinned.checked.prog) = true := by kernel_rfl
theorem cfreshK3 : (Tryz.f8.params.all (Tryz.pinned.checked.prog.readableRec ·)) = true := by kernel_rfl
theorem cfreshK4 : (namedTie Tryz.pinned.checked.prog Rows.circleFreshUptoRow.named (Rows.OpenSpec.upto Rows.circleFreshSpec).bare.vars) = true := by kernel_rfl
theorem cfreshK5 : ((Rows.circleFreshUptoRow.stops == [])) = true := by kernel_rfl
theorem cfreshK6 : ((Tryz.pinned.checked.prog.stops == [])) = true := by kernel_rfl
theorem cfreshK7 : ((Rows.circleFreshUptoRow.knobs == [])) = true := by kernel_rfl
theorem cfreshK8 : ((Tryz.pinned.checked.prog.stopKnobs == [])) = true := by kernel_rfl
theorem cfreshK9 : ((Rows.circleFreshUptoRow.inPlace == Tryz.pinned.checked.prog.inPlace 8)) = true := by kernel_rfl
theorem cfreshK10 : ((Rows.circleFreshUptoRow.unfollowed == Tryz.pinned.checked.prog.unfollowed 8)) = true := by kernel_rfl
theorem cfreshK11 : ((Rows.circleFreshUptoRow.recurses == Tryz.pinned.checked.prog.recurses 8)) = true := by kernel_rfl
theorem cfreshK12 : ((Rows.circleFreshUptoRow.named == Tryz.pinned.checked.prog.varsNamed 8)) = true := by kernel_rfl
theorem cfreshK13 : ((Rows.circleFreshUptoRow.maps == (Tryz.f8.params.toList ++ (Rows.OpenSpec.upto Rows.circleFreshSpec).bare.plain.varTypes Tryz.pinned.checked.prog).any (Tryz.pinned.checked.prog.mapsRec ·))) = true := by kernel_rfl
theorem cfreshK14 : ((Rows.circleFreshUptoRow.ifaces == (Tryz.f8.params.toList ++ (Rows.OpenSpec.upto Rows.circleFreshSpec).bare.plain.varTypes Tryz.pinned.checked.prog).any (Tryz.pinned.checked.prog.ifacesRec ·))) = true := by kernel_rfl
theorem cfreshK15 : ((Rows.circleFreshUptoRow.mapsOut == Tryz.pinned.checked.prog.mapsAmong Tryz.f8.resultTypes.toList)) = true := by kernel_rfl
theorem cfreshK16 : ((Rows.circleFreshUptoRow.loops == (Tryz.f8.params.toList ++ (Rows.OpenSpec.upto Rows.circleFreshSpec).bare.plain.varTypes Tryz.pinned.checked.prog).any (Tryz.pinned.checked.prog.loopsFrom ·))) = true := by kernel_rfl
theorem cfreshK17 : ((Rows.circleFreshUptoRow.wideKeys == (Tryz.f8.params.toList ++ (Rows.OpenSpec.upto Rows.circleFreshSpec).bare.plain.varTypes Tryz.pinned.checked.prog ++ Tryz.f8.resultTypes.toList).any (Tryz.pinned.checked.prog.wideKeysFrom ·))) = true := by kernel_rfl
theorem cfreshK18 : ((Rows.OpenSpec.upto Rows.circleFreshSpec).bare.vars.all (Tryz.pinned.checked.prog.varReadable ·)) = true := by kernel_rfl
theorem cfreshK19 : (Tryz.f8.resultTypes.all (fun t => Tryz.pinned.checked.prog.readableRec t && decide (t < Tryz.pinned.checked.prog.types.size))) = true := by kernel_rfl
theorem cfreshK20 : ((Rows.circleFreshUptoRow.ifacesOut == Tryz.f8.resultTypes.toList.any (Tryz.pinned.checked.prog.ifacesRec ·))) = true := by kernel_rfl
theorem cfreshK21 : ((Rows.circleFreshUptoRow.loopsOut == Tryz.f8.resultTypes.toList.any (Tryz.pinned.checked.prog.loopsFrom ·))) = true := by kernel_rfl
theorem cfreshK22 : ((Rows.circleFreshUptoRow.plainKeys == Tryz.pinned.checked.prog.plainKeys)) = true := by kernel_rfl
theorem cfreshK23 : (Rows.circleFreshUptoRow.shortTexts.isNone) = true := by kernel_rfl
theorem cfreshK24 : (Tryz.pinned.checked.prog.stopsHeard) = true := by kernel_rfl
theorem cfreshK25 : (Tryz.pinned.checked.prog.mayEnter) = true := by kernel_rfl
theorem cfreshK26 : ((Rows.circleFreshUptoRow.lifted == Tryz.pinned.checked.prog.liftsFinal)) = true := by kernel_rfl
theorem cfreshK27 : ((Tryz.pinned.checked.prog.make == some Rows.circleFreshUptoRow.make)) = true := by kernel_rfl
theorem cfreshK28 : ((Rows.circleFreshUptoRow.kinds == (if Rows.circleFreshUptoRow.domain.isEmpty then [] else Tryz.f8.params.toList.map fun t => match Tryz.pinned.checked.prog.underlying t with | some (.int k) => some k | _ => none))) = true := by kernel_rfl
theorem cfreshK29 : ((Rows.circleFreshUptoRow.pinned == Rows.circleFreshUptoRow.pinnedBy)) = true := by kernel_rfl
theorem cfreshK30 : ((Rows.circleFreshUptoRow.veiled == (Tryz.f8.params.toList ++ (Rows.OpenSpec.upto Rows.circleFreshSpec).bare.plain.varTypes Tryz.pinned.checked.prog ++ Tryz.f8.resultTypes.toList).any (Tryz.pinned.checked.prog.veiledRec ·))) = true := by kernel_rfl
theorem cfreshK31 : (Rows.circleFreshUptoRow.veiledFits Tryz.pinned.checked.prog Tryz.f8.params.toList (Tryz.f8.params.toList ++ (Rows.OpenSpec.upto Rows.circleFreshSpec).bare.plain.varTypes Tryz.pinned.checked.prog ++ Tryz.f8.resultTypes.toList)) = true := by kernel_rfl
theorem cfreshClosed : joinedFacts Tryz.pinned.checked.prog 8 Tryz.f8 (Rows.OpenSpec.upto Rows.circleFreshSpec).bare Rows.circleFreshUptoRow = true := cfreshand (cfreshand (cfreshand (cfreshand (cfreshand (cfreshand (cfreshand (cfreshand (cfreshand (cfreshand (cfreshand (cfreshand (cfreshand (cfreshand (cfreshand (cfreshand (cfreshand (cfreshand (cfreshand (cfreshand (cfreshand (cfreshand (cfreshand (cfreshand (cfreshand (cfreshand (cfreshand (cfreshand (cfreshand (cfreshand (cfreshand (cfreshK0) cfreshK1) cfreshK2) cfreshK3) cfreshK4) cfreshK5) cfreshK6) cfreshK7) cfreshK8) cfreshK9) cfreshK10) cfreshK11) cfreshK12) cfreshK13) cfreshK14) cfreshK15) cfreshK16) cfreshK17) cfreshK18) cfreshK19) cfreshK20) cfreshK21) cfreshK22) cfreshK23) cfreshK24) cfreshK25) cfreshK26) cfreshK27) cfreshK28) cfreshK29) cfreshK30) cfreshK31
end Go.Proofs.YthkmfboffnhkaaaGreatDoor
