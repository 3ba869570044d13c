/-
  ReachSpots: the row's closed facts.
-/
import Derived.Test.YthkmfboffnhkaaaGreatDoorFA
set_option linter.all false
namespace Go.Proofs.YthkmfboffnhkaaaGreatDoor
open Go
set_option maxRecDepth 100000
set_option maxHeartbeats 4000000
theorem rspotsand {a b : Bool} (ha : a = true) (hb : b = true) : (a && b) = true := by rw [ha, hb]; rfl
theorem rspotsK0 : (Rows.reachSpotsUptoRow.wf (OpenSpec.ofChange (Rows.OpenSpec.upto Rows.reachSpotsSpec).bare)) = true := by kernel_rfl
theorem rspotsK1 : (laidOutB Tryz.pinned.checked.prog) = true := by kernel_rfl
theorem rspotsK2 : (mapsRowed Tryz.pinned.checked.prog) = true := by kernel_rfl
theorem rspotsK3 : (Tryz.f11.params.all (Tryz.pinned.checked.prog.readableRec ·)) = true := by kernel_rfl
theorem rspotsK4 : (namedTie Tryz.pinned.checked.prog Rows.reachSpotsUptoRow.named (Rows.OpenSpec.upto Rows.reachSpotsSpec).bare.vars) = true := by kernel_rfl
theorem rspotsK5 : ((Rows.reachSpotsUptoRow.stops == [])) = true := by kernel_rfl
theorem rspotsK6 : ((Tryz.pinned.checked.prog.stops == [])) = true := by kernel_rfl
theorem rspotsK7 : ((Rows.reachSpotsUptoRow.knobs == [])) = true := by kernel_rfl
theorem rspotsK8 : ((Tryz.pinned.checked.prog.stopKnobs == [])) = true := by kernel_rfl
theorem rspotsK9 : ((Rows.reachSpotsUptoRow.inPlace == Tryz.pinned.checked.prog.inPlace 11)) = true := by kernel_rfl
theorem rspotsK10 : ((Rows.reachSpotsUptoRow.unfollowed == Tryz.pinned.checked.prog.unfollowed 11)) = true := by kernel_rfl
theorem rspotsK11 : ((Rows.reachSpotsUptoRow.recurses == Tryz.pinned.checked.prog.recurses 11)) = true := by kernel_rfl
theorem rspotsK12 : ((Rows.reachSpotsUptoRow.named == Tryz.pinned.checked.prog.varsNamed 11)) = true := by kernel_rfl
theorem rspotsK13 : ((Rows.reachSpotsUptoRow.maps == (Tryz.f11.params.toList ++ (Rows.OpenSpec.upto Rows.reachSpotsSpec).bare.plain.varTypes Tryz.pinned.checked.prog).any (Tryz.pinned.checked.prog.mapsRec ·))) = true := by kernel_rfl
theorem rspotsK14 : ((Rows.reachSpotsUptoRow.ifaces == (Tryz.f11.params.toList ++ (Rows.OpenSpec.upto Rows.reachSpotsSpec).bare.plain.varTypes Tryz.pinned.checked.prog).any (Tryz.pinned.checked.prog.ifacesRec ·))) = true := by kernel_rfl
theorem rspotsK15 : ((Rows.reachSpotsUptoRow.mapsOut == Tryz.pinned.checked.prog.mapsAmong Tryz.f11.resultTypes.toList)) = true := by kernel_rfl
theorem rspotsK16 : ((Rows.reachSpotsUptoRow.loops == (Tryz.f11.params.toList ++ (Rows.OpenSpec.upto Rows.reachSpotsSpec).bare.plain.varTypes Tryz.pinned.checked.prog).any (Tryz.pinned.checked.prog.loopsFrom ·))) = true := by kernel_rfl
theorem rspotsK17 : ((Rows.reachSpotsUptoRow.wideKeys == (Tryz.f11.params.toList ++ (Rows.OpenSpec.upto Rows.reachSpotsSpec).bare.plain.varTypes Tryz.pinned.checked.prog ++ Tryz.f11.resultTypes.toList).any (Tryz.pinned.checked.prog.wideKeysFrom ·))) = true := by kernel_rfl
theorem rspotsK18 : ((Rows.OpenSpec.upto Rows.reachSpotsSpec).bare.vars.all (Tryz.pinned.checked.prog.varReadable ·)) = true := by kernel_rfl
theorem rspotsK19 : (Tryz.f11.resultTypes.all (fun t => Tryz.pinned.checked.prog.readableRec t && decide (t < Tryz.pinned.checked.prog.types.size))) = true := by kernel_rfl
theorem rspotsK20 : ((Rows.reachSpotsUptoRow.ifacesOut == Tryz.f11.resultTypes.toList.any (Tryz.pinned.checked.prog.ifacesRec ·))) = true := by kernel_rfl
theorem rspotsK21 : ((Rows.reachSpotsUptoRow.loopsOut == Tryz.f11.resultTypes.toList.any (Tryz.pinned.checked.prog.loopsFrom ·))) = true := by kernel_rfl
theorem rspotsK22 : ((Rows.reachSpotsUptoRow.plainKeys == Tryz.pinned.checked.prog.plainKeys)) = true := by kernel_rfl
theorem rspotsK23 : (Rows.reachSpotsUptoRow.shortTexts.isNone) = true := by kernel_rfl
theorem rspotsK24 : (Tryz.pinned.checked.prog.stopsHeard) = true := by kernel_rfl
theorem rspotsK25 : (Tryz.pinned.checked.prog.mayEnter) = true := by kernel_rfl
theorem rspotsK26 : ((Rows.reachSpotsUptoRow.lifted == Tryz.pinned.checked.prog.liftsFinal)) = true := by kernel_rfl
theorem rspotsK27 : ((Tryz.pinned.checked.prog.make == some Rows.reachSpotsUptoRow.make)) = true := by kernel_rfl
theorem rspotsK28 : ((Rows.reachSpotsUptoRow.kinds == (if Rows.reachSpotsUptoRow.domain.isEmpty then [] else Tryz.f11.params.toList.map fun t => match Tryz.pinned.checked.prog.underlying t with | some (.int k) => some k | _ => none))) = true := by kernel_rfl
theorem rspotsK29 : ((Rows.reachSpotsUptoRow.pinned == Rows.reachSpotsUptoRow.pinnedBy)) = true := by kernel_rfl
theorem rspotsK30 : ((Rows.reachSpotsUptoRow.veiled == (Tryz.f11.params.toList ++ (Rows.OpenSpec.upto Rows.reachSpotsSpec).bare.plain.varTypes Tryz.pinned.checked.prog ++ Tryz.f11.resultTypes.toList).any (Tryz.pinned.checked.prog.veiledRec ·))) = true := by kernel_rfl
theorem rspotsK31 : (Rows.reachSpotsUptoRow.veiledFits Tryz.pinned.checked.prog Tryz.f11.params.toList (Tryz.f11.params.toList ++ (Rows.OpenSpec.upto Rows.reachSpotsSpec).bare.plain.varTypes Tryz.pinned.checked.prog ++ Tryz.f11.resultTypes.toList)) = true := by kernel_rfl
theorem rspotsClosed : joinedFacts Tryz.pinned.checked.prog 11 Tryz.f11 (Rows.OpenSpec.upto Rows.reachSpotsSpec).bare Rows.reachSpotsUptoRow = true := rspotsand (rspotsand (rspotsand (rspotsand (rspotsand (rspotsand (rspotsand (rspotsand (rspotsand (rspotsand (rspotsand (rspotsand (rspotsand (rspotsand (rspotsand (rspotsand (rspotsand (rspotsand (rspotsand (rspotsand (rspotsand (rspotsand (rspotsand (rspotsand (rspotsand (rspotsand (rspotsand (rspotsand (rspotsand (rspotsand (rspotsand (rspotsK0) rspotsK1) rspotsK2) rspotsK3) rspotsK4) rspotsK5) rspotsK6) rspotsK7) rspotsK8) rspotsK9) rspotsK10) rspotsK11) rspotsK12) rspotsK13) rspotsK14) rspotsK15) rspotsK16) rspotsK17) rspotsK18) rspotsK19) rspotsK20) rspotsK21) rspotsK22) rspotsK23) rspotsK24) rspotsK25) rspotsK26) rspotsK27) rspotsK28) rspotsK29) rspotsK30) rspotsK31
end Go.Proofs.YthkmfboffnhkaaaGreatDoor
