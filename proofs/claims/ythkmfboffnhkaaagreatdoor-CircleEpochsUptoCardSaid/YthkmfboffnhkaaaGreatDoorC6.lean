/-
  CircleEpochs: the row's closed facts.
-/
import Derived.Test.YthkmfboffnhkaaaGreatDoorF3
set_option linter.all false
namespace Go.Proofs.YthkmfboffnhkaaaGreatDoor
open Go
set_option maxRecDepth 100000
set_option maxHeartbeats 4000000
theorem cepochsand {a b : Bool} (ha : a = true) (hb : b = true) : (a && b) = true := by rw [ha, hb]; rfl
theorem cepochsK0 : (Rows.circleEpochsUptoRow.wf (OpenSpec.ofChange (Rows.OpenSpec.upto Rows.circleEpochsSpec).bare)) = true := by kernel_rfl
theorem cepochsK1 : (laidOutB Tryz.pinned.checked.prog) = true := by kernel_rfl
theorem cepochsK2 : (mapsRowed Tryz.pinned.checked.prog) = true := by kernel_rfl
theorem cepochsK3 : (Tryz.f9.params.all (Tryz.pinned.checked.prog.readableRec ·)) = true := by kernel_rfl
theorem cepochsK4 : (namedTie Tryz.pinned.checked.prog Rows.circleEpochsUptoRow.named (Rows.OpenSpec.upto Rows.circleEpochsSpec).bare.vars) = true := by kernel_rfl
theorem cepochsK5 : ((Rows.circleEpochsUptoRow.stops == [])) = true := by kernel_rfl
theorem cepochsK6 : ((Tryz.pinned.checked.prog.stops == [])) = true := by kernel_rfl
theorem cepochsK7 : ((Rows.circleEpochsUptoRow.knobs == [])) = true := by kernel_rfl
theorem cepochsK8 : ((Tryz.pinned.checked.prog.stopKnobs == [])) = true := by kernel_rfl
theorem cepochsK9 : ((Rows.circleEpochsUptoRow.inPlace == Tryz.pinned.checked.prog.inPlace 9)) = true := by kernel_rfl
theorem cepochsK10 : ((Rows.circleEpochsUptoRow.unfollowed == Tryz.pinned.checked.prog.unfollowed 9)) = true := by kernel_rfl
theorem cepochsK11 : ((Rows.circleEpochsUptoRow.recurses == Tryz.pinned.checked.prog.recurses 9)) = true := by kernel_rfl
theorem cepochsK12 : ((Rows.circleEpochsUptoRow.named == Tryz.pinned.checked.prog.varsNamed 9)) = true := by kernel_rfl
theorem cepochsK13 : ((Rows.circleEpochsUptoRow.maps == (Tryz.f9.params.toList ++ (Rows.OpenSpec.upto Rows.circleEpochsSpec).bare.plain.varTypes Tryz.pinned.checked.prog).any (Tryz.pinned.checked.prog.mapsRec ·))) = true := by kernel_rfl
theorem cepochsK14 : ((Rows.circleEpochsUptoRow.ifaces == (Tryz.f9.params.toList ++ (Rows.OpenSpec.upto Rows.circleEpochsSpec).bare.plain.varTypes Tryz.pinned.checked.prog).any (Tryz.pinned.checked.prog.ifacesRec ·))) = true := by kernel_rfl
theorem cepochsK15 : ((Rows.circleEpochsUptoRow.mapsOut == Tryz.pinned.checked.prog.mapsAmong Tryz.f9.resultTypes.toList)) = true := by kernel_rfl
theorem cepochsK16 : ((Rows.circleEpochsUptoRow.loops == (Tryz.f9.params.toList ++ (Rows.OpenSpec.upto Rows.circleEpochsSpec).bare.plain.varTypes Tryz.pinned.checked.prog).any (Tryz.pinned.checked.prog.loopsFrom ·))) = true := by kernel_rfl
theorem cepochsK17 : ((Rows.circleEpochsUptoRow.wideKeys == (Tryz.f9.params.toList ++ (Rows.OpenSpec.upto Rows.circleEpochsSpec).bare.plain.varTypes Tryz.pinned.checked.prog ++ Tryz.f9.resultTypes.toList).any (Tryz.pinned.checked.prog.wideKeysFrom ·))) = true := by kernel_rfl
theorem cepochsK18 : ((Rows.OpenSpec.upto Rows.circleEpochsSpec).bare.vars.all (Tryz.pinned.checked.prog.varReadable ·)) = true := by kernel_rfl
theorem cepochsK19 : (Tryz.f9.resultTypes.all (fun t => Tryz.pinned.checked.prog.readableRec t && decide (t < Tryz.pinned.checked.prog.types.size))) = true := by kernel_rfl
theorem cepochsK20 : ((Rows.circleEpochsUptoRow.ifacesOut == Tryz.f9.resultTypes.toList.any (Tryz.pinned.checked.prog.ifacesRec ·))) = true := by kernel_rfl
theorem cepochsK21 : ((Rows.circleEpochsUptoRow.loopsOut == Tryz.f9.resultTypes.toList.any (Tryz.pinned.checked.prog.loopsFrom ·))) = true := by kernel_rfl
theorem cepochsK22 : ((Rows.circleEpochsUptoRow.plainKeys == Tryz.pinned.checked.prog.plainKeys)) = true := by kernel_rfl
theorem cepochsK23 : (Rows.circleEpochsUptoRow.shortTexts.isNone) = true := by kernel_rfl
theorem cepochsK24 : (Tryz.pinned.checked.prog.stopsHeard) = true := by kernel_rfl
theorem cepochsK25 : (Tryz.pinned.checked.prog.mayEnter) = true := by kernel_rfl
theorem cepochsK26 : ((Rows.circleEpochsUptoRow.lifted == Tryz.pinned.checked.prog.liftsFinal)) = true := by kernel_rfl
theorem cepochsK27 : ((Tryz.pinned.checked.prog.make == some Rows.circleEpochsUptoRow.make)) = true := by kernel_rfl
theorem cepochsK28 : ((Rows.circleEpochsUptoRow.kinds == (if Rows.circleEpochsUptoRow.domain.isEmpty then [] else Tryz.f9.params.toList.map fun t => match Tryz.pinned.checked.prog.underlying t with | some (.int k) => some k | _ => none))) = true := by kernel_rfl
theorem cepochsK29 : ((Rows.circleEpochsUptoRow.pinned == Rows.circleEpochsUptoRow.pinnedBy)) = true := by kernel_rfl
theorem cepochsK30 : ((Rows.circleEpochsUptoRow.veiled == (Tryz.f9.params.toList ++ (Rows.OpenSpec.upto Rows.circleEpochsSpec).bare.plain.varTypes Tryz.pinned.checked.prog ++ Tryz.f9.resultTypes.toList).any (Tryz.pinned.checked.prog.veiledRec ·))) = true := by kernel_rfl
theorem cepochsK31 : (Rows.circleEpochsUptoRow.veiledFits Tryz.pinned.checked.prog Tryz.f9.params.toList (Tryz.f9.params.toList ++ (Rows.OpenSpec.upto Rows.circleEpochsSpec).bare.plain.varTypes Tryz.pinned.checked.prog ++ Tryz.f9.resultTypes.toList)) = true := by kernel_rfl
theorem cepochsClosed : joinedFacts Tryz.pinned.checked.prog 9 Tryz.f9 (Rows.OpenSpec.upto Rows.circleEpochsSpec).bare Rows.circleEpochsUptoRow = true := cepochsand (cepochsand (cepochsand (cepochsand (cepochsand (cepochsand (cepochsand (cepochsand (cepochsand (cepochsand (cepochsand (cepochsand (cepochsand (cepochsand (cepochsand (cepochsand (cepochsand (cepochsand (cepochsand (cepochsand (cepochsand (cepochsand (cepochsand (cepochsand (cepochsand (cepochsand (cepochsand (cepochsand (cepochsand (cepochsand (cepochsand (cepochsK0) cepochsK1) cepochsK2) cepochsK3) cepochsK4) cepochsK5) cepochsK6) cepochsK7) cepochsK8) cepochsK9) cepochsK10) cepochsK11) cepochsK12) cepochsK13) cepochsK14) cepochsK15) cepochsK16) cepochsK17) cepochsK18) cepochsK19) cepochsK20) cepochsK21) cepochsK22) cepochsK23) cepochsK24) cepochsK25) cepochsK26) cepochsK27) cepochsK28) cepochsK29) cepochsK30) cepochsK31
end Go.Proofs.YthkmfboffnhkaaaGreatDoor
