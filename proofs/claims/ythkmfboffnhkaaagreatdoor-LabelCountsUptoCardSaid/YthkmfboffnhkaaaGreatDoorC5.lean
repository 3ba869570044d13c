/-
  LabelCounts: the row's closed facts.
-/
import Derived.Test.YthkmfboffnhkaaaGreatDoorF3
set_option linter.all false
namespace Go.Proofs.YthkmfboffnhkaaaGreatDoor
open Go
set_option maxRecDepth 100000
set_option maxHeartbeats 4000000
theorem lcountsand {a b : Bool} (ha : a = true) (hb : b = true) : (a && b) = true := by rw [ha, hb]; rfl
theorem lcountsK0 : (Rows.labelCountsUptoRow.wf (OpenSpec.ofChange (Rows.OpenSpec.upto Rows.labelCountsSpec).bare)) = true := by kernel_rfl
theorem lcountsK1 : (laidOutB Tryz.pinned.checked.prog) = true := by kernel_rfl
theorem lcountsK2 : (mapsRowed Tryz.pinned.checked.prog) = true := by kernel_rfl
theorem lcountsK3 : (Tryz.f6.params.all (Tryz.pinned.checked.prog.readableRec ·)) = true := by kernel_rfl
theorem lcountsK4 : (namedTie Tryz.pinned.checked.prog Rows.labelCountsUptoRow.named (Rows.OpenSpec.upto Rows.labelCountsSpec).bare.vars) = true := by kernel_rfl
theorem lcountsK5 : ((Rows.labelCountsUptoRow.stops == [])) = true := by kernel_rfl
theorem lcountsK6 : ((Tryz.pinned.checked.prog.stops == [])) = true := by kernel_rfl
theorem lcountsK7 : ((Rows.labelCountsUptoRow.knobs == [])) = true := by kernel_rfl
theorem lcountsK8 : ((Tryz.pinned.checked.prog.stopKnobs == [])) = true := by kernel_rfl
theorem lcountsK9 : ((Rows.labelCountsUptoRow.inPlace == Tryz.pinned.checked.prog.inPlace 6)) = true := by kernel_rfl
theorem lcountsK10 : ((Rows.labelCountsUptoRow.unfollowed == Tryz.pinned.checked.prog.unfollowed 6)) = true := by kernel_rfl
theorem lcountsK11 : ((Rows.labelCountsUptoRow.recurses == Tryz.pinned.checked.prog.recurses 6)) = true := by kernel_rfl
theorem lcountsK12 : ((Rows.labelCountsUptoRow.named == Tryz.pinned.checked.prog.varsNamed 6)) = true := by kernel_rfl
theorem lcountsK13 : ((Rows.labelCountsUptoRow.maps == (Tryz.f6.params.toList ++ (Rows.OpenSpec.upto Rows.labelCountsSpec).bare.plain.varTypes Tryz.pinned.checked.prog).any (Tryz.pinned.checked.prog.mapsRec ·))) = true := by kernel_rfl
theorem lcountsK14 : ((Rows.labelCountsUptoRow.ifaces == (Tryz.f6.params.toList ++ (Rows.OpenSpec.upto Rows.labelCountsSpec).bare.plain.varTypes Tryz.pinned.checked.prog).any (Tryz.pinned.checked.prog.ifacesRec ·))) = true := by kernel_rfl
theorem lcountsK15 : ((Rows.labelCountsUptoRow.mapsOut == Tryz.pinned.checked.prog.mapsAmong Tryz.f6.resultTypes.toList)) = true := by kernel_rfl
theorem lcountsK16 : ((Rows.labelCountsUptoRow.loops == (Tryz.f6.params.toList ++ (Rows.OpenSpec.upto Rows.labelCountsSpec).bare.plain.varTypes Tryz.pinned.checked.prog).any (Tryz.pinned.checked.prog.loopsFrom ·))) = true := by kernel_rfl
theorem lcountsK17 : ((Rows.labelCountsUptoRow.wideKeys == (Tryz.f6.params.toList ++ (Rows.OpenSpec.upto Rows.labelCountsSpec).bare.plain.varTypes Tryz.pinned.checked.prog ++ Tryz.f6.resultTypes.toList).any (Tryz.pinned.checked.prog.wideKeysFrom ·))) = true := by kernel_rfl
theorem lcountsK18 : ((Rows.OpenSpec.upto Rows.labelCountsSpec).bare.vars.all (Tryz.pinned.checked.prog.varReadable ·)) = true := by kernel_rfl
theorem lcountsK19 : (Tryz.f6.resultTypes.all (fun t => Tryz.pinned.checked.prog.readableRec t && decide (t < Tryz.pinned.checked.prog.types.size))) = true := by kernel_rfl
theorem lcountsK20 : ((Rows.labelCountsUptoRow.ifacesOut == Tryz.f6.resultTypes.toList.any (Tryz.pinned.checked.prog.ifacesRec ·))) = true := by kernel_rfl
theorem lcountsK21 : ((Rows.labelCountsUptoRow.loopsOut == Tryz.f6.resultTypes.toList.any (Tryz.pinned.checked.prog.loopsFrom ·))) = true := by kernel_rfl
theorem lcountsK22 : ((Rows.labelCountsUptoRow.plainKeys == Tryz.pinned.checked.prog.plainKeys)) = true := by kernel_rfl
theorem lcountsK23 : (Rows.labelCountsUptoRow.shortTexts.isNone) = true := by kernel_rfl
theorem lcountsK24 : (Tryz.pinned.checked.prog.stopsHeard) = true := by kernel_rfl
theorem lcountsK25 : (Tryz.pinned.checked.prog.mayEnter) = true := by kernel_rfl
theorem lcountsK26 : ((Rows.labelCountsUptoRow.lifted == Tryz.pinned.checked.prog.liftsFinal)) = true := by kernel_rfl
theorem lcountsK27 : ((Tryz.pinned.checked.prog.make == some Rows.labelCountsUptoRow.make)) = true := by kernel_rfl
theorem lcountsK28 : ((Rows.labelCountsUptoRow.kinds == (if Rows.labelCountsUptoRow.domain.isEmpty then [] else Tryz.f6.params.toList.map fun t => match Tryz.pinned.checked.prog.underlying t with | some (.int k) => some k | _ => none))) = true := by kernel_rfl
theorem lcountsK29 : ((Rows.labelCountsUptoRow.pinned == Rows.labelCountsUptoRow.pinnedBy)) = true := by kernel_rfl
theorem lcountsK30 : ((Rows.labelCountsUptoRow.veiled == (Tryz.f6.params.toList ++ (Rows.OpenSpec.upto Rows.labelCountsSpec).bare.plain.varTypes Tryz.pinned.checked.prog ++ Tryz.f6.resultTypes.toList).any (Tryz.pinned.checked.prog.veiledRec ·))) = true := by kernel_rfl
theorem lcountsK31 : (Rows.labelCountsUptoRow.veiledFits Tryz.pinned.checked.prog Tryz.f6.params.toList (Tryz.f6.params.toList ++ (Rows.OpenSpec.upto Rows.labelCountsSpec).bare.plain.varTypes Tryz.pinned.checked.prog ++ Tryz.f6.resultTypes.toList)) = true := by kernel_rfl
theorem lcountsClosed : joinedFacts Tryz.pinned.checked.prog 6 Tryz.f6 (Rows.OpenSpec.upto Rows.labelCountsSpec).bare Rows.labelCountsUptoRow = true := lcountsand (lcountsand (lcountsand (lcountsand (lcountsand (lcountsand (lcountsand (lcountsand (lcountsand (lcountsand (lcountsand (lcountsand (lcountsand (lcountsand (lcountsand (lcountsand (lcountsand (lcountsand (lcountsand (lcountsand (lcountsand (lcountsand (lcountsand (lcountsand (lcountsand (lcountsand (lcountsand (lcountsand (lcountsand (lcountsand (lcountsand (lcountsK0) lcountsK1) lcountsK2) lcountsK3) lcountsK4) lcountsK5) lcountsK6) lcountsK7) lcountsK8) lcountsK9) lcountsK10) lcountsK11) lcountsK12) lcountsK13) lcountsK14) lcountsK15) lcountsK16) lcountsK17) lcountsK18) lcountsK19) lcountsK20) lcountsK21) lcountsK22) lcountsK23) lcountsK24) lcountsK25) lcountsK26) lcountsK27) lcountsK28) lcountsK29) lcountsK30) lcountsK31
end Go.Proofs.YthkmfboffnhkaaaGreatDoor
