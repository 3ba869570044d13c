/-
  ListsGrows: the row's closed facts.
-/
import Derived.Test.YthkmfboffnhkaaaGreatDoorF3
set_option linter.all false
namespace Go.Proofs.YthkmfboffnhkaaaGreatDoor
open Go
set_option maxRecDepth 100000
set_option maxHeartbeats 4000000
theorem growsand {a b : Bool} (ha : a = true) (hb : b = true) : (a && b) = true := by rw [ha, hb]; rfl
theorem growsK0 : (Rows.listsGrowsUptoRow.wf (OpenSpec.ofChange (Rows.OpenSpec.upto Rows.listsGrowsSpec).bare)) = true := by kernel_rfl
theorem growsK1 : (laidOutB Tryz.pinned.checked.prog) = true := by kernel_rfl
theorem growsK2 : (mapsRowed Tryz.pinned.checked.prog) = true := by kernel_rfl
theorem growsK3 : (Tryz.f3.params.all (Tryz.pinned.checked.prog.readableRec ·)) = true := by kernel_rfl
theorem growsK4 : (namedTie Tryz.pinned.checked.prog Rows.listsGrowsUptoRow.named (Rows.OpenSpec.upto Rows.listsGrowsSpec).bare.vars) = true := by kernel_rfl
theorem growsK5 : ((Rows.listsGrowsUptoRow.stops == [])) = true := by kernel_rfl
theorem growsK6 : ((Tryz.pinned.checked.prog.stops == [])) = true := by kernel_rfl
theorem growsK7 : ((Rows.listsGrowsUptoRow.knobs == [])) = true := by kernel_rfl
theorem growsK8 : ((Tryz.pinned.checked.prog.stopKnobs == [])) = true := by kernel_rfl
theorem growsK9 : ((Rows.listsGrowsUptoRow.inPlace == Tryz.pinned.checked.prog.inPlace 3)) = true := by kernel_rfl
theorem growsK10 : ((Rows.listsGrowsUptoRow.unfollowed == Tryz.pinned.checked.prog.unfollowed 3)) = true := by kernel_rfl
theorem growsK11 : ((Rows.listsGrowsUptoRow.recurses == Tryz.pinned.checked.prog.recurses 3)) = true := by kernel_rfl
theorem growsK12 : ((Rows.listsGrowsUptoRow.named == Tryz.pinned.checked.prog.varsNamed 3)) = true := by kernel_rfl
theorem growsK13 : ((Rows.listsGrowsUptoRow.maps == (Tryz.f3.params.toList ++ (Rows.OpenSpec.upto Rows.listsGrowsSpec).bare.plain.varTypes Tryz.pinned.checked.prog).any (Tryz.pinned.checked.prog.mapsRec ·))) = true := by kernel_rfl
theorem growsK14 : ((Rows.listsGrowsUptoRow.ifaces == (Tryz.f3.params.toList ++ (Rows.OpenSpec.upto Rows.listsGrowsSpec).bare.plain.varTypes Tryz.pinned.checked.prog).any (Tryz.pinned.checked.prog.ifacesRec ·))) = true := by kernel_rfl
theorem growsK15 : ((Rows.listsGrowsUptoRow.mapsOut == Tryz.pinned.checked.prog.mapsAmong Tryz.f3.resultTypes.toList)) = true := by kernel_rfl
theorem growsK16 : ((Rows.listsGrowsUptoRow.loops == (Tryz.f3.params.toList ++ (Rows.OpenSpec.upto Rows.listsGrowsSpec).bare.plain.varTypes Tryz.pinned.checked.prog).any (Tryz.pinned.checked.prog.loopsFrom ·))) = true := by kernel_rfl
theorem growsK17 : ((Rows.listsGrowsUptoRow.wideKeys == (Tryz.f3.params.toList ++ (Rows.OpenSpec.upto Rows.listsGrowsSpec).bare.plain.varTypes Tryz.pinned.checked.prog ++ Tryz.f3.resultTypes.toList).any (Tryz.pinned.checked.prog.wideKeysFrom ·))) = true := by kernel_rfl
theorem growsK18 : ((Rows.OpenSpec.upto Rows.listsGrowsSpec).bare.vars.all (Tryz.pinned.checked.prog.varReadable ·)) = true := by kernel_rfl
theorem growsK19 : (Tryz.f3.resultTypes.all (fun t => Tryz.pinned.checked.prog.readableRec t && decide (t < Tryz.pinned.checked.prog.types.size))) = true := by kernel_rfl
theorem growsK20 : ((Rows.listsGrowsUptoRow.ifacesOut == Tryz.f3.resultTypes.toList.any (Tryz.pinned.checked.prog.ifacesRec ·))) = true := by kernel_rfl
theorem growsK21 : ((Rows.listsGrowsUptoRow.loopsOut == Tryz.f3.resultTypes.toList.any (Tryz.pinned.checked.prog.loopsFrom ·))) = true := by kernel_rfl
theorem growsK22 : ((Rows.listsGrowsUptoRow.plainKeys == Tryz.pinned.checked.prog.plainKeys)) = true := by kernel_rfl
theorem growsK23 : (Rows.listsGrowsUptoRow.shortTexts.isNone) = true := by kernel_rfl
theorem growsK24 : (Tryz.pinned.checked.prog.stopsHeard) = true := by kernel_rfl
theorem growsK25 : (Tryz.pinned.checked.prog.mayEnter) = true := by kernel_rfl
theorem growsK26 : ((Rows.listsGrowsUptoRow.lifted == Tryz.pinned.checked.prog.liftsFinal)) = true := by kernel_rfl
theorem growsK27 : ((Tryz.pinned.checked.prog.make == some Rows.listsGrowsUptoRow.make)) = true := by kernel_rfl
theorem growsK28 : ((Rows.listsGrowsUptoRow.kinds == (if Rows.listsGrowsUptoRow.domain.isEmpty then [] else Tryz.f3.params.toList.map fun t => match Tryz.pinned.checked.prog.underlying t with | some (.int k) => some k | _ => none))) = true := by kernel_rfl
theorem growsK29 : ((Rows.listsGrowsUptoRow.pinned == Rows.listsGrowsUptoRow.pinnedBy)) = true := by kernel_rfl
theorem growsK30 : ((Rows.listsGrowsUptoRow.veiled == (Tryz.f3.params.toList ++ (Rows.OpenSpec.upto Rows.listsGrowsSpec).bare.plain.varTypes Tryz.pinned.checked.prog ++ Tryz.f3.resultTypes.toList).any (Tryz.pinned.checked.prog.veiledRec ·))) = true := by kernel_rfl
theorem growsK31 : (Rows.listsGrowsUptoRow.veiledFits Tryz.pinned.checked.prog Tryz.f3.params.toList (Tryz.f3.params.toList ++ (Rows.OpenSpec.upto Rows.listsGrowsSpec).bare.plain.varTypes Tryz.pinned.checked.prog ++ Tryz.f3.resultTypes.toList)) = true := by kernel_rfl
theorem growsClosed : joinedFacts Tryz.pinned.checked.prog 3 Tryz.f3 (Rows.OpenSpec.upto Rows.listsGrowsSpec).bare Rows.listsGrowsUptoRow = true := growsand (growsand (growsand (growsand (growsand (growsand (growsand (growsand (growsand (growsand (growsand (growsand (growsand (growsand (growsand (growsand (growsand (growsand (growsand (growsand (growsand (growsand (growsand (growsand (growsand (growsand (growsand (growsand (growsand (growsand (growsand (growsK0) growsK1) growsK2) growsK3) growsK4) growsK5) growsK6) growsK7) growsK8) growsK9) growsK10) growsK11) growsK12) growsK13) growsK14) growsK15) growsK16) growsK17) growsK18) growsK19) growsK20) growsK21) growsK22) growsK23) growsK24) growsK25) growsK26) growsK27) growsK28) growsK29) growsK30) growsK31
end Go.Proofs.YthkmfboffnhkaaaGreatDoor
