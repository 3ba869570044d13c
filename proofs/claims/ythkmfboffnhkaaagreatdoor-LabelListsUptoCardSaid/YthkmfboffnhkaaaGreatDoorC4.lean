/-
  LabelLists: the row's closed facts.
-/
import Derived.Test.YthkmfboffnhkaaaGreatDoorF3
set_option linter.all false
namespace Go.Proofs.YthkmfboffnhkaaaGreatDoor
open Go
set_option maxRecDepth 100000
set_option maxHeartbeats 4000000
theorem llistsand {a b : Bool} (ha : a = true) (hb : b = true) : (a && b) = true := by rw [ha, hb]; rfl
theorem llistsK0 : (Rows.labelListsUptoRow.wf (OpenSpec.ofChange (Rows.OpenSpec.upto Rows.labelListsSpec).bare)) = true := by kernel_rfl
theorem llistsK1 : (laidOutB Tryz.pinned.checked.prog) = true := by kernel_rfl
theorem llistsK2 : (mapsRowed Tryz.pinned.checked.prog) = true := by kernel_rfl
theorem llistsK3 : (Tryz.f7.params.all (Tryz.pinned.checked.prog.readableRec ·)) = true := by kernel_rfl
theorem llistsK4 : (namedTie Tryz.pinned.checked.prog Rows.labelListsUptoRow.named (Rows.OpenSpec.upto Rows.labelListsSpec).bare.vars) = true := by kernel_rfl
theorem llistsK5 : ((Rows.labelListsUptoRow.stops == [])) = true := by kernel_rfl
theorem llistsK6 : ((Tryz.pinned.checked.prog.stops == [])) = true := by kernel_rfl
theorem llistsK7 : ((Rows.labelListsUptoRow.knobs == [])) = true := by kernel_rfl
theorem llistsK8 : ((Tryz.pinned.checked.prog.stopKnobs == [])) = true := by kernel_rfl
theorem llistsK9 : ((Rows.labelListsUptoRow.inPlace == Tryz.pinned.checked.prog.inPlace 7)) = true := by kernel_rfl
theorem llistsK10 : ((Rows.labelListsUptoRow.unfollowed == Tryz.pinned.checked.prog.unfollowed 7)) = true := by kernel_rfl
theorem llistsK11 : ((Rows.labelListsUptoRow.recurses == Tryz.pinned.checked.prog.recurses 7)) = true := by kernel_rfl
theorem llistsK12 : ((Rows.labelListsUptoRow.named == Tryz.pinned.checked.prog.varsNamed 7)) = true := by kernel_rfl
theorem llistsK13 : ((Rows.labelListsUptoRow.maps == (Tryz.f7.params.toList ++ (Rows.OpenSpec.upto Rows.labelListsSpec).bare.plain.varTypes Tryz.pinned.checked.prog).any (Tryz.pinned.checked.prog.mapsRec ·))) = true := by kernel_rfl
theorem llistsK14 : ((Rows.labelListsUptoRow.ifaces == (Tryz.f7.params.toList ++ (Rows.OpenSpec.upto Rows.labelListsSpec).bare.plain.varTypes Tryz.pinned.checked.prog).any (Tryz.pinned.checked.prog.ifacesRec ·))) = true := by kernel_rfl
theorem llistsK15 : ((Rows.labelListsUptoRow.mapsOut == Tryz.pinned.checked.prog.mapsAmong Tryz.f7.resultTypes.toList)) = true := by kernel_rfl
theorem llistsK16 : ((Rows.labelListsUptoRow.loops == (Tryz.f7.params.toList ++ (Rows.OpenSpec.upto Rows.labelListsSpec).bare.plain.varTypes Tryz.pinned.checked.prog).any (Tryz.pinned.checked.prog.loopsFrom ·))) = true := by kernel_rfl
theorem llistsK17 : ((Rows.labelListsUptoRow.wideKeys == (Tryz.f7.params.toList ++ (Rows.OpenSpec.upto Rows.labelListsSpec).bare.plain.varTypes Tryz.pinned.checked.prog ++ Tryz.f7.resultTypes.toList).any (Tryz.pinned.checked.prog.wideKeysFrom ·))) = true := by kernel_rfl
theorem llistsK18 : ((Rows.OpenSpec.upto Rows.labelListsSpec).bare.vars.all (Tryz.pinned.checked.prog.varReadable ·)) = true := by kernel_rfl
theorem llistsK19 : (Tryz.f7.resultTypes.all (fun t => Tryz.pinned.checked.prog.readableRec t && decide (t < Tryz.pinned.checked.prog.types.size))) = true := by kernel_rfl
theorem llistsK20 : ((Rows.labelListsUptoRow.ifacesOut == Tryz.f7.resultTypes.toList.any (Tryz.pinned.checked.prog.ifacesRec ·))) = true := by kernel_rfl
theorem llistsK21 : ((Rows.labelListsUptoRow.loopsOut == Tryz.f7.resultTypes.toList.any (Tryz.pinned.checked.prog.loopsFrom ·))) = true := by kernel_rfl
theorem llistsK22 : ((Rows.labelListsUptoRow.plainKeys == Tryz.pinned.checked.prog.plainKeys)) = true := by kernel_rfl
theorem llistsK23 : (Rows.labelListsUptoRow.shortTexts.isNone) = true := by kernel_rfl
theorem llistsK24 : (Tryz.pinned.checked.prog.stopsHeard) = true := by kernel_rfl
theorem llistsK25 : (Tryz.pinned.checked.prog.mayEnter) = true := by kernel_rfl
theorem llistsK26 : ((Rows.labelListsUptoRow.lifted == Tryz.pinned.checked.prog.liftsFinal)) = true := by kernel_rfl
theorem llistsK27 : ((Tryz.pinned.checked.prog.make == some Rows.labelListsUptoRow.make)) = true := by kernel_rfl
theorem llistsK28 : ((Rows.labelListsUptoRow.kinds == (if Rows.labelListsUptoRow.domain.isEmpty then [] else Tryz.f7.params.toList.map fun t => match Tryz.pinned.checked.prog.underlying t with | some (.int k) => some k | _ => none))) = true := by kernel_rfl
theorem llistsK29 : ((Rows.labelListsUptoRow.pinned == Rows.labelListsUptoRow.pinnedBy)) = true := by kernel_rfl
theorem llistsK30 : ((Rows.labelListsUptoRow.veiled == (Tryz.f7.params.toList ++ (Rows.OpenSpec.upto Rows.labelListsSpec).bare.plain.varTypes Tryz.pinned.checked.prog ++ Tryz.f7.resultTypes.toList).any (Tryz.pinned.checked.prog.veiledRec ·))) = true := by kernel_rfl
theorem llistsK31 : (Rows.labelListsUptoRow.veiledFits Tryz.pinned.checked.prog Tryz.f7.params.toList (Tryz.f7.params.toList ++ (Rows.OpenSpec.upto Rows.labelListsSpec).bare.plain.varTypes Tryz.pinned.checked.prog ++ Tryz.f7.resultTypes.toList)) = true := by kernel_rfl
theorem llistsClosed : joinedFacts Tryz.pinned.checked.prog 7 Tryz.f7 (Rows.OpenSpec.upto Rows.labelListsSpec).bare Rows.labelListsUptoRow = true := llistsand (llistsand (llistsand (llistsand (llistsand (llistsand (llistsand (llistsand (llistsand (llistsand (llistsand (llistsand (llistsand (llistsand (llistsand (llistsand (llistsand (llistsand (llistsand (llistsand (llistsand (llistsand (llistsand (llistsand (llistsand (llistsand (llistsand (llistsand (llistsand (llistsand (llistsand (llistsK0) llistsK1) llistsK2) llistsK3) llistsK4) llistsK5) llistsK6) llistsK7) llistsK8) llistsK9) llistsK10) llistsK11) llistsK12) llistsK13) llistsK14) llistsK15) llistsK16) llistsK17) llistsK18) llistsK19) llistsK20) llistsK21) llistsK22) llistsK23) llistsK24) llistsK25) llistsK26) llistsK27) llistsK28) llistsK29) llistsK30) llistsK31
end Go.Proofs.YthkmfboffnhkaaaGreatDoor
