/-
  ListsAll: the row's closed facts.
-/
import Derived.Test.YthkmfboffnhkaaaGreatDoorF3
set_option linter.all false
namespace Go.Proofs.YthkmfboffnhkaaaGreatDoor
open Go
set_option maxRecDepth 100000
set_option maxHeartbeats 4000000
theorem alland {a b : Bool} (ha : a = true) (hb : b = true) : (a && b) = true := by rw [ha, hb]; rfl
theorem allK0 : (Rows.listsAllUptoRow.wf (OpenSpec.ofChange (Rows.OpenSpec.upto Rows.listsAllSpec).bare)) = true := by kernel_rfl
theorem allK1 : (laidOutB Tryz.pinned.checked.prog) = true := by kernel_rfl
theorem allK2 : (mapsRowed Tryz.pinned.checked.prog) = true := by kernel_rfl
theorem allK3 : (Tryz.f5.params.all (Tryz.pinned.checked.prog.readableRec ·)) = true := by kernel_rfl
theorem allK4 : (namedTie Tryz.pinned.checked.prog Rows.listsAllUptoRow.named (Rows.OpenSpec.upto Rows.listsAllSpec).bare.vars) = true := by kernel_rfl
theorem allK5 : ((Rows.listsAllUptoRow.stops == [])) = true := by kernel_rfl
theorem allK6 : ((Tryz.pinned.checked.prog.stops == [])) = true := by kernel_rfl
theorem allK7 : ((Rows.listsAllUptoRow.knobs == [])) = true := by kernel_rfl
theorem allK8 : ((Tryz.pinned.checked.prog.stopKnobs == [])) = true := by kernel_rfl
theorem allK9 : ((Rows.listsAllUptoRow.inPlace == Tryz.pinned.checked.prog.inPlace 5)) = true := by kernel_rfl
theorem allK10 : ((Rows.listsAllUptoRow.unfollowed == Tryz.pinned.checked.prog.unfollowed 5)) = true := by kernel_rfl
theorem allK11 : ((Rows.listsAllUptoRow.recurses == Tryz.pinned.checked.prog.recurses 5)) = true := by kernel_rfl
theorem allK12 : ((Rows.listsAllUptoRow.named == Tryz.pinned.checked.prog.varsNamed 5)) = true := by kernel_rfl
theorem allK13 : ((Rows.listsAllUptoRow.maps == (Tryz.f5.params.toList ++ (Rows.OpenSpec.upto Rows.listsAllSpec).bare.plain.varTypes Tryz.pinned.checked.prog).any (Tryz.pinned.checked.prog.mapsRec ·))) = true := by kernel_rfl
theorem allK14 : ((Rows.listsAllUptoRow.ifaces == (Tryz.f5.params.toList ++ (Rows.OpenSpec.upto Rows.listsAllSpec).bare.plain.varTypes Tryz.pinned.checked.prog).any (Tryz.pinned.checked.prog.ifacesRec ·))) = true := by kernel_rfl
theorem allK15 : ((Rows.listsAllUptoRow.mapsOut == Tryz.pinned.checked.prog.mapsAmong Tryz.f5.resultTypes.toList)) = true := by kernel_rfl
theorem allK16 : ((Rows.listsAllUptoRow.loops == (Tryz.f5.params.toList ++ (Rows.OpenSpec.upto Rows.listsAllSpec).bare.plain.varTypes Tryz.pinned.checked.prog).any (Tryz.pinned.checked.prog.loopsFrom ·))) = true := by kernel_rfl
theorem allK17 : ((Rows.listsAllUptoRow.wideKeys == (Tryz.f5.params.toList ++ (Rows.OpenSpec.upto Rows.listsAllSpec).bare.plain.varTypes Tryz.pinned.checked.prog ++ Tryz.f5.resultTypes.toList).any (Tryz.pinned.checked.prog.wideKeysFrom ·))) = true := by kernel_rfl
theorem allK18 : ((Rows.OpenSpec.upto Rows.listsAllSpec).bare.vars.all (Tryz.pinned.checked.prog.varReadable ·)) = true := by kernel_rfl
theorem allK19 : (Tryz.f5.resultTypes.all (fun t => Tryz.pinned.checked.prog.readableRec t && decide (t < Tryz.pinned.checked.prog.types.size))) = true := by kernel_rfl
theorem allK20 : ((Rows.listsAllUptoRow.ifacesOut == Tryz.f5.resultTypes.toList.any (Tryz.pinned.checked.prog.ifacesRec ·))) = true := by kernel_rfl
theorem allK21 : ((Rows.listsAllUptoRow.loopsOut == Tryz.f5.resultTypes.toList.any (Tryz.pinned.checked.prog.loopsFrom ·))) = true := by kernel_rfl
theorem allK22 : ((Rows.listsAllUptoRow.plainKeys == Tryz.pinned.checked.prog.plainKeys)) = true := by kernel_rfl
theorem allK23 : (Rows.listsAllUptoRow.shortTexts.isNone) = true := by kernel_rfl
theorem allK24 : (Tryz.pinned.checked.prog.stopsHeard) = true := by kernel_rfl
theorem allK25 : (Tryz.pinned.checked.prog.mayEnter) = true := by kernel_rfl
theorem allK26 : ((Rows.listsAllUptoRow.lifted == Tryz.pinned.checked.prog.liftsFinal)) = true := by kernel_rfl
theorem allK27 : ((Tryz.pinned.checked.prog.make == some Rows.listsAllUptoRow.make)) = true := by kernel_rfl
theorem allK28 : ((Rows.listsAllUptoRow.kinds == (if Rows.listsAllUptoRow.domain.isEmpty then [] else Tryz.f5.params.toList.map fun t => match Tryz.pinned.checked.prog.underlying t with | some (.int k) => some k | _ => none))) = true := by kernel_rfl
theorem allK29 : ((Rows.listsAllUptoRow.pinned == Rows.listsAllUptoRow.pinnedBy)) = true := by kernel_rfl
theorem allK30 : ((Rows.listsAllUptoRow.veiled == (Tryz.f5.params.toList ++ (Rows.OpenSpec.upto Rows.listsAllSpec).bare.plain.varTypes Tryz.pinned.checked.prog ++ Tryz.f5.resultTypes.toList).any (Tryz.pinned.checked.prog.veiledRec ·))) = true := by kernel_rfl
theorem allK31 : (Rows.listsAllUptoRow.veiledFits Tryz.pinned.checked.prog Tryz.f5.params.toList (Tryz.f5.params.toList ++ (Rows.OpenSpec.upto Rows.listsAllSpec).bare.plain.varTypes Tryz.pinned.checked.prog ++ Tryz.f5.resultTypes.toList)) = true := by kernel_rfl
theorem allClosed : joinedFacts Tryz.pinned.checked.prog 5 Tryz.f5 (Rows.OpenSpec.upto Rows.listsAllSpec).bare Rows.listsAllUptoRow = true := alland (alland (alland (alland (alland (alland (alland (alland (alland (alland (alland (alland (alland (alland (alland (alland (alland (alland (alland (alland (alland (alland (alland (alland (alland (alland (alland (alland (alland (alland (alland (allK0) allK1) allK2) allK3) allK4) allK5) allK6) allK7) allK8) allK9) allK10) allK11) allK12) allK13) allK14) allK15) allK16) allK17) allK18) allK19) allK20) allK21) allK22) allK23) allK24) allK25) allK26) allK27) allK28) allK29) allK30) allK31
end Go.Proofs.YthkmfboffnhkaaaGreatDoor
