/-
  ReachReaders: the row's closed facts.
-/
import Derived.Test.YthkmfboffnhkaaaGreatDoorFA
set_option linter.all false
namespace Go.Proofs.YthkmfboffnhkaaaGreatDoor
open Go
set_option maxRecDepth 100000
set_option maxHeartbeats 4000000
theorem rreadsand {a b : Bool} (ha : a = true) (hb : b = true) : (a && b) = true := by rw [ha, hb]; rfl
theorem rreadsK0 : (Rows.reachReadersUptoRow.wf (OpenSpec.ofChange (Rows.OpenSpec.upto Rows.reachReadersSpec).bare)) = true := by kernel_rfl
theorem rreadsK1 : (laidOutB Tryz.pinned.checked.prog) = true := by kernel_rfl
theorem rreadsK2 : (mapsRowed Tryz.pinned.checked.prog) = true := by kernel_rfl
theorem rreadsK3 : (Tryz.f10.params.all (Tryz.pinned.checked.prog.readableRec ·)) = true := by kernel_rfl
theorem rreadsK4 : (namedTie Tryz.pinned.checked.prog Rows.reachReadersUptoRow.named (Rows.OpenSpec.upto Rows.reachReadersSpec).bare.vars) = true := by kernel_rfl
theorem rreadsK5 : ((Rows.reachReadersUptoRow.stops == [])) = true := by kernel_rfl
theorem rreadsK6 : ((Tryz.pinned.checked.prog.stops == [])) = true := by kernel_rfl
theorem rreadsK7 : ((Rows.reachReadersUptoRow.knobs == [])) = true := by kernel_rfl
theorem rreadsK8 : ((Tryz.pinned.checked.prog.stopKnobs == [])) = true := by kernel_rfl
theorem rreadsK9 : ((Rows.reachReadersUptoRow.inPlace == Tryz.pinned.checked.prog.inPlace 10)) = true := by kernel_rfl
theorem rreadsK10 : ((Rows.reachReadersUptoRow.unfollowed == Tryz.pinned.checked.prog.unfollowed 10)) = true := by kernel_rfl
theorem rreadsK11 : ((Rows.reachReadersUptoRow.recurses == Tryz.pinned.checked.prog.recurses 10)) = true := by kernel_rfl
theorem rreadsK12 : ((Rows.reachReadersUptoRow.named == Tryz.pinned.checked.prog.varsNamed 10)) = true := by kernel_rfl
theorem rreadsK13 : ((Rows.reachReadersUptoRow.maps == (Tryz.f10.params.toList ++ (Rows.OpenSpec.upto Rows.reachReadersSpec).bare.plain.varTypes Tryz.pinned.checked.prog).any (Tryz.pinned.checked.prog.mapsRec ·))) = true := by kernel_rfl
theorem rreadsK14 : ((Rows.reachReadersUptoRow.ifaces == (Tryz.f10.params.toList ++ (Rows.OpenSpec.upto Rows.reachReadersSpec).bare.plain.varTypes Tryz.pinned.checked.prog).any (Tryz.pinned.checked.prog.ifacesRec ·))) = true := by kernel_rfl
theorem rreadsK15 : ((Rows.reachReadersUptoRow.mapsOut == Tryz.pinned.checked.prog.mapsAmong Tryz.f10.resultTypes.toList)) = true := by kernel_rfl
theorem rreadsK16 : ((Rows.reachReadersUptoRow.loops == (Tryz.f10.params.toList ++ (Rows.OpenSpec.upto Rows.reachReadersSpec).bare.plain.varTypes Tryz.pinned.checked.prog).any (Tryz.pinned.checked.prog.loopsFrom ·))) = true := by kernel_rfl
theorem rreadsK17 : ((Rows.reachReadersUptoRow.wideKeys == (Tryz.f10.params.toList ++ (Rows.OpenSpec.upto Rows.reachReadersSpec).bare.plain.varTypes Tryz.pinned.checked.prog ++ Tryz.f10.resultTypes.toList).any (Tryz.pinned.checked.prog.wideKeysFrom ·))) = true := by kernel_rfl
theorem rreadsK18 : ((Rows.OpenSpec.upto Rows.reachReadersSpec).bare.vars.all (Tryz.pinned.checked.prog.varReadable ·)) = true := by kernel_rfl
theorem rreadsK19 : (Tryz.f10.resultTypes.all (fun t => Tryz.pinned.checked.prog.readableRec t && decide (t < Tryz.pinned.checked.prog.types.size))) = true := by kernel_rfl
theorem rreadsK20 : ((Rows.reachReadersUptoRow.ifacesOut == Tryz.f10.resultTypes.toList.any (Tryz.pinned.checked.prog.ifacesRec ·))) = true := by kernel_rfl
theorem rreadsK21 : ((Rows.reachReadersUptoRow.loopsOut == Tryz.f10.resultTypes.toList.any (Tryz.pinned.checked.prog.loopsFrom ·))) = true := by kernel_rfl
theorem rreadsK22 : ((Rows.reachReadersUptoRow.plainKeys == Tryz.pinned.checked.prog.plainKeys)) = true := by kernel_rfl
theorem rreadsK23 : (Rows.reachReadersUptoRow.shortTexts.isNone) = true := by kernel_rfl
theorem rreadsK24 : (Tryz.pinned.checked.prog.stopsHeard) = true := by kernel_rfl
theorem rreadsK25 : (Tryz.pinned.checked.prog.mayEnter) = true := by kernel_rfl
theorem rreadsK26 : ((Rows.reachReadersUptoRow.lifted == Tryz.pinned.checked.prog.liftsFinal)) = true := by kernel_rfl
theorem rreadsK27 : ((Tryz.pinned.checked.prog.make == some Rows.reachReadersUptoRow.make)) = true := by kernel_rfl
theorem rreadsK28 : ((Rows.reachReadersUptoRow.kinds == (if Rows.reachReadersUptoRow.domain.isEmpty then [] else Tryz.f10.params.toList.map fun t => match Tryz.pinned.checked.prog.underlying t with | some (.int k) => some k | _ => none))) = true := by kernel_rfl
theorem rreadsK29 : ((Rows.reachReadersUptoRow.pinned == Rows.reachReadersUptoRow.pinnedBy)) = true := by kernel_rfl
theorem rreadsK30 : ((Rows.reachReadersUptoRow.veiled == (Tryz.f10.params.toList ++ (Rows.OpenSpec.upto Rows.reachReadersSpec).bare.plain.varTypes Tryz.pinned.checked.prog ++ Tryz.f10.resultTypes.toList).any (Tryz.pinned.checked.prog.veiledRec ·))) = true := by kernel_rfl
theorem rreadsK31 : (Rows.reachReadersUptoRow.veiledFits Tryz.pinned.checked.prog Tryz.f10.params.toList (Tryz.f10.params.toList ++ (Rows.OpenSpec.upto Rows.reachReadersSpec).bare.plain.varTypes Tryz.pinned.checked.prog ++ Tryz.f10.resultTypes.toList)) = true := by kernel_rfl
theorem rreadsClosed : joinedFacts Tryz.pinned.checked.prog 10 Tryz.f10 (Rows.OpenSpec.upto Rows.reachReadersSpec).bare Rows.reachReadersUptoRow = true := rreadsand (rreadsand (rreadsand (rreadsand (rreadsand (rreadsand (rreadsand (rreadsand (rreadsand (rreadsand (rreadsand (rreadsand (rreadsand (rreadsand (rreadsand (rreadsand (rreadsand (rreadsand (rreadsand (rreadsand (rreadsand (rreadsand (rreadsand (rreadsand (rreadsand (rreadsand (rreadsand (rreadsand (rreadsand (rreadsand (rreadsand (rreadsK0) rreadsK1) rreadsK2) rreadsK3) rreadsK4) rreadsK5) rreadsK6) rreadsK7) rreadsK8) rreadsK9) rreadsK10) rreadsK11) rreadsK12) rreadsK13) rreadsK14) rreadsK15) rreadsK16) rreadsK17) rreadsK18) rreadsK19) rreadsK20) rreadsK21) rreadsK22) rreadsK23) rreadsK24) rreadsK25) rreadsK26) rreadsK27) rreadsK28) rreadsK29) rreadsK30) rreadsK31
end Go.Proofs.YthkmfboffnhkaaaGreatDoor
