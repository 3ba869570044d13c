/-
  ReachKeeps: the row's closed facts.
-/
import Derived.Test.YthkmfboffnhkaaaGreatDoorFA
set_option linter.all false
namespace Go.Proofs.YthkmfboffnhkaaaGreatDoor
open Go
set_option maxRecDepth 100000
set_option maxHeartbeats 4000000
theorem rkeepsand {a b : Bool} (ha : a = true) (hb : b = true) : (a && b) = true := by rw [ha, hb]; rfl
theorem rkeepsK0 : (Rows.reachKeepsUptoRow.wf (OpenSpec.ofChange (Rows.OpenSpec.upto Rows.reachKeepsSpec).bare)) = true := by kernel_rfl
theorem rkeepsK1 : (laidOutB Tryz.pinned.checked.prog) = true := by kernel_rfl
theorem rkeepsK2 : (mapsRowed Tryz.pinned.checked.prog) = true := by kernel_rfl
theorem rkeepsK3 : (Tryz.f12.params.all (Tryz.pinned.checked.prog.readableRec ·)) = true := by kernel_rfl
theorem rkeepsK4 : (namedTie Tryz.pinned.checked.prog Rows.reachKeepsUptoRow.named (Rows.OpenSpec.upto Rows.reachKeepsSpec).bare.vars) = true := by kernel_rfl
theorem rkeepsK5 : ((Rows.reachKeepsUptoRow.stops == [])) = true := by kernel_rfl
theorem rkeepsK6 : ((Tryz.pinned.checked.prog.stops == [])) = true := by kernel_rfl
theorem rkeepsK7 : ((Rows.reachKeepsUptoRow.knobs == [])) = true := by kernel_rfl
theorem rkeepsK8 : ((Tryz.pinned.checked.prog.stopKnobs == [])) = true := by kernel_rfl
theorem rkeepsK9 : ((Rows.reachKeepsUptoRow.inPlace == Tryz.pinned.checked.prog.inPlace 12)) = true := by kernel_rfl
theorem rkeepsK10 : ((Rows.reachKeepsUptoRow.unfollowed == Tryz.pinned.checked.prog.unfollowed 12)) = true := by kernel_rfl
theorem rkeepsK11 : ((Rows.reachKeepsUptoRow.recurses == Tryz.pinned.checked.prog.recurses 12)) = true := by kernel_rfl
theorem rkeepsK12 : ((Rows.reachKeepsUptoRow.named == Tryz.pinned.checked.prog.varsNamed 12)) = true := by kernel_rfl
theorem rkeepsK13 : ((Rows.reachKeepsUptoRow.maps == (Tryz.f12.params.toList ++ (Rows.OpenSpec.upto Rows.reachKeepsSpec).bare.plain.varTypes Tryz.pinned.checked.prog).any (Tryz.pinned.checked.prog.mapsRec ·))) = true := by kernel_rfl
theorem rkeepsK14 : ((Rows.reachKeepsUptoRow.ifaces == (Tryz.f12.params.toList ++ (Rows.OpenSpec.upto Rows.reachKeepsSpec).bare.plain.varTypes Tryz.pinned.checked.prog).any (Tryz.pinned.checked.prog.ifacesRec ·))) = true := by kernel_rfl
theorem rkeepsK15 : ((Rows.reachKeepsUptoRow.mapsOut == Tryz.pinned.checked.prog.mapsAmong Tryz.f12.resultTypes.toList)) = true := by kernel_rfl
theorem rkeepsK16 : ((Rows.reachKeepsUptoRow.loops == (Tryz.f12.params.toList ++ (Rows.OpenSpec.upto Rows.reachKeepsSpec).bare.plain.varTypes Tryz.pinned.checked.prog).any (Tryz.pinned.checked.prog.loopsFrom ·))) = true := by kernel_rfl
theorem rkeepsK17 : ((Rows.reachKeepsUptoRow.wideKeys == (Tryz.f12.params.toList ++ (Rows.OpenSpec.upto Rows.reachKeepsSpec).bare.plain.varTypes Tryz.pinned.checked.prog ++ Tryz.f12.resultTypes.toList).any (Tryz.pinned.checked.prog.wideKeysFrom ·))) = true := by kernel_rfl
theorem rkeepsK18 : ((Rows.OpenSpec.upto Rows.reachKeepsSpec).bare.vars.all (Tryz.pinned.checked.prog.varReadable ·)) = true := by kernel_rfl
theorem rkeepsK19 : (Tryz.f12.resultTypes.all (fun t => Tryz.pinned.checked.prog.readableRec t && decide (t < Tryz.pinned.checked.prog.types.size))) = true := by kernel_rfl
theorem rkeepsK20 : ((Rows.reachKeepsUptoRow.ifacesOut == Tryz.f12.resultTypes.toList.any (Tryz.pinned.checked.prog.ifacesRec ·))) = true := by kernel_rfl
theorem rkeepsK21 : ((Rows.reachKeepsUptoRow.loopsOut == Tryz.f12.resultTypes.toList.any (Tryz.pinned.checked.prog.loopsFrom ·))) = true := by kernel_rfl
theorem rkeepsK22 : ((Rows.reachKeepsUptoRow.plainKeys == Tryz.pinned.checked.prog.plainKeys)) = true := by kernel_rfl
theorem rkeepsK23 : (Rows.reachKeepsUptoRow.shortTexts.isNone) = true := by kernel_rfl
theorem rkeepsK24 : (Tryz.pinned.checked.prog.stopsHeard) = true := by kernel_rfl
theorem rkeepsK25 : (Tryz.pinned.checked.prog.mayEnter) = true := by kernel_rfl
theorem rkeepsK26 : ((Rows.reachKeepsUptoRow.lifted == Tryz.pinned.checked.prog.liftsFinal)) = true := by kernel_rfl
theorem rkeepsK27 : ((Tryz.pinned.checked.prog.make == some Rows.reachKeepsUptoRow.make)) = true := by kernel_rfl
theorem rkeepsK28 : ((Rows.reachKeepsUptoRow.kinds == (if Rows.reachKeepsUptoRow.domain.isEmpty then [] else Tryz.f12.params.toList.map fun t => match Tryz.pinned.checked.prog.underlying t with | some (.int k) => some k | _ => none))) = true := by kernel_rfl
theorem rkeepsK29 : ((Rows.reachKeepsUptoRow.pinned == Rows.reachKeepsUptoRow.pinnedBy)) = true := by kernel_rfl
theorem rkeepsK30 : ((Rows.reachKeepsUptoRow.veiled == (Tryz.f12.params.toList ++ (Rows.OpenSpec.upto Rows.reachKeepsSpec).bare.plain.varTypes Tryz.pinned.checked.prog ++ Tryz.f12.resultTypes.toList).any (Tryz.pinned.checked.prog.veiledRec ·))) = true := by kernel_rfl
theorem rkeepsK31 : (Rows.reachKeepsUptoRow.veiledFits Tryz.pinned.checked.prog Tryz.f12.params.toList (Tryz.f12.params.toList ++ (Rows.OpenSpec.upto Rows.reachKeepsSpec).bare.plain.varTypes Tryz.pinned.checked.prog ++ Tryz.f12.resultTypes.toList)) = true := by kernel_rfl
theorem rkeepsClosed : joinedFacts Tryz.pinned.checked.prog 12 Tryz.f12 (Rows.OpenSpec.upto Rows.reachKeepsSpec).bare Rows.reachKeepsUptoRow = true := rkeepsand (rkeepsand (rkeepsand (rkeepsand (rkeepsand (rkeepsand (rkeepsand (rkeepsand (rkeepsand (rkeepsand (rkeepsand (rkeepsand (rkeepsand (rkeepsand (rkeepsand (rkeepsand (rkeepsand (rkeepsand (rkeepsand (rkeepsand (rkeepsand (rkeepsand (rkeepsand (rkeepsand (rkeepsand (rkeepsand (rkeepsand (rkeepsand (rkeepsand (rkeepsand (rkeepsand (rkeepsK0) rkeepsK1) rkeepsK2) rkeepsK3) rkeepsK4) rkeepsK5) rkeepsK6) rkeepsK7) rkeepsK8) rkeepsK9) rkeepsK10) rkeepsK11) rkeepsK12) rkeepsK13) rkeepsK14) rkeepsK15) rkeepsK16) rkeepsK17) rkeepsK18) rkeepsK19) rkeepsK20) rkeepsK21) rkeepsK22) rkeepsK23) rkeepsK24) rkeepsK25) rkeepsK26) rkeepsK27) rkeepsK28) rkeepsK29) rkeepsK30) rkeepsK31
end Go.Proofs.YthkmfboffnhkaaaGreatDoor
