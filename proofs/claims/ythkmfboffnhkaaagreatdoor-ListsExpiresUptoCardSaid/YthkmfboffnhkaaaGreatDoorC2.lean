/-
  ListsExpires: the row's closed facts.
-/
import Derived.Test.YthkmfboffnhkaaaGreatDoorF3
set_option linter.all false
namespace Go.Proofs.YthkmfboffnhkaaaGreatDoor
open Go
set_option maxRecDepth 100000
set_option maxHeartbeats 4000000
theorem expiresand {a b : Bool} (ha : a = true) (hb : b = true) : (a && b) = true := by rw [ha, hb]; rfl
theorem expiresK0 : (Rows.listsExpiresUptoRow.wf (OpenSpec.ofChange (Rows.OpenSpec.upto Rows.listsExpiresSpec).bare)) = true := by kernel_rfl
theorem expiresK1 : (laidOutB Tryz.pinned.checked.prog) = true := by kernel_rfl
theorem expiresK2 : (mapsRowed Tryz.pinned.checked.prog) = true := by kernel_rfl
theorem expiresK3 : (Tryz.f4.params.all (Tryz.pinned.checked.prog.readableRec ·)) = true := by kernel_rfl
theorem expiresK4 : (namedTie Tryz.pinned.checked.prog Rows.listsExpiresUptoRow.named (Rows.OpenSpec.upto Rows.listsExpiresSpec).bare.vars) = true := by kernel_rfl
theorem expiresK5 : ((Rows.listsExpiresUptoRow.stops == [])) = true := by kernel_rfl
theorem expiresK6 : ((Tryz.pinned.checked.prog.stops == [])) = true := by kernel_rfl
theorem expiresK7 : ((Rows.listsExpiresUptoRow.knobs == [])) = true := by kernel_rfl
theorem expiresK8 : ((Tryz.pinned.checked.prog.stopKnobs == [])) = true := by kernel_rfl
theorem expiresK9 : ((Rows.listsExpiresUptoRow.inPlace == Tryz.pinned.checked.prog.inPlace 4)) = true := by kernel_rfl
theorem expiresK10 : ((Rows.listsExpiresUptoRow.unfollowed == Tryz.pinned.checked.prog.unfollowed 4)) = true := by kernel_rfl
theorem expiresK11 : ((Rows.listsExpiresUptoRow.recurses == Tryz.pinned.checked.prog.recurses 4)) = true := by kernel_rfl
theorem expiresK12 : ((Rows.listsExpiresUptoRow.named == Tryz.pinned.checked.prog.varsNamed 4)) = true := by kernel_rfl
theorem expiresK13 : ((Rows.listsExpiresUptoRow.maps == (Tryz.f4.params.toList ++ (Rows.OpenSpec.upto Rows.listsExpiresSpec).bare.plain.varTypes Tryz.pinned.checked.prog).any (Tryz.pinned.checked.prog.mapsRec ·))) = true := by kernel_rfl
theorem expiresK14 : ((Rows.listsExpiresUptoRow.ifaces == (Tryz.f4.params.toList ++ (Rows.OpenSpec.upto Rows.listsExpiresSpec).bare.plain.varTypes Tryz.pinned.checked.prog).any (Tryz.pinned.checked.prog.ifacesRec ·))) = true := by kernel_rfl
theorem expiresK15 : ((Rows.listsExpiresUptoRow.mapsOut == Tryz.pinned.checked.prog.mapsAmong Tryz.f4.resultTypes.toList)) = true := by kernel_rfl
theorem expiresK16 : ((Rows.listsExpiresUptoRow.loops == (Tryz.f4.params.toList ++ (Rows.OpenSpec.upto Rows.listsExpiresSpec).bare.plain.varTypes Tryz.pinned.checked.prog).any (Tryz.pinned.checked.prog.loopsFrom ·))) = true := by kernel_rfl
theorem expiresK17 : ((Rows.listsExpiresUptoRow.wideKeys == (Tryz.f4.params.toList ++ (Rows.OpenSpec.upto Rows.listsExpiresSpec).bare.plain.varTypes Tryz.pinned.checked.prog ++ Tryz.f4.resultTypes.toList).any (Tryz.pinned.checked.prog.wideKeysFrom ·))) = true := by kernel_rfl
theorem expiresK18 : ((Rows.OpenSpec.upto Rows.listsExpiresSpec).bare.vars.all (Tryz.pinned.checked.prog.varReadable ·)) = true := by kernel_rfl
theorem expiresK19 : (Tryz.f4.resultTypes.all (fun t => Tryz.pinned.checked.prog.readableRec t && decide (t < Tryz.pinned.checked.prog.types.size))) = true := by kernel_rfl
theorem expiresK20 : ((Rows.listsExpiresUptoRow.ifacesOut == Tryz.f4.resultTypes.toList.any (Tryz.pinned.checked.prog.ifacesRec ·))) = true := by kernel_rfl
theorem expiresK21 : ((Rows.listsExpiresUptoRow.loopsOut == Tryz.f4.resultTypes.toList.any (Tryz.pinned.checked.prog.loopsFrom ·))) = true := by kernel_rfl
theorem expiresK22 : ((Rows.listsExpiresUptoRow.plainKeys == Tryz.pinned.checked.prog.plainKeys)) = true := by kernel_rfl
theorem expiresK23 : (Rows.listsExpiresUptoRow.shortTexts.isNone) = true := by kernel_rfl
theorem expiresK24 : (Tryz.pinned.checked.prog.stopsHeard) = true := by kernel_rfl
theorem expiresK25 : (Tryz.pinned.checked.prog.mayEnter) = true := by kernel_rfl
theorem expiresK26 : ((Rows.listsExpiresUptoRow.lifted == Tryz.pinned.checked.prog.liftsFinal)) = true := by kernel_rfl
theorem expiresK27 : ((Tryz.pinned.checked.prog.make == some Rows.listsExpiresUptoRow.make)) = true := by kernel_rfl
theorem expiresK28 : ((Rows.listsExpiresUptoRow.kinds == (if Rows.listsExpiresUptoRow.domain.isEmpty then [] else Tryz.f4.params.toList.map fun t => match Tryz.pinned.checked.prog.underlying t with | some (.int k) => some k | _ => none))) = true := by kernel_rfl
theorem expiresK29 : ((Rows.listsExpiresUptoRow.pinned == Rows.listsExpiresUptoRow.pinnedBy)) = true := by kernel_rfl
theorem expiresK30 : ((Rows.listsExpiresUptoRow.veiled == (Tryz.f4.params.toList ++ (Rows.OpenSpec.upto Rows.listsExpiresSpec).bare.plain.varTypes Tryz.pinned.checked.prog ++ Tryz.f4.resultTypes.toList).any (Tryz.pinned.checked.prog.veiledRec ·))) = true := by kernel_rfl
theorem expiresK31 : (Rows.listsExpiresUptoRow.veiledFits Tryz.pinned.checked.prog Tryz.f4.params.toList (Tryz.f4.params.toList ++ (Rows.OpenSpec.upto Rows.listsExpiresSpec).bare.plain.varTypes Tryz.pinned.checked.prog ++ Tryz.f4.resultTypes.toList)) = true := by kernel_rfl
theorem expiresClosed : joinedFacts Tryz.pinned.checked.prog 4 Tryz.f4 (Rows.OpenSpec.upto Rows.listsExpiresSpec).bare Rows.listsExpiresUptoRow = true := expiresand (expiresand (expiresand (expiresand (expiresand (expiresand (expiresand (expiresand (expiresand (expiresand (expiresand (expiresand (expiresand (expiresand (expiresand (expiresand (expiresand (expiresand (expiresand (expiresand (expiresand (expiresand (expiresand (expiresand (expiresand (expiresand (expiresand (expiresand (expiresand (expiresand (expiresand (expiresK0) expiresK1) expiresK2) expiresK3) expiresK4) expiresK5) expiresK6) expiresK7) expiresK8) expiresK9) expiresK10) expiresK11) expiresK12) expiresK13) expiresK14) expiresK15) expiresK16) expiresK17) expiresK18) expiresK19) expiresK20) expiresK21) expiresK22) expiresK23) expiresK24) expiresK25) expiresK26) expiresK27) expiresK28) expiresK29) expiresK30) expiresK31
end Go.Proofs.YthkmfboffnhkaaaGreatDoor
