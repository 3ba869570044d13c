/-
  DERIVED. GIVEN WITH THE SEED: THE CARDS: each row of YthkmfboffnhkaaaGreatDoorRows.lean that lists a variable, with what it lists TIED to the program's text (the seventh form; the later family's looks); each row that meets fmt, with fmt's text TOLD by the authors' own Lean function (tested against real Go, not proved from fmt's source: count such statements apart). THE CARD IS WHAT COUNTS. Prove the row's statement (the work); the ties are given (YthkmfboffnhkaaaGreatDoorTie.lean); close each card by the builder's one call (the guide's Derived/Test/ToyasCard.lean, 'card_holds'). Laid BY PROGRAM, IN A SANDBOX (cutbox-door.mjs). By AI agents, Wed Nov 11 2026. No macro, syntax, notation, axiom, sorry.
-/
import Derived.Test.YthkmfboffnhkaaaGreatDoorRows
import GoSem.ClaimSeven
namespace Go.Proofs.YthkmfboffnhkaaaGreatDoor
namespace Rows

/-- THE TIED CARD OF 'agoralaw37.ListsGrows'. -/
def listsGrowsCard : Claim7 := { stood := { row := listsGrowsRow, standIns := [], harness := (true, "012938d53830a419a05283aef0032843bf78431819119087620c5dfe39466d49"), looks := false }, kinds := [], alts := [], laidByText := true, laidKinds := [.data, .funcs, .pinned], laidTests := true, laidLooks := .later }
def ListsGrowsCardSaid : Prop := Claim7.holds Tryz.pinned (.plain (OpenSpec.ofChange listsGrowsSpec)) listsGrowsCard

/-- THE TIED CARD OF 'agoralaw37.ListsExpires'. -/
def listsExpiresCard : Claim7 := { stood := { row := listsExpiresRow, standIns := [], harness := (true, "012938d53830a419a05283aef0032843bf78431819119087620c5dfe39466d49"), looks := false }, kinds := [], alts := [], laidByText := true, laidKinds := [.data, .funcs, .pinned], laidTests := true, laidLooks := .later }
def ListsExpiresCardSaid : Prop := Claim7.holds Tryz.pinned (.plain (OpenSpec.ofChange listsExpiresSpec)) listsExpiresCard

/-- THE TIED CARD OF 'agoralaw37.ListsAll'. -/
def listsAllCard : Claim7 := { stood := { row := listsAllRow, standIns := [], harness := (true, "012938d53830a419a05283aef0032843bf78431819119087620c5dfe39466d49"), looks := false }, kinds := [], alts := [], laidByText := true, laidKinds := [.data, .funcs, .pinned], laidTests := true, laidLooks := .later }
def ListsAllCardSaid : Prop := Claim7.holds Tryz.pinned (.plain (OpenSpec.ofChange listsAllSpec)) listsAllCard

/-- THE TIED CARD OF 'agoralaw34.LabelCounts'. -/
def labelCountsCard : Claim7 := { stood := { row := labelCountsRow, standIns := [], harness := (true, "012938d53830a419a05283aef0032843bf78431819119087620c5dfe39466d49"), looks := false }, kinds := [], alts := [], laidByText := true, laidKinds := [.data, .funcs, .pinned], laidTests := true, laidLooks := .later }
def LabelCountsCardSaid : Prop := Claim7.holds Tryz.pinned (.plain (OpenSpec.ofChange labelCountsSpec)) labelCountsCard

/-- THE TIED CARD OF 'agoralaw34.LabelLists'. -/
def labelListsCard : Claim7 := { stood := { row := labelListsRow, standIns := [], harness := (true, "012938d53830a419a05283aef0032843bf78431819119087620c5dfe39466d49"), looks := false }, kinds := [], alts := [], laidByText := true, laidKinds := [.data, .funcs, .pinned], laidTests := true, laidLooks := .later }
def LabelListsCardSaid : Prop := Claim7.holds Tryz.pinned (.plain (OpenSpec.ofChange labelListsSpec)) labelListsCard

/-- THE TIED CARD OF 'agoralaw22.CircleFresh'. -/
def circleFreshCard : Claim7 := { stood := { row := circleFreshRow, standIns := [], harness := (true, "012938d53830a419a05283aef0032843bf78431819119087620c5dfe39466d49"), looks := false }, kinds := [], alts := [], laidByText := true, laidKinds := [.data, .funcs, .pinned], laidTests := true, laidLooks := .later }
def CircleFreshCardSaid : Prop := Claim7.holds Tryz.pinned (.plain (OpenSpec.ofChange circleFreshSpec)) circleFreshCard

/-- THE TIED CARD OF 'agoralaw22.CircleEpochs'. -/
def circleEpochsCard : Claim7 := { stood := { row := circleEpochsRow, standIns := [], harness := (true, "012938d53830a419a05283aef0032843bf78431819119087620c5dfe39466d49"), looks := false }, kinds := [], alts := [], laidByText := true, laidKinds := [.data, .funcs, .pinned], laidTests := true, laidLooks := .later }
def CircleEpochsCardSaid : Prop := Claim7.holds Tryz.pinned (.plain (OpenSpec.ofChange circleEpochsSpec)) circleEpochsCard

/-- THE TIED CARD OF 'agoralaw25.ReachReaders'. -/
def reachReadersCard : Claim7 := { stood := { row := reachReadersRow, standIns := [], harness := (true, "012938d53830a419a05283aef0032843bf78431819119087620c5dfe39466d49"), looks := false }, kinds := [], alts := [], laidByText := true, laidKinds := [.data, .funcs, .pinned], laidTests := true, laidLooks := .later }
def ReachReadersCardSaid : Prop := Claim7.holds Tryz.pinned (.plain (OpenSpec.ofChange reachReadersSpec)) reachReadersCard

/-- THE TIED CARD OF 'agoralaw25.ReachSpots'. -/
def reachSpotsCard : Claim7 := { stood := { row := reachSpotsRow, standIns := [], harness := (true, "012938d53830a419a05283aef0032843bf78431819119087620c5dfe39466d49"), looks := false }, kinds := [], alts := [], laidByText := true, laidKinds := [.data, .funcs, .pinned], laidTests := true, laidLooks := .later }
def ReachSpotsCardSaid : Prop := Claim7.holds Tryz.pinned (.plain (OpenSpec.ofChange reachSpotsSpec)) reachSpotsCard

/-- THE TIED CARD OF 'agoralaw25.ReachKeeps'. -/
def reachKeepsCard : Claim7 := { stood := { row := reachKeepsRow, standIns := [], harness := (true, "012938d53830a419a05283aef0032843bf78431819119087620c5dfe39466d49"), looks := false }, kinds := [], alts := [], laidByText := true, laidKinds := [.data, .funcs, .pinned], laidTests := true, laidLooks := .later }
def ReachKeepsCardSaid : Prop := Claim7.holds Tryz.pinned (.plain (OpenSpec.ofChange reachKeepsSpec)) reachKeepsCard

/-- THE TIED CARD OF 'agoralaw21.RelationSteps'. -/
def relationStepsCard : Claim7 := { stood := { row := relationStepsRow, standIns := [], harness := (true, "012938d53830a419a05283aef0032843bf78431819119087620c5dfe39466d49"), looks := false }, kinds := [], alts := [], laidByText := true, laidKinds := [.data, .funcs, .pinned], laidTests := true, laidLooks := .later }
def RelationStepsCardSaid : Prop := Claim7.holds Tryz.pinned (.plain (OpenSpec.ofChange relationStepsSpec)) relationStepsCard

/-- THE TIED CARD OF 'agoralaw28.TallyWho'. -/
def tallyWhoCard : Claim7 := { stood := { row := tallyWhoRow, standIns := [], harness := (true, "012938d53830a419a05283aef0032843bf78431819119087620c5dfe39466d49"), looks := false }, kinds := [], alts := [], laidByText := true, laidKinds := [.data, .funcs, .pinned], laidTests := true, laidLooks := .later }
def TallyWhoCardSaid : Prop := Claim7.holds Tryz.pinned (.plain (OpenSpec.ofChange tallyWhoSpec)) tallyWhoCard

/-- THE SECOND FORM's CARD OF 'agoralaw37.ListsGrows'. -/
def listsGrowsUptoCard : Claim7 := { stood := { row := listsGrowsUptoRow, standIns := [], harness := (true, "012938d53830a419a05283aef0032843bf78431819119087620c5dfe39466d49"), looks := false }, kinds := [], alts := [], laidByText := true, laidKinds := [.data, .funcs, .pinned], laidTests := true, laidLooks := .later }
def ListsGrowsUptoCardSaid : Prop := Claim7.holds Tryz.pinned (.plain (OpenSpec.upto listsGrowsSpec)) listsGrowsUptoCard

/-- THE SECOND FORM's CARD OF 'agoralaw37.ListsExpires'. -/
def listsExpiresUptoCard : Claim7 := { stood := { row := listsExpiresUptoRow, standIns := [], harness := (true, "012938d53830a419a05283aef0032843bf78431819119087620c5dfe39466d49"), looks := false }, kinds := [], alts := [], laidByText := true, laidKinds := [.data, .funcs, .pinned], laidTests := true, laidLooks := .later }
def ListsExpiresUptoCardSaid : Prop := Claim7.holds Tryz.pinned (.plain (OpenSpec.upto listsExpiresSpec)) listsExpiresUptoCard

/-- THE SECOND FORM's CARD OF 'agoralaw37.ListsAll'. -/
def listsAllUptoCard : Claim7 := { stood := { row := listsAllUptoRow, standIns := [], harness := (true, "012938d53830a419a05283aef0032843bf78431819119087620c5dfe39466d49"), looks := false }, kinds := [], alts := [], laidByText := true, laidKinds := [.data, .funcs, .pinned], laidTests := true, laidLooks := .later }
def ListsAllUptoCardSaid : Prop := Claim7.holds Tryz.pinned (.plain (OpenSpec.upto listsAllSpec)) listsAllUptoCard

/-- THE SECOND FORM's CARD OF 'agoralaw34.LabelCounts'. -/
def labelCountsUptoCard : Claim7 := { stood := { row := labelCountsUptoRow, standIns := [], harness := (true, "012938d53830a419a05283aef0032843bf78431819119087620c5dfe39466d49"), looks := false }, kinds := [], alts := [], laidByText := true, laidKinds := [.data, .funcs, .pinned], laidTests := true, laidLooks := .later }
def LabelCountsUptoCardSaid : Prop := Claim7.holds Tryz.pinned (.plain (OpenSpec.upto labelCountsSpec)) labelCountsUptoCard

/-- THE SECOND FORM's CARD OF 'agoralaw34.LabelLists'. -/
def labelListsUptoCard : Claim7 := { stood := { row := labelListsUptoRow, standIns := [], harness := (true, "012938d53830a419a05283aef0032843bf78431819119087620c5dfe39466d49"), looks := false }, kinds := [], alts := [], laidByText := true, laidKinds := [.data, .funcs, .pinned], laidTests := true, laidLooks := .later }
def LabelListsUptoCardSaid : Prop := Claim7.holds Tryz.pinned (.plain (OpenSpec.upto labelListsSpec)) labelListsUptoCard

/-- THE SECOND FORM's CARD OF 'agoralaw22.CircleFresh'. -/
def circleFreshUptoCard : Claim7 := { stood := { row := circleFreshUptoRow, standIns := [], harness := (true, "012938d53830a419a05283aef0032843bf78431819119087620c5dfe39466d49"), looks := false }, kinds := [], alts := [], laidByText := true, laidKinds := [.data, .funcs, .pinned], laidTests := true, laidLooks := .later }
def CircleFreshUptoCardSaid : Prop := Claim7.holds Tryz.pinned (.plain (OpenSpec.upto circleFreshSpec)) circleFreshUptoCard

/-- THE SECOND FORM's CARD OF 'agoralaw22.CircleEpochs'. -/
def circleEpochsUptoCard : Claim7 := { stood := { row := circleEpochsUptoRow, standIns := [], harness := (true, "012938d53830a419a05283aef0032843bf78431819119087620c5dfe39466d49"), looks := false }, kinds := [], alts := [], laidByText := true, laidKinds := [.data, .funcs, .pinned], laidTests := true, laidLooks := .later }
def CircleEpochsUptoCardSaid : Prop := Claim7.holds Tryz.pinned (.plain (OpenSpec.upto circleEpochsSpec)) circleEpochsUptoCard

/-- THE SECOND FORM's CARD OF 'agoralaw25.ReachReaders'. -/
def reachReadersUptoCard : Claim7 := { stood := { row := reachReadersUptoRow, standIns := [], harness := (true, "012938d53830a419a05283aef0032843bf78431819119087620c5dfe39466d49"), looks := false }, kinds := [], alts := [], laidByText := true, laidKinds := [.data, .funcs, .pinned], laidTests := true, laidLooks := .later }
def ReachReadersUptoCardSaid : Prop := Claim7.holds Tryz.pinned (.plain (OpenSpec.upto reachReadersSpec)) reachReadersUptoCard

/-- THE SECOND FORM's CARD OF 'agoralaw25.ReachSpots'. -/
def reachSpotsUptoCard : Claim7 := { stood := { row := reachSpotsUptoRow, standIns := [], harness := (true, "012938d53830a419a05283aef0032843bf78431819119087620c5dfe39466d49"), looks := false }, kinds := [], alts := [], laidByText := true, laidKinds := [.data, .funcs, .pinned], laidTests := true, laidLooks := .later }
def ReachSpotsUptoCardSaid : Prop := Claim7.holds Tryz.pinned (.plain (OpenSpec.upto reachSpotsSpec)) reachSpotsUptoCard

/-- THE SECOND FORM's CARD OF 'agoralaw25.ReachKeeps'. -/
def reachKeepsUptoCard : Claim7 := { stood := { row := reachKeepsUptoRow, standIns := [], harness := (true, "012938d53830a419a05283aef0032843bf78431819119087620c5dfe39466d49"), looks := false }, kinds := [], alts := [], laidByText := true, laidKinds := [.data, .funcs, .pinned], laidTests := true, laidLooks := .later }
def ReachKeepsUptoCardSaid : Prop := Claim7.holds Tryz.pinned (.plain (OpenSpec.upto reachKeepsSpec)) reachKeepsUptoCard

/-- THE SECOND FORM's CARD OF 'agoralaw21.RelationSteps'. -/
def relationStepsUptoCard : Claim7 := { stood := { row := relationStepsUptoRow, standIns := [], harness := (true, "012938d53830a419a05283aef0032843bf78431819119087620c5dfe39466d49"), looks := false }, kinds := [], alts := [], laidByText := true, laidKinds := [.data, .funcs, .pinned], laidTests := true, laidLooks := .later }
def RelationStepsUptoCardSaid : Prop := Claim7.holds Tryz.pinned (.plain (OpenSpec.upto relationStepsSpec)) relationStepsUptoCard

/-- THE SECOND FORM's CARD OF 'agoralaw28.TallyWho'. -/
def tallyWhoUptoCard : Claim7 := { stood := { row := tallyWhoUptoRow, standIns := [], harness := (true, "012938d53830a419a05283aef0032843bf78431819119087620c5dfe39466d49"), looks := false }, kinds := [], alts := [], laidByText := true, laidKinds := [.data, .funcs, .pinned], laidTests := true, laidLooks := .later }
def TallyWhoUptoCardSaid : Prop := Claim7.holds Tryz.pinned (.plain (OpenSpec.upto tallyWhoSpec)) tallyWhoUptoCard
end Rows
end Go.Proofs.YthkmfboffnhkaaaGreatDoor
