/-
  NARROWER THAN 'FOR EVERY INPUT', by the rows' own cells (each row's printed sentence says how): ListsGrows: laid · ListsExpires: laid · ListsAll: laid · LabelCounts: laid · LabelLists: laid · CircleFresh: laid · CircleEpochs: laid · ReachReaders: laid · ReachSpots: laid · ReachKeeps: laid · RelationSteps: laid · TallyWho: laid.
  DERIVED. THE GIVEN ROWS OF THIS SEAT. 12 by the template 'for every input the law returns true; each argument reads behind the call as it read before'; 0 by the template 'total and deterministic' (their statements: YthkmfboffnhkaaaGreatDoorTotals.lean).
  GIVEN WITH THE SEED: the statements are not yours to turn. If you find one false, say at which input.
  Laid BY PROGRAM, IN A SANDBOX (cutbox-rows.mjs): the forced cells as the released guide's own fill.sh prints them over the translation 8380afbbf9d80689… (all of the seat's roots in one cut). By AI agents, Wed Nov 11 2026. No macro, syntax, notation, axiom, sorry.
-/
import Derived.Test.YthkmfboffnhkaaaGreatDoorChecked
import GoSem.PinnedTables
import GoSem.Claim
import GoSem.ClaimJoined
import GoSem.ClaimMapViews
import Derived.JoinedTies
import Derived.KernelRfl
namespace Go.Proofs.YthkmfboffnhkaaaGreatDoor
/- THE CELL 'sum', in the pinned program and in every row, IS THE sha256 OF THE DUMP (.gsa) THAT YthkmfboffnhkaaaGreatDoorProg.lean LOADS. Nothing in Lean hashes anything: it is a label: what it is worth is what the hold of that sum in a sandbox is worth. -/
noncomputable def Tryz.pinned : Pinned := { name := "ythkmfboffnhkaaagreatdoor", sum := "8380afbbf9d80689422fd38c7662996a239db972619f22a62d711b6d34f9bd03", checked := Tryz.checked }
namespace Rows
def none {H : Type} : Left H := { results := [], args := [] }

/- WHAT THE LISTED PACKAGE-LEVEL VARIABLES READ AS WHEN THE CALL BEGINS. Each datum BY PROGRAM (the guide's laid-datum.mjs) off the statement by which the dump's own 'gosem.cut.vars' lays the variable. In a bare row this is a premise. The card (YthkmfboffnhkaaaGreatDoorCards.lean) ties it to the program's text. -/
def laid_unicode_utf8_acceptRanges {H : Type} : DataW H := .agg [.agg [.lit (.int .u8 128), .lit (.int .u8 191)], .agg [.lit (.int .u8 160), .lit (.int .u8 191)], .agg [.lit (.int .u8 128), .lit (.int .u8 159)], .agg [.lit (.int .u8 144), .lit (.int .u8 191)], .agg [.lit (.int .u8 128), .lit (.int .u8 143)], .agg [.lit (.int .u8 0), .lit (.int .u8 0)], .agg [.lit (.int .u8 0), .lit (.int .u8 0)], .agg [.lit (.int .u8 0), .lit (.int .u8 0)], .agg [.lit (.int .u8 0), .lit (.int .u8 0)], .agg [.lit (.int .u8 0), .lit (.int .u8 0)], .agg [.lit (.int .u8 0), .lit (.int .u8 0)], .agg [.lit (.int .u8 0), .lit (.int .u8 0)], .agg [.lit (.int .u8 0), .lit (.int .u8 0)], .agg [.lit (.int .u8 0), .lit (.int .u8 0)], .agg [.lit (.int .u8 0), .lit (.int .u8 0)], .agg [.lit (.int .u8 0), .lit (.int .u8 0)]]
def laid_agora_act_kinds {H : Type} : DataW H := .iface "func table" (.map [(.int .i64 0, .agg [.lit (.bool false), .lit (.bool false), .lit (.bool false), .lit (.bool false), .lit (.bool false), .lit (.bool true), .lit (.bool false), .lit (.bool true), .lit (.bool true), .iface "func" (.lit (.string [97, 103, 111, 114, 97, 47, 97, 99, 116, 46, 107, 105, 110, 100, 115, 36, 49]))]), (.int .i64 1, .agg [.lit (.bool false), .lit (.bool false), .lit (.bool true), .lit (.bool false), .lit (.bool false), .lit (.bool false), .lit (.bool false), .lit (.bool false), .lit (.bool false), .iface "func" (.lit (.string [97, 103, 111, 114, 97, 47, 97, 99, 116, 46, 97, 117, 100, 105, 101, 110, 99, 101]))]), (.int .i64 2, .agg [.lit (.bool true), .lit (.bool false), .lit (.bool true), .lit (.bool false), .lit (.bool false), .lit (.bool false), .lit (.bool false), .lit (.bool false), .lit (.bool false), .iface "func" (.lit (.string [97, 103, 111, 114, 97, 47, 97, 99, 116, 46, 97, 117, 100, 105, 101, 110, 99, 101]))]), (.int .i64 3, .agg [.lit (.bool true), .lit (.bool false), .lit (.bool true), .lit (.bool false), .lit (.bool false), .lit (.bool false), .lit (.bool false), .lit (.bool false), .lit (.bool false), .iface "func" (.lit (.string [97, 103, 111, 114, 97, 47, 97, 99, 116, 46, 97, 117, 100, 105, 101, 110, 99, 101]))]), (.int .i64 4, .agg [.lit (.bool true), .lit (.bool false), .lit (.bool false), .lit (.bool false), .lit (.bool false), .lit (.bool false), .lit (.bool false), .lit (.bool false), .lit (.bool false), .nil]), (.int .i64 5, .agg [.lit (.bool true), .lit (.bool false), .lit (.bool false), .lit (.bool false), .lit (.bool false), .lit (.bool false), .lit (.bool false), .lit (.bool false), .lit (.bool false), .nil]), (.int .i64 6, .agg [.lit (.bool true), .lit (.bool false), .lit (.bool false), .lit (.bool false), .lit (.bool false), .lit (.bool false), .lit (.bool false), .lit (.bool false), .lit (.bool false), .nil]), (.int .i64 7, .agg [.lit (.bool false), .lit (.bool true), .lit (.bool false), .lit (.bool false), .lit (.bool false), .lit (.bool false), .lit (.bool false), .lit (.bool false), .lit (.bool false), .nil]), (.int .i64 8, .agg [.lit (.bool false), .lit (.bool true), .lit (.bool false), .lit (.bool false), .lit (.bool false), .lit (.bool false), .lit (.bool false), .lit (.bool false), .lit (.bool false), .nil]), (.int .i64 9, .agg [.lit (.bool false), .lit (.bool true), .lit (.bool false), .lit (.bool false), .lit (.bool false), .lit (.bool false), .lit (.bool false), .lit (.bool false), .lit (.bool false), .nil]), (.int .i64 10, .agg [.lit (.bool false), .lit (.bool true), .lit (.bool false), .lit (.bool false), .lit (.bool false), .lit (.bool false), .lit (.bool false), .lit (.bool false), .lit (.bool false), .nil]), (.int .i64 11, .agg [.lit (.bool false), .lit (.bool true), .lit (.bool false), .lit (.bool false), .lit (.bool false), .lit (.bool false), .lit (.bool false), .lit (.bool false), .lit (.bool false), .nil]), (.int .i64 12, .agg [.lit (.bool true), .lit (.bool false), .lit (.bool false), .lit (.bool false), .lit (.bool false), .lit (.bool true), .lit (.bool false), .lit (.bool false), .lit (.bool false), .iface "func" (.lit (.string [97, 103, 111, 114, 97, 47, 97, 99, 116, 46, 114, 101, 97, 115, 111, 110]))]), (.int .i64 13, .agg [.lit (.bool true), .lit (.bool false), .lit (.bool false), .lit (.bool false), .lit (.bool false), .lit (.bool false), .lit (.bool false), .lit (.bool false), .lit (.bool false), .nil]), (.int .i64 14, .agg [.lit (.bool true), .lit (.bool false), .lit (.bool true), .lit (.bool false), .lit (.bool false), .lit (.bool false), .lit (.bool false), .lit (.bool false), .lit (.bool false), .iface "func" (.lit (.string [97, 103, 111, 114, 97, 47, 97, 99, 116, 46, 97, 117, 100, 105, 101, 110, 99, 101]))]), (.int .i64 15, .agg [.lit (.bool false), .lit (.bool false), .lit (.bool false), .lit (.bool true), .lit (.bool true), .lit (.bool false), .lit (.bool false), .lit (.bool false), .lit (.bool false), .iface "func" (.lit (.string [97, 103, 111, 114, 97, 47, 97, 99, 116, 46, 107, 105, 110, 100, 115, 36, 50]))]), (.int .i64 16, .agg [.lit (.bool false), .lit (.bool false), .lit (.bool true), .lit (.bool true), .lit (.bool true), .lit (.bool false), .lit (.bool true), .lit (.bool false), .lit (.bool false), .iface "func" (.lit (.string [97, 103, 111, 114, 97, 47, 97, 99, 116, 46, 107, 105, 110, 100, 115, 36, 51]))]), (.int .i64 17, .agg [.lit (.bool true), .lit (.bool true), .lit (.bool false), .lit (.bool false), .lit (.bool false), .lit (.bool true), .lit (.bool false), .lit (.bool false), .lit (.bool false), .iface "func" (.lit (.string [97, 103, 111, 114, 97, 47, 97, 99, 116, 46, 107, 105, 110, 100, 115, 36, 52]))]), (.int .i64 18, .agg [.lit (.bool false), .lit (.bool false), .lit (.bool false), .lit (.bool false), .lit (.bool false), .lit (.bool false), .lit (.bool false), .lit (.bool true), .lit (.bool true), .iface "func" (.lit (.string [97, 103, 111, 114, 97, 47, 97, 99, 116, 46, 107, 105, 110, 100, 115, 36, 53]))]), (.int .i64 19, .agg [.lit (.bool false), .lit (.bool false), .lit (.bool false), .lit (.bool false), .lit (.bool true), .lit (.bool false), .lit (.bool true), .lit (.bool true), .lit (.bool true), .iface "func" (.lit (.string [97, 103, 111, 114, 97, 47, 97, 99, 116, 46, 107, 105, 110, 100, 115, 36, 54]))]), (.int .i64 20, .agg [.lit (.bool true), .lit (.bool false), .lit (.bool false), .lit (.bool false), .lit (.bool false), .lit (.bool false), .lit (.bool false), .lit (.bool false), .lit (.bool false), .nil]), (.int .i64 21, .agg [.lit (.bool true), .lit (.bool false), .lit (.bool false), .lit (.bool false), .lit (.bool false), .lit (.bool true), .lit (.bool false), .lit (.bool false), .lit (.bool false), .iface "func" (.lit (.string [97, 103, 111, 114, 97, 47, 97, 99, 116, 46, 114, 101, 97, 115, 111, 110]))]), (.int .i64 22, .agg [.lit (.bool true), .lit (.bool false), .lit (.bool false), .lit (.bool false), .lit (.bool false), .lit (.bool false), .lit (.bool false), .lit (.bool true), .lit (.bool false), .iface "func" (.lit (.string [97, 103, 111, 114, 97, 47, 97, 99, 116, 46, 107, 105, 110, 100, 115, 36, 55]))]), (.int .i64 23, .agg [.lit (.bool false), .lit (.bool true), .lit (.bool false), .lit (.bool false), .lit (.bool false), .lit (.bool true), .lit (.bool false), .lit (.bool true), .lit (.bool false), .iface "func" (.lit (.string [97, 103, 111, 114, 97, 47, 97, 99, 116, 46, 107, 105, 110, 100, 115, 36, 56]))])])
/-- One of Go's own tables, pinned by name: the form's constant. -/
def laid_unicode_utf8_first : DataW Unit := Go.Pinned.utf8First

/-- 'agoralaw37.ListsGrows': WHATEVER THE INPUT: true; the input reads as it did. -/
def listsGrowsSpec : ChangeSpec := { name := "listsGrows", fn := fun _ => fun
  | [d1, d2, d3] => { results := [.lit (.bool true)], args := [d1, d2, d3] }
  | _ => none }
def listsGrowsRow : OpenClaim := { program := "ythkmfboffnhkaaagreatdoor", sum := "8380afbbf9d80689422fd38c7662996a239db972619f22a62d711b6d34f9bd03", func := "agora/agoralaw37.ListsGrows", spec := "listsGrows", inPlace := ["internal/bytealg.IndexByteString", "internal/bytealg.IndexString", "internal/abi.NoEscape"], unfollowed := true, recurses := true, named := ["agora/act.kinds", "unicode/utf8.first", "unicode/utf8.acceptRanges", "internal/bytealg.MaxLen"], apart := false, laid := [("unicode/utf8.acceptRanges", laid_unicode_utf8_acceptRanges), ("agora/act.kinds", laid_agora_act_kinds), ("unicode/utf8.first", laid_unicode_utf8_first)] }
def ListsGrowsSaid : Prop := listsGrowsRow.holds Tryz.pinned (OpenSpec.ofChange listsGrowsSpec)

/-- ITS FALSE NEIGHBOUR: 'it returns false'. Refute it at one input. -/
def listsGrowsWrong : ChangeSpec := { name := "listsGrows", fn := fun _ => fun
  | [d1, d2, d3] => { results := [.lit (.bool false)], args := [d1, d2, d3] }
  | _ => none }
def ListsGrowsWrongFalsely : Prop := listsGrowsRow.holds Tryz.pinned (OpenSpec.ofChange listsGrowsWrong)

/-- 'agoralaw37.ListsExpires': WHATEVER THE INPUT: true; the input reads as it did. -/
def listsExpiresSpec : ChangeSpec := { name := "listsExpires", fn := fun _ => fun
  | [d1, d2, d3, d4] => { results := [.lit (.bool true)], args := [d1, d2, d3, d4] }
  | _ => none }
def listsExpiresRow : OpenClaim := { program := "ythkmfboffnhkaaagreatdoor", sum := "8380afbbf9d80689422fd38c7662996a239db972619f22a62d711b6d34f9bd03", func := "agora/agoralaw37.ListsExpires", spec := "listsExpires", inPlace := ["internal/bytealg.IndexByteString", "internal/bytealg.IndexString", "internal/abi.NoEscape"], unfollowed := true, recurses := true, named := ["agora/act.kinds", "unicode/utf8.first", "unicode/utf8.acceptRanges", "internal/bytealg.MaxLen"], apart := false, laid := [("unicode/utf8.acceptRanges", laid_unicode_utf8_acceptRanges), ("agora/act.kinds", laid_agora_act_kinds), ("unicode/utf8.first", laid_unicode_utf8_first)] }
def ListsExpiresSaid : Prop := listsExpiresRow.holds Tryz.pinned (OpenSpec.ofChange listsExpiresSpec)

/-- ITS FALSE NEIGHBOUR: 'it returns false'. Refute it at one input. -/
def listsExpiresWrong : ChangeSpec := { name := "listsExpires", fn := fun _ => fun
  | [d1, d2, d3, d4] => { results := [.lit (.bool false)], args := [d1, d2, d3, d4] }
  | _ => none }
def ListsExpiresWrongFalsely : Prop := listsExpiresRow.holds Tryz.pinned (OpenSpec.ofChange listsExpiresWrong)

/-- 'agoralaw37.ListsAll': WHATEVER THE INPUT: true; the input reads as it did. -/
def listsAllSpec : ChangeSpec := { name := "listsAll", fn := fun _ => fun
  | [d1, d2, d3] => { results := [.lit (.bool true)], args := [d1, d2, d3] }
  | _ => none }
def listsAllRow : OpenClaim := { program := "ythkmfboffnhkaaagreatdoor", sum := "8380afbbf9d80689422fd38c7662996a239db972619f22a62d711b6d34f9bd03", func := "agora/agoralaw37.ListsAll", spec := "listsAll", inPlace := ["internal/bytealg.IndexByteString", "internal/bytealg.IndexString", "internal/abi.NoEscape"], unfollowed := true, recurses := true, named := ["agora/act.kinds", "unicode/utf8.first", "unicode/utf8.acceptRanges", "internal/bytealg.MaxLen"], apart := false, laid := [("unicode/utf8.acceptRanges", laid_unicode_utf8_acceptRanges), ("agora/act.kinds", laid_agora_act_kinds), ("unicode/utf8.first", laid_unicode_utf8_first)] }
def ListsAllSaid : Prop := listsAllRow.holds Tryz.pinned (OpenSpec.ofChange listsAllSpec)

/-- ITS FALSE NEIGHBOUR: 'it returns false'. Refute it at one input. -/
def listsAllWrong : ChangeSpec := { name := "listsAll", fn := fun _ => fun
  | [d1, d2, d3] => { results := [.lit (.bool false)], args := [d1, d2, d3] }
  | _ => none }
def ListsAllWrongFalsely : Prop := listsAllRow.holds Tryz.pinned (OpenSpec.ofChange listsAllWrong)

/-- 'agoralaw34.LabelCounts': WHATEVER THE INPUT: true; the input reads as it did. -/
def labelCountsSpec : ChangeSpec := { name := "labelCounts", fn := fun _ => fun
  | [d1, d2, d3, d4] => { results := [.lit (.bool true)], args := [d1, d2, d3, d4] }
  | _ => none }
def labelCountsRow : OpenClaim := { program := "ythkmfboffnhkaaagreatdoor", sum := "8380afbbf9d80689422fd38c7662996a239db972619f22a62d711b6d34f9bd03", func := "agora/agoralaw34.LabelCounts", spec := "labelCounts", inPlace := ["internal/bytealg.IndexByteString", "internal/bytealg.IndexString", "internal/abi.NoEscape"], unfollowed := true, recurses := true, named := ["agora/act.kinds", "unicode/utf8.first", "unicode/utf8.acceptRanges", "internal/bytealg.MaxLen"], apart := false, laid := [("unicode/utf8.acceptRanges", laid_unicode_utf8_acceptRanges), ("agora/act.kinds", laid_agora_act_kinds), ("unicode/utf8.first", laid_unicode_utf8_first)] }
def LabelCountsSaid : Prop := labelCountsRow.holds Tryz.pinned (OpenSpec.ofChange labelCountsSpec)

/-- ITS FALSE NEIGHBOUR: 'it returns false'. Refute it at one input. -/
def labelCountsWrong : ChangeSpec := { name := "labelCounts", fn := fun _ => fun
  | [d1, d2, d3, d4] => { results := [.lit (.bool false)], args := [d1, d2, d3, d4] }
  | _ => none }
def LabelCountsWrongFalsely : Prop := labelCountsRow.holds Tryz.pinned (OpenSpec.ofChange labelCountsWrong)

/-- 'agoralaw34.LabelLists': WHATEVER THE INPUT: true; the input reads as it did. -/
def labelListsSpec : ChangeSpec := { name := "labelLists", fn := fun _ => fun
  | [d1, d2, d3] => { results := [.lit (.bool true)], args := [d1, d2, d3] }
  | _ => none }
def labelListsRow : OpenClaim := { program := "ythkmfboffnhkaaagreatdoor", sum := "8380afbbf9d80689422fd38c7662996a239db972619f22a62d711b6d34f9bd03", func := "agora/agoralaw34.LabelLists", spec := "labelLists", inPlace := ["internal/bytealg.IndexByteString", "internal/bytealg.IndexString", "internal/abi.NoEscape"], unfollowed := true, recurses := true, named := ["agora/act.kinds", "unicode/utf8.first", "unicode/utf8.acceptRanges", "internal/bytealg.MaxLen"], apart := false, laid := [("unicode/utf8.acceptRanges", laid_unicode_utf8_acceptRanges), ("agora/act.kinds", laid_agora_act_kinds), ("unicode/utf8.first", laid_unicode_utf8_first)] }
def LabelListsSaid : Prop := labelListsRow.holds Tryz.pinned (OpenSpec.ofChange labelListsSpec)

/-- ITS FALSE NEIGHBOUR: 'it returns false'. Refute it at one input. -/
def labelListsWrong : ChangeSpec := { name := "labelLists", fn := fun _ => fun
  | [d1, d2, d3] => { results := [.lit (.bool false)], args := [d1, d2, d3] }
  | _ => none }
def LabelListsWrongFalsely : Prop := labelListsRow.holds Tryz.pinned (OpenSpec.ofChange labelListsWrong)

/-- 'agoralaw22.CircleFresh': WHATEVER THE INPUT: true; the input reads as it did. -/
def circleFreshSpec : ChangeSpec := { name := "circleFresh", fn := fun _ => fun
  | [d1, d2, d3, d4, d5, d6, d7] => { results := [.lit (.bool true)], args := [d1, d2, d3, d4, d5, d6, d7] }
  | _ => none }
def circleFreshRow : OpenClaim := { program := "ythkmfboffnhkaaagreatdoor", sum := "8380afbbf9d80689422fd38c7662996a239db972619f22a62d711b6d34f9bd03", func := "agora/agoralaw22.CircleFresh", spec := "circleFresh", inPlace := ["internal/bytealg.IndexByteString", "internal/bytealg.IndexString", "internal/abi.NoEscape"], unfollowed := true, recurses := true, named := ["agora/act.kinds", "unicode/utf8.first", "unicode/utf8.acceptRanges", "internal/bytealg.MaxLen"], apart := false, laid := [("unicode/utf8.acceptRanges", laid_unicode_utf8_acceptRanges), ("agora/act.kinds", laid_agora_act_kinds), ("unicode/utf8.first", laid_unicode_utf8_first)] }
def CircleFreshSaid : Prop := circleFreshRow.holds Tryz.pinned (OpenSpec.ofChange circleFreshSpec)

/-- ITS FALSE NEIGHBOUR: 'it returns false'. Refute it at one input. -/
def circleFreshWrong : ChangeSpec := { name := "circleFresh", fn := fun _ => fun
  | [d1, d2, d3, d4, d5, d6, d7] => { results := [.lit (.bool false)], args := [d1, d2, d3, d4, d5, d6, d7] }
  | _ => none }
def CircleFreshWrongFalsely : Prop := circleFreshRow.holds Tryz.pinned (OpenSpec.ofChange circleFreshWrong)

/-- 'agoralaw22.CircleEpochs': WHATEVER THE INPUT: true; the input reads as it did. -/
def circleEpochsSpec : ChangeSpec := { name := "circleEpochs", fn := fun _ => fun
  | [d1, d2, d3] => { results := [.lit (.bool true)], args := [d1, d2, d3] }
  | _ => none }
def circleEpochsRow : OpenClaim := { program := "ythkmfboffnhkaaagreatdoor", sum := "8380afbbf9d80689422fd38c7662996a239db972619f22a62d711b6d34f9bd03", func := "agora/agoralaw22.CircleEpochs", spec := "circleEpochs", inPlace := ["internal/bytealg.IndexByteString", "internal/bytealg.IndexString", "internal/abi.NoEscape"], unfollowed := true, recurses := true, named := ["agora/act.kinds", "unicode/utf8.first", "unicode/utf8.acceptRanges", "internal/bytealg.MaxLen"], apart := false, laid := [("unicode/utf8.acceptRanges", laid_unicode_utf8_acceptRanges), ("agora/act.kinds", laid_agora_act_kinds), ("unicode/utf8.first", laid_unicode_utf8_first)] }
def CircleEpochsSaid : Prop := circleEpochsRow.holds Tryz.pinned (OpenSpec.ofChange circleEpochsSpec)

/-- ITS FALSE NEIGHBOUR: 'it returns false'. Refute it at one input. -/
def circleEpochsWrong : ChangeSpec := { name := "circleEpochs", fn := fun _ => fun
  | [d1, d2, d3] => { results := [.lit (.bool false)], args := [d1, d2, d3] }
  | _ => none }
def CircleEpochsWrongFalsely : Prop := circleEpochsRow.holds Tryz.pinned (OpenSpec.ofChange circleEpochsWrong)

/-- 'agoralaw25.ReachReaders': WHATEVER THE INPUT: true; the input reads as it did. -/
def reachReadersSpec : ChangeSpec := { name := "reachReaders", fn := fun _ => fun
  | [d1, d2, d3] => { results := [.lit (.bool true)], args := [d1, d2, d3] }
  | _ => none }
def reachReadersRow : OpenClaim := { program := "ythkmfboffnhkaaagreatdoor", sum := "8380afbbf9d80689422fd38c7662996a239db972619f22a62d711b6d34f9bd03", func := "agora/agoralaw25.ReachReaders", spec := "reachReaders", inPlace := ["internal/bytealg.IndexByteString", "internal/bytealg.IndexString", "internal/abi.NoEscape"], unfollowed := true, recurses := true, named := ["agora/act.kinds", "unicode/utf8.first", "unicode/utf8.acceptRanges", "internal/bytealg.MaxLen"], apart := false, laid := [("unicode/utf8.acceptRanges", laid_unicode_utf8_acceptRanges), ("agora/act.kinds", laid_agora_act_kinds), ("unicode/utf8.first", laid_unicode_utf8_first)] }
def ReachReadersSaid : Prop := reachReadersRow.holds Tryz.pinned (OpenSpec.ofChange reachReadersSpec)

/-- ITS FALSE NEIGHBOUR: 'it returns false'. Refute it at one input. -/
def reachReadersWrong : ChangeSpec := { name := "reachReaders", fn := fun _ => fun
  | [d1, d2, d3] => { results := [.lit (.bool false)], args := [d1, d2, d3] }
  | _ => none }
def ReachReadersWrongFalsely : Prop := reachReadersRow.holds Tryz.pinned (OpenSpec.ofChange reachReadersWrong)

/-- 'agoralaw25.ReachSpots': WHATEVER THE INPUT: true; the input reads as it did. -/
def reachSpotsSpec : ChangeSpec := { name := "reachSpots", fn := fun _ => fun
  | [d1, d2] => { results := [.lit (.bool true)], args := [d1, d2] }
  | _ => none }
def reachSpotsRow : OpenClaim := { program := "ythkmfboffnhkaaagreatdoor", sum := "8380afbbf9d80689422fd38c7662996a239db972619f22a62d711b6d34f9bd03", func := "agora/agoralaw25.ReachSpots", spec := "reachSpots", inPlace := ["internal/bytealg.IndexByteString", "internal/bytealg.IndexString", "internal/abi.NoEscape"], unfollowed := true, recurses := true, named := ["agora/act.kinds", "unicode/utf8.first", "unicode/utf8.acceptRanges", "internal/bytealg.MaxLen"], apart := false, laid := [("unicode/utf8.acceptRanges", laid_unicode_utf8_acceptRanges), ("agora/act.kinds", laid_agora_act_kinds), ("unicode/utf8.first", laid_unicode_utf8_first)] }
def ReachSpotsSaid : Prop := reachSpotsRow.holds Tryz.pinned (OpenSpec.ofChange reachSpotsSpec)

/-- ITS FALSE NEIGHBOUR: 'it returns false'. Refute it at one input. -/
def reachSpotsWrong : ChangeSpec := { name := "reachSpots", fn := fun _ => fun
  | [d1, d2] => { results := [.lit (.bool false)], args := [d1, d2] }
  | _ => none }
def ReachSpotsWrongFalsely : Prop := reachSpotsRow.holds Tryz.pinned (OpenSpec.ofChange reachSpotsWrong)

/-- 'agoralaw25.ReachKeeps': WHATEVER THE INPUT: true; the input reads as it did. -/
def reachKeepsSpec : ChangeSpec := { name := "reachKeeps", fn := fun _ => fun
  | [d1, d2, d3, d4, d5] => { results := [.lit (.bool true)], args := [d1, d2, d3, d4, d5] }
  | _ => none }
def reachKeepsRow : OpenClaim := { program := "ythkmfboffnhkaaagreatdoor", sum := "8380afbbf9d80689422fd38c7662996a239db972619f22a62d711b6d34f9bd03", func := "agora/agoralaw25.ReachKeeps", spec := "reachKeeps", inPlace := ["internal/bytealg.IndexByteString", "internal/bytealg.IndexString", "internal/abi.NoEscape"], unfollowed := true, recurses := true, named := ["agora/act.kinds", "unicode/utf8.first", "unicode/utf8.acceptRanges", "internal/bytealg.MaxLen"], apart := false, laid := [("unicode/utf8.acceptRanges", laid_unicode_utf8_acceptRanges), ("agora/act.kinds", laid_agora_act_kinds), ("unicode/utf8.first", laid_unicode_utf8_first)] }
def ReachKeepsSaid : Prop := reachKeepsRow.holds Tryz.pinned (OpenSpec.ofChange reachKeepsSpec)

/-- ITS FALSE NEIGHBOUR: 'it returns false'. Refute it at one input. -/
def reachKeepsWrong : ChangeSpec := { name := "reachKeeps", fn := fun _ => fun
  | [d1, d2, d3, d4, d5] => { results := [.lit (.bool false)], args := [d1, d2, d3, d4, d5] }
  | _ => none }
def ReachKeepsWrongFalsely : Prop := reachKeepsRow.holds Tryz.pinned (OpenSpec.ofChange reachKeepsWrong)

/-- 'agoralaw21.RelationSteps': WHATEVER THE INPUT: true; the input reads as it did. -/
def relationStepsSpec : ChangeSpec := { name := "relationSteps", fn := fun _ => fun
  | [d1, d2] => { results := [.lit (.bool true)], args := [d1, d2] }
  | _ => none }
def relationStepsRow : OpenClaim := { program := "ythkmfboffnhkaaagreatdoor", sum := "8380afbbf9d80689422fd38c7662996a239db972619f22a62d711b6d34f9bd03", func := "agora/agoralaw21.RelationSteps", spec := "relationSteps", inPlace := ["internal/abi.NoEscape", "internal/bytealg.MakeNoZero", "internal/bytealg.IndexByteString", "internal/bytealg.IndexString"], unfollowed := true, recurses := true, named := ["math/bits.divideError", "math/bits.overflowError", "agora/act.kinds", "unicode/utf8.first", "unicode/utf8.acceptRanges", "internal/bytealg.MaxLen"], apart := false, laid := [("unicode/utf8.acceptRanges", laid_unicode_utf8_acceptRanges), ("agora/act.kinds", laid_agora_act_kinds), ("unicode/utf8.first", laid_unicode_utf8_first)] }
def RelationStepsSaid : Prop := relationStepsRow.holds Tryz.pinned (OpenSpec.ofChange relationStepsSpec)

/-- ITS FALSE NEIGHBOUR: 'it returns false'. Refute it at one input. -/
def relationStepsWrong : ChangeSpec := { name := "relationSteps", fn := fun _ => fun
  | [d1, d2] => { results := [.lit (.bool false)], args := [d1, d2] }
  | _ => none }
def RelationStepsWrongFalsely : Prop := relationStepsRow.holds Tryz.pinned (OpenSpec.ofChange relationStepsWrong)

/-- 'agoralaw28.TallyWho': WHATEVER THE INPUT: true; the input reads as it did. -/
def tallyWhoSpec : ChangeSpec := { name := "tallyWho", fn := fun _ => fun
  | [d1, d2, d3] => { results := [.lit (.bool true)], args := [d1, d2, d3] }
  | _ => none }
def tallyWhoRow : OpenClaim := { program := "ythkmfboffnhkaaagreatdoor", sum := "8380afbbf9d80689422fd38c7662996a239db972619f22a62d711b6d34f9bd03", func := "agora/agoralaw28.TallyWho", spec := "tallyWho", inPlace := ["internal/bytealg.IndexByteString", "internal/bytealg.IndexString", "internal/abi.NoEscape"], unfollowed := true, recurses := true, named := ["agora/act.kinds", "unicode/utf8.first", "unicode/utf8.acceptRanges", "internal/bytealg.MaxLen"], apart := false, laid := [("unicode/utf8.acceptRanges", laid_unicode_utf8_acceptRanges), ("agora/act.kinds", laid_agora_act_kinds), ("unicode/utf8.first", laid_unicode_utf8_first)] }
def TallyWhoSaid : Prop := tallyWhoRow.holds Tryz.pinned (OpenSpec.ofChange tallyWhoSpec)

/-- ITS FALSE NEIGHBOUR: 'it returns false'. Refute it at one input. -/
def tallyWhoWrong : ChangeSpec := { name := "tallyWho", fn := fun _ => fun
  | [d1, d2, d3] => { results := [.lit (.bool false)], args := [d1, d2, d3] }
  | _ => none }
def TallyWhoWrongFalsely : Prop := tallyWhoRow.holds Tryz.pinned (OpenSpec.ofChange tallyWhoWrong)

/- THE SECOND FORM. 'bulk': how many values and letters a reading holds, each counted each time it is reached (what is shared counts as often as it is met; a slice's spare places count too). A statement '..UptoSaid' is the law's where the arguments, and the package variables that the reading takes, are together of bulk at most 1048576: NARROWER than '..Said'. Prove '..Said' where nothing that the law and all that it calls make is longer than what came in: it says more and counts as full. Else prove '..UptoSaid'. A law counts once. -/
mutual
def uptoBulk {H : Type} : DataW H → Nat
  | .lit (.string bytes) => bytes.length + 1
  | .lit _ => 1
  | .nil => 1
  | .ptr d => uptoBulk d + 1
  | .slice elems spare => uptoBulkAll elems + uptoBulkAll spare + 1
  | .agg parts => uptoBulkAll parts + 1
  | .iface _ d => uptoBulk d + 1
  | .map entries => uptoBulkEntries entries + 1
  | .held _ => 1
def uptoBulkAll {H : Type} : List (DataW H) → Nat
  | [] => 0
  | d :: r => uptoBulk d + uptoBulkAll r
def uptoBulkEntries {H : Type} : List (Lit × DataW H) → Nat
  | [] => 0
  | x :: r => uptoBulkEntry x + uptoBulkEntries r
def uptoBulkEntry {H : Type} : Lit × DataW H → Nat
  | (.string bytes, d) => bytes.length + uptoBulk d + 1
  | (_, d) => uptoBulk d + 1
 end
def uptoSmall : (H : Type) → List (DataW H) → Bool := fun _ ds => decide (uptoBulkAll ds ≤ 1048576)
def OpenSpec.upto (s : _root_.Go.ChangeSpec) : _root_.Go.OpenSpec := { _root_.Go.OpenSpec.ofChange s with cond := some uptoSmall }

/-- 'agoralaw37.ListsGrows', WHERE WHAT IT READS IS OF BULK AT MOST 1048576: true; the input reads as it did. -/
def listsGrowsUptoRow : OpenClaim := { program := "ythkmfboffnhkaaagreatdoor", sum := "8380afbbf9d80689422fd38c7662996a239db972619f22a62d711b6d34f9bd03", func := "agora/agoralaw37.ListsGrows", spec := "listsGrows", inPlace := ["internal/bytealg.IndexByteString", "internal/bytealg.IndexString", "internal/abi.NoEscape"], unfollowed := true, recurses := true, named := ["agora/act.kinds", "unicode/utf8.first", "unicode/utf8.acceptRanges", "internal/bytealg.MaxLen"], apart := false, laid := [("unicode/utf8.acceptRanges", laid_unicode_utf8_acceptRanges), ("agora/act.kinds", laid_agora_act_kinds), ("unicode/utf8.first", laid_unicode_utf8_first)], narrowed := true }
def ListsGrowsUptoSaid : Prop := listsGrowsUptoRow.holds Tryz.pinned (OpenSpec.upto listsGrowsSpec)

/-- 'agoralaw37.ListsExpires', WHERE WHAT IT READS IS OF BULK AT MOST 1048576: true; the input reads as it did. -/
def listsExpiresUptoRow : OpenClaim := { program := "ythkmfboffnhkaaagreatdoor", sum := "8380afbbf9d80689422fd38c7662996a239db972619f22a62d711b6d34f9bd03", func := "agora/agoralaw37.ListsExpires", spec := "listsExpires", inPlace := ["internal/bytealg.IndexByteString", "internal/bytealg.IndexString", "internal/abi.NoEscape"], unfollowed := true, recurses := true, named := ["agora/act.kinds", "unicode/utf8.first", "unicode/utf8.acceptRanges", "internal/bytealg.MaxLen"], apart := false, laid := [("unicode/utf8.acceptRanges", laid_unicode_utf8_acceptRanges), ("agora/act.kinds", laid_agora_act_kinds), ("unicode/utf8.first", laid_unicode_utf8_first)], narrowed := true }
def ListsExpiresUptoSaid : Prop := listsExpiresUptoRow.holds Tryz.pinned (OpenSpec.upto listsExpiresSpec)

/-- 'agoralaw37.ListsAll', WHERE WHAT IT READS IS OF BULK AT MOST 1048576: true; the input reads as it did. -/
def listsAllUptoRow : OpenClaim := { program := "ythkmfboffnhkaaagreatdoor", sum := "8380afbbf9d80689422fd38c7662996a239db972619f22a62d711b6d34f9bd03", func := "agora/agoralaw37.ListsAll", spec := "listsAll", inPlace := ["internal/bytealg.IndexByteString", "internal/bytealg.IndexString", "internal/abi.NoEscape"], unfollowed := true, recurses := true, named := ["agora/act.kinds", "unicode/utf8.first", "unicode/utf8.acceptRanges", "internal/bytealg.MaxLen"], apart := false, laid := [("unicode/utf8.acceptRanges", laid_unicode_utf8_acceptRanges), ("agora/act.kinds", laid_agora_act_kinds), ("unicode/utf8.first", laid_unicode_utf8_first)], narrowed := true }
def ListsAllUptoSaid : Prop := listsAllUptoRow.holds Tryz.pinned (OpenSpec.upto listsAllSpec)

/-- 'agoralaw34.LabelCounts', WHERE WHAT IT READS IS OF BULK AT MOST 1048576: true; the input reads as it did. -/
def labelCountsUptoRow : OpenClaim := { program := "ythkmfboffnhkaaagreatdoor", sum := "8380afbbf9d80689422fd38c7662996a239db972619f22a62d711b6d34f9bd03", func := "agora/agoralaw34.LabelCounts", spec := "labelCounts", inPlace := ["internal/bytealg.IndexByteString", "internal/bytealg.IndexString", "internal/abi.NoEscape"], unfollowed := true, recurses := true, named := ["agora/act.kinds", "unicode/utf8.first", "unicode/utf8.acceptRanges", "internal/bytealg.MaxLen"], apart := false, laid := [("unicode/utf8.acceptRanges", laid_unicode_utf8_acceptRanges), ("agora/act.kinds", laid_agora_act_kinds), ("unicode/utf8.first", laid_unicode_utf8_first)], narrowed := true }
def LabelCountsUptoSaid : Prop := labelCountsUptoRow.holds Tryz.pinned (OpenSpec.upto labelCountsSpec)

/-- 'agoralaw34.LabelLists', WHERE WHAT IT READS IS OF BULK AT MOST 1048576: true; the input reads as it did. -/
def labelListsUptoRow : OpenClaim := { program := "ythkmfboffnhkaaagreatdoor", sum := "8380afbbf9d80689422fd38c7662996a239db972619f22a62d711b6d34f9bd03", func := "agora/agoralaw34.LabelLists", spec := "labelLists", inPlace := ["internal/bytealg.IndexByteString", "internal/bytealg.IndexString", "internal/abi.NoEscape"], unfollowed := true, recurses := true, named := ["agora/act.kinds", "unicode/utf8.first", "unicode/utf8.acceptRanges", "internal/bytealg.MaxLen"], apart := false, laid := [("unicode/utf8.acceptRanges", laid_unicode_utf8_acceptRanges), ("agora/act.kinds", laid_agora_act_kinds), ("unicode/utf8.first", laid_unicode_utf8_first)], narrowed := true }
def LabelListsUptoSaid : Prop := labelListsUptoRow.holds Tryz.pinned (OpenSpec.upto labelListsSpec)

/-- 'agoralaw22.CircleFresh', WHERE WHAT IT READS IS OF BULK AT MOST 1048576: true; the input reads as it did. -/
def circleFreshUptoRow : OpenClaim := { program := "ythkmfboffnhkaaagreatdoor", sum := "8380afbbf9d80689422fd38c7662996a239db972619f22a62d711b6d34f9bd03", func := "agora/agoralaw22.CircleFresh", spec := "circleFresh", inPlace := ["internal/bytealg.IndexByteString", "internal/bytealg.IndexString", "internal/abi.NoEscape"], unfollowed := true, recurses := true, named := ["agora/act.kinds", "unicode/utf8.first", "unicode/utf8.acceptRanges", "internal/bytealg.MaxLen"], apart := false, laid := [("unicode/utf8.acceptRanges", laid_unicode_utf8_acceptRanges), ("agora/act.kinds", laid_agora_act_kinds), ("unicode/utf8.first", laid_unicode_utf8_first)], narrowed := true }
def CircleFreshUptoSaid : Prop := circleFreshUptoRow.holds Tryz.pinned (OpenSpec.upto circleFreshSpec)

/-- 'agoralaw22.CircleEpochs', WHERE WHAT IT READS IS OF BULK AT MOST 1048576: true; the input reads as it did. -/
def circleEpochsUptoRow : OpenClaim := { program := "ythkmfboffnhkaaagreatdoor", sum := "8380afbbf9d80689422fd38c7662996a239db972619f22a62d711b6d34f9bd03", func := "agora/agoralaw22.CircleEpochs", spec := "circleEpochs", inPlace := ["internal/bytealg.IndexByteString", "internal/bytealg.IndexString", "internal/abi.NoEscape"], unfollowed := true, recurses := true, named := ["agora/act.kinds", "unicode/utf8.first", "unicode/utf8.acceptRanges", "internal/bytealg.MaxLen"], apart := false, laid := [("unicode/utf8.acceptRanges", laid_unicode_utf8_acceptRanges), ("agora/act.kinds", laid_agora_act_kinds), ("unicode/utf8.first", laid_unicode_utf8_first)], narrowed := true }
def CircleEpochsUptoSaid : Prop := circleEpochsUptoRow.holds Tryz.pinned (OpenSpec.upto circleEpochsSpec)

/-- 'agoralaw25.ReachReaders', WHERE WHAT IT READS IS OF BULK AT MOST 1048576: true; the input reads as it did. -/
def reachReadersUptoRow : OpenClaim := { program := "ythkmfboffnhkaaagreatdoor", sum := "8380afbbf9d80689422fd38c7662996a239db972619f22a62d711b6d34f9bd03", func := "agora/agoralaw25.ReachReaders", spec := "reachReaders", inPlace := ["internal/bytealg.IndexByteString", "internal/bytealg.IndexString", "internal/abi.NoEscape"], unfollowed := true, recurses := true, named := ["agora/act.kinds", "unicode/utf8.first", "unicode/utf8.acceptRanges", "internal/bytealg.MaxLen"], apart := false, laid := [("unicode/utf8.acceptRanges", laid_unicode_utf8_acceptRanges), ("agora/act.kinds", laid_agora_act_kinds), ("unicode/utf8.first", laid_unicode_utf8_first)], narrowed := true }
def ReachReadersUptoSaid : Prop := reachReadersUptoRow.holds Tryz.pinned (OpenSpec.upto reachReadersSpec)

/-- 'agoralaw25.ReachSpots', WHERE WHAT IT READS IS OF BULK AT MOST 1048576: true; the input reads as it did. -/
def reachSpotsUptoRow : OpenClaim := { program := "ythkmfboffnhkaaagreatdoor", sum := "8380afbbf9d80689422fd38c7662996a239db972619f22a62d711b6d34f9bd03", func := "agora/agoralaw25.ReachSpots", spec := "reachSpots", inPlace := ["internal/bytealg.IndexByteString", "internal/bytealg.IndexString", "internal/abi.NoEscape"], unfollowed := true, recurses := true, named := ["agora/act.kinds", "unicode/utf8.first", "unicode/utf8.acceptRanges", "internal/bytealg.MaxLen"], apart := false, laid := [("unicode/utf8.acceptRanges", laid_unicode_utf8_acceptRanges), ("agora/act.kinds", laid_agora_act_kinds), ("unicode/utf8.first", laid_unicode_utf8_first)], narrowed := true }
def ReachSpotsUptoSaid : Prop := reachSpotsUptoRow.holds Tryz.pinned (OpenSpec.upto reachSpotsSpec)

/-- 'agoralaw25.ReachKeeps', WHERE WHAT IT READS IS OF BULK AT MOST 1048576: true; the input reads as it did. -/
def reachKeepsUptoRow : OpenClaim := { program := "ythkmfboffnhkaaagreatdoor", sum := "8380afbbf9d80689422fd38c7662996a239db972619f22a62d711b6d34f9bd03", func := "agora/agoralaw25.ReachKeeps", spec := "reachKeeps", inPlace := ["internal/bytealg.IndexByteString", "internal/bytealg.IndexString", "internal/abi.NoEscape"], unfollowed := true, recurses := true, named := ["agora/act.kinds", "unicode/utf8.first", "unicode/utf8.acceptRanges", "internal/bytealg.MaxLen"], apart := false, laid := [("unicode/utf8.acceptRanges", laid_unicode_utf8_acceptRanges), ("agora/act.kinds", laid_agora_act_kinds), ("unicode/utf8.first", laid_unicode_utf8_first)], narrowed := true }
def ReachKeepsUptoSaid : Prop := reachKeepsUptoRow.holds Tryz.pinned (OpenSpec.upto reachKeepsSpec)

/-- 'agoralaw21.RelationSteps', WHERE WHAT IT READS IS OF BULK AT MOST 1048576: true; the input reads as it did. -/
def relationStepsUptoRow : OpenClaim := { program := "ythkmfboffnhkaaagreatdoor", sum := "8380afbbf9d80689422fd38c7662996a239db972619f22a62d711b6d34f9bd03", func := "agora/agoralaw21.RelationSteps", spec := "relationSteps", inPlace := ["internal/abi.NoEscape", "internal/bytealg.MakeNoZero", "internal/bytealg.IndexByteString", "internal/bytealg.IndexString"], unfollowed := true, recurses := true, named := ["math/bits.divideError", "math/bits.overflowError", "agora/act.kinds", "unicode/utf8.first", "unicode/utf8.acceptRanges", "internal/bytealg.MaxLen"], apart := false, laid := [("unicode/utf8.acceptRanges", laid_unicode_utf8_acceptRanges), ("agora/act.kinds", laid_agora_act_kinds), ("unicode/utf8.first", laid_unicode_utf8_first)], narrowed := true }
def RelationStepsUptoSaid : Prop := relationStepsUptoRow.holds Tryz.pinned (OpenSpec.upto relationStepsSpec)

/-- 'agoralaw28.TallyWho', WHERE WHAT IT READS IS OF BULK AT MOST 1048576: true; the input reads as it did. -/
def tallyWhoUptoRow : OpenClaim := { program := "ythkmfboffnhkaaagreatdoor", sum := "8380afbbf9d80689422fd38c7662996a239db972619f22a62d711b6d34f9bd03", func := "agora/agoralaw28.TallyWho", spec := "tallyWho", inPlace := ["internal/bytealg.IndexByteString", "internal/bytealg.IndexString", "internal/abi.NoEscape"], unfollowed := true, recurses := true, named := ["agora/act.kinds", "unicode/utf8.first", "unicode/utf8.acceptRanges", "internal/bytealg.MaxLen"], apart := false, laid := [("unicode/utf8.acceptRanges", laid_unicode_utf8_acceptRanges), ("agora/act.kinds", laid_agora_act_kinds), ("unicode/utf8.first", laid_unicode_utf8_first)], narrowed := true }
def TallyWhoUptoSaid : Prop := tallyWhoUptoRow.holds Tryz.pinned (OpenSpec.upto tallyWhoSpec)

end Rows
end Go.Proofs.YthkmfboffnhkaaaGreatDoor
