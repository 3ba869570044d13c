/-
  Facts on the types that the functions use: printed by wip/tools/gen.py.
-/
import Derived.Test.YthkmfboffnhkaaaGreatDoorRows
import Derived.Test.YthkmfboffnhkaaaGreatDoorM5
namespace Go.Proofs.YthkmfboffnhkaaaGreatDoor
open Go Go.L1
set_option linter.all false
set_option maxRecDepth 100000
/-- What is known of the world in which the law is called. -/
def GW (w : World) : Prop := laidMetH Tryz.prog (Rows.listsGrowsRow.laid) w
theorem mixed : Tryz.prog.follows .mixedOrders = true := by kernel_rfl
@[simp] theorem ty3_sz : szOf Tryz.prog 3 = some 1 := by kernel_rfl
@[simp] theorem ty3_ag : agOf Tryz.prog 3 = some false := by kernel_rfl
@[simp] theorem ty3_zv : zvOf Tryz.prog 3 = some [.c (.int .i64 0)] := by kernel_rfl
@[simp] theorem ty3_ik : intKindOf Tryz.prog 3 = some .i64 := by kernel_rfl
@[simp] theorem ty3_und : (Tryz.prog.underlying 3).isSome = true := by kernel_rfl
@[simp] theorem ty4_sz : szOf Tryz.prog 4 = some 1 := by kernel_rfl
@[simp] theorem ty4_ag : agOf Tryz.prog 4 = some false := by kernel_rfl
@[simp] theorem ty4_zv : zvOf Tryz.prog 4 = some [.c (.bool false)] := by kernel_rfl
@[simp] theorem ty4_eqk : eqKind Tryz.prog 4 = true := by kernel_rfl
@[simp] theorem ty4_und : (Tryz.prog.underlying 4).isSome = true := by kernel_rfl
@[simp] theorem ty5_sz : szOf Tryz.prog 5 = some 1 := by kernel_rfl
@[simp] theorem ty5_ag : agOf Tryz.prog 5 = some false := by kernel_rfl
@[simp] theorem ty5_zv : zvOf Tryz.prog 5 = some [.c (.int .u8 0)] := by kernel_rfl
@[simp] theorem ty5_ik : intKindOf Tryz.prog 5 = some .u8 := by kernel_rfl
@[simp] theorem ty5_und : (Tryz.prog.underlying 5).isSome = true := by kernel_rfl
@[simp] theorem ty9_sz : szOf Tryz.prog 9 = some 1 := by kernel_rfl
@[simp] theorem ty9_ag : agOf Tryz.prog 9 = some false := by kernel_rfl
@[simp] theorem ty9_zv : zvOf Tryz.prog 9 = some [.c (.str [])] := by kernel_rfl
@[simp] theorem ty9_isstr : isStr Tryz.prog 9 = true := by kernel_rfl
@[simp] theorem ty9_und : (Tryz.prog.underlying 9).isSome = true := by kernel_rfl
@[simp] theorem ty21_sz : szOf Tryz.prog 21 = some 1 := by kernel_rfl
@[simp] theorem ty21_ag : agOf Tryz.prog 21 = some false := by kernel_rfl
@[simp] theorem ty21_zv : zvOf Tryz.prog 21 = some [.c (.int .i32 0)] := by kernel_rfl
@[simp] theorem ty21_ik : intKindOf Tryz.prog 21 = some .i32 := by kernel_rfl
@[simp] theorem ty21_und : (Tryz.prog.underlying 21).isSome = true := by kernel_rfl
@[simp] theorem ty22_sz : szOf Tryz.prog 22 = some 1 := by kernel_rfl
@[simp] theorem ty22_ag : agOf Tryz.prog 22 = some false := by kernel_rfl
@[simp] theorem ty22_zv : zvOf Tryz.prog 22 = some [.c (.sl [])] := by kernel_rfl
@[simp] theorem ty22_els : elS Tryz.prog 22 = some 6 := by kernel_rfl
@[simp] theorem ty22_issl : isSl Tryz.prog 22 = true := by kernel_rfl
@[simp] theorem ty22_own : ownTy Tryz.prog 22 = some (40, 6, 96) := by kernel_rfl
@[simp] theorem ty22_und : (Tryz.prog.underlying 22).isSome = true := by kernel_rfl
@[simp] theorem ty22_usl : Tryz.prog.underlying 22 = some (.slice 40) := by kernel_rfl
@[simp] theorem ty23_sz : szOf Tryz.prog 23 = some 1 := by kernel_rfl
@[simp] theorem ty23_ag : agOf Tryz.prog 23 = some false := by kernel_rfl
@[simp] theorem ty23_zv : zvOf Tryz.prog 23 = some [.c (.sl [])] := by kernel_rfl
@[simp] theorem ty23_els : elS Tryz.prog 23 = some 1 := by kernel_rfl
@[simp] theorem ty23_issl : isSl Tryz.prog 23 = true := by kernel_rfl
@[simp] theorem ty23_own : ownTy Tryz.prog 23 = some (9, 1, 16) := by kernel_rfl
@[simp] theorem ty23_und : (Tryz.prog.underlying 23).isSome = true := by kernel_rfl
@[simp] theorem ty23_usl : Tryz.prog.underlying 23 = some (.slice 9) := by kernel_rfl
@[simp] theorem ty26_sz : szOf Tryz.prog 26 = some 1 := by kernel_rfl
@[simp] theorem ty26_ag : agOf Tryz.prog 26 = some false := by kernel_rfl
@[simp] theorem ty26_zv : zvOf Tryz.prog 26 = some [.c (.sl [])] := by kernel_rfl
@[simp] theorem ty26_els : elS Tryz.prog 26 = some 4 := by kernel_rfl
@[simp] theorem ty26_issl : isSl Tryz.prog 26 = true := by kernel_rfl
@[simp] theorem ty26_own : ownTy Tryz.prog 26 = some (30, 4, 56) := by kernel_rfl
@[simp] theorem ty26_und : (Tryz.prog.underlying 26).isSome = true := by kernel_rfl
@[simp] theorem ty26_usl : Tryz.prog.underlying 26 = some (.slice 30) := by kernel_rfl
@[simp] theorem ty30_sz : szOf Tryz.prog 30 = some 4 := by kernel_rfl
@[simp] theorem ty30_ag : agOf Tryz.prog 30 = some true := by kernel_rfl
@[simp] theorem ty30_zv : zvOf Tryz.prog 30 = some [.c (.str []), .c (.str []), .c (.str []), .c (.int .i64 0)] := by kernel_rfl
@[simp] theorem ty30_eqt : eqTy Tryz.prog 30 = some (.st [(0, 1, .s), (1, 1, .s), (2, 1, .s), (3, 1, .i)]) := by kernel_rfl
@[simp] theorem ty30_und : (Tryz.prog.underlying 30).isSome = true := by kernel_rfl
@[simp] theorem ty30_pl : plB Tryz.prog 30 = some [(0, 1), (1, 1), (2, 1), (3, 1)] := by kernel_rfl
@[simp] theorem ty30_f0 : fOff Tryz.prog 30 0 = some 0 := by kernel_rfl
@[simp] theorem ty30_g0 : fTy Tryz.prog 30 0 = some (0, 9) := by kernel_rfl
@[simp] theorem ty30_f2 : fOff Tryz.prog 30 2 = some 2 := by kernel_rfl
@[simp] theorem ty30_g2 : fTy Tryz.prog 30 2 = some (2, 9) := by kernel_rfl
@[simp] theorem ty30_f3 : fOff Tryz.prog 30 3 = some 3 := by kernel_rfl
@[simp] theorem ty30_g3 : fTy Tryz.prog 30 3 = some (3, 3) := by kernel_rfl
@[simp] theorem ty36_sz : szOf Tryz.prog 36 = some 1 := by kernel_rfl
@[simp] theorem ty36_ag : agOf Tryz.prog 36 = some false := by kernel_rfl
@[simp] theorem ty36_zv : zvOf Tryz.prog 36 = some [.c (.sl [])] := by kernel_rfl
@[simp] theorem ty36_els : elS Tryz.prog 36 = some 1 := by kernel_rfl
@[simp] theorem ty36_issl : isSl Tryz.prog 36 = true := by kernel_rfl
@[simp] theorem ty36_own : ownTy Tryz.prog 36 = some (4, 1, 1) := by kernel_rfl
@[simp] theorem ty36_und : (Tryz.prog.underlying 36).isSome = true := by kernel_rfl
@[simp] theorem ty36_usl : Tryz.prog.underlying 36 = some (.slice 4) := by kernel_rfl
@[simp] theorem ty37_sz : szOf Tryz.prog 37 = some 1 := by kernel_rfl
@[simp] theorem ty37_ag : agOf Tryz.prog 37 = some false := by kernel_rfl
@[simp] theorem ty37_zv : zvOf Tryz.prog 37 = some [.c (.sl [])] := by kernel_rfl
@[simp] theorem ty37_els : elS Tryz.prog 37 = some 20 := by kernel_rfl
@[simp] theorem ty37_issl : isSl Tryz.prog 37 = true := by kernel_rfl
@[simp] theorem ty37_own : ownTy Tryz.prog 37 = some (49, 20, 264) := by kernel_rfl
@[simp] theorem ty37_und : (Tryz.prog.underlying 37).isSome = true := by kernel_rfl
@[simp] theorem ty37_usl : Tryz.prog.underlying 37 = some (.slice 49) := by kernel_rfl
@[simp] theorem ty38_sz : szOf Tryz.prog 38 = some 1 := by kernel_rfl
@[simp] theorem ty38_ag : agOf Tryz.prog 38 = some false := by kernel_rfl
@[simp] theorem ty38_zv : zvOf Tryz.prog 38 = some [.c (.sl [])] := by kernel_rfl
@[simp] theorem ty38_els : elS Tryz.prog 38 = some 3 := by kernel_rfl
@[simp] theorem ty38_issl : isSl Tryz.prog 38 = true := by kernel_rfl
@[simp] theorem ty38_own : ownTy Tryz.prog 38 = some (133, 3, 24) := by kernel_rfl
@[simp] theorem ty38_und : (Tryz.prog.underlying 38).isSome = true := by kernel_rfl
@[simp] theorem ty38_usl : Tryz.prog.underlying 38 = some (.slice 133) := by kernel_rfl
@[simp] theorem ty40_sz : szOf Tryz.prog 40 = some 6 := by kernel_rfl
@[simp] theorem ty40_ag : agOf Tryz.prog 40 = some true := by kernel_rfl
@[simp] theorem ty40_zv : zvOf Tryz.prog 40 = some [.c (.str []), .c (.sl []), .c (.sl []), .c (.str []), .c (.int .i64 0), .c (.bool false)] := by kernel_rfl
@[simp] theorem ty40_und : (Tryz.prog.underlying 40).isSome = true := by kernel_rfl
@[simp] theorem ty40_pl : plB Tryz.prog 40 = some [(0, 1), (1, 1), (2, 1), (3, 1), (4, 1), (5, 1)] := by kernel_rfl
@[simp] theorem ty40_f0 : fOff Tryz.prog 40 0 = some 0 := by kernel_rfl
@[simp] theorem ty40_g0 : fTy Tryz.prog 40 0 = some (0, 9) := by kernel_rfl
@[simp] theorem ty40_f1 : fOff Tryz.prog 40 1 = some 1 := by kernel_rfl
@[simp] theorem ty40_g1 : fTy Tryz.prog 40 1 = some (1, 37) := by kernel_rfl
@[simp] theorem ty44_sz : szOf Tryz.prog 44 = some 3 := by kernel_rfl
@[simp] theorem ty44_ag : agOf Tryz.prog 44 = some true := by kernel_rfl
@[simp] theorem ty44_zv : zvOf Tryz.prog 44 = some [.c (.str []), .c (.str []), .c (.str [])] := by kernel_rfl
@[simp] theorem ty44_eqt : eqTy Tryz.prog 44 = some (.st [(0, 1, .s), (1, 1, .s), (2, 1, .s)]) := by kernel_rfl
@[simp] theorem ty44_und : (Tryz.prog.underlying 44).isSome = true := by kernel_rfl
@[simp] theorem ty44_pl : plB Tryz.prog 44 = some [(0, 1), (1, 1), (2, 1)] := by kernel_rfl
@[simp] theorem ty44_f0 : fOff Tryz.prog 44 0 = some 0 := by kernel_rfl
@[simp] theorem ty44_g0 : fTy Tryz.prog 44 0 = some (0, 9) := by kernel_rfl
@[simp] theorem ty44_f1 : fOff Tryz.prog 44 1 = some 1 := by kernel_rfl
@[simp] theorem ty44_g1 : fTy Tryz.prog 44 1 = some (1, 9) := by kernel_rfl
@[simp] theorem ty44_f2 : fOff Tryz.prog 44 2 = some 2 := by kernel_rfl
@[simp] theorem ty44_g2 : fTy Tryz.prog 44 2 = some (2, 9) := by kernel_rfl
@[simp] theorem ty45_sz : szOf Tryz.prog 45 = some 1 := by kernel_rfl
@[simp] theorem ty45_ag : agOf Tryz.prog 45 = some false := by kernel_rfl
@[simp] theorem ty45_zv : zvOf Tryz.prog 45 = some [.c (.sl [])] := by kernel_rfl
@[simp] theorem ty45_els : elS Tryz.prog 45 = some 5 := by kernel_rfl
@[simp] theorem ty45_issl : isSl Tryz.prog 45 = true := by kernel_rfl
@[simp] theorem ty45_own : ownTy Tryz.prog 45 = some (230, 5, 64) := by kernel_rfl
@[simp] theorem ty45_und : (Tryz.prog.underlying 45).isSome = true := by kernel_rfl
@[simp] theorem ty45_usl : Tryz.prog.underlying 45 = some (.slice 230) := by kernel_rfl
@[simp] theorem ty47_sz : szOf Tryz.prog 47 = some 2 := by kernel_rfl
@[simp] theorem ty47_ag : agOf Tryz.prog 47 = some true := by kernel_rfl
@[simp] theorem ty47_zv : zvOf Tryz.prog 47 = some [.c (.int .i64 0), .c (.int .i64 0)] := by kernel_rfl
@[simp] theorem ty47_eqt : eqTy Tryz.prog 47 = some (.st [(0, 1, .i), (1, 1, .i)]) := by kernel_rfl
@[simp] theorem ty47_und : (Tryz.prog.underlying 47).isSome = true := by kernel_rfl
@[simp] theorem ty47_pl : plB Tryz.prog 47 = some [(0, 1), (1, 1)] := by kernel_rfl
@[simp] theorem ty47_f0 : fOff Tryz.prog 47 0 = some 0 := by kernel_rfl
@[simp] theorem ty47_g0 : fTy Tryz.prog 47 0 = some (0, 3) := by kernel_rfl
@[simp] theorem ty47_f1 : fOff Tryz.prog 47 1 = some 1 := by kernel_rfl
@[simp] theorem ty47_g1 : fTy Tryz.prog 47 1 = some (1, 3) := by kernel_rfl
@[simp] theorem ty49_sz : szOf Tryz.prog 49 = some 20 := by kernel_rfl
@[simp] theorem ty49_ag : agOf Tryz.prog 49 = some true := by kernel_rfl
@[simp] theorem ty49_zv : zvOf Tryz.prog 49 = some [.c (.str []), .c (.int .i64 0), .c (.str []), .c (.int .i64 0), .c (.int .i64 0), .c (.str []), .c (.str []), .c (.int .i64 0), .c (.str []), .c (.sl []), .c (.str []), .c (.str []), .c (.str []), .c (.str []), .c (.int .i64 0), .c (.sl []), .c (.int .i64 0), .c (.int .i64 0), .c (.int .i64 0), .c (.int .i64 0)] := by kernel_rfl
@[simp] theorem ty49_und : (Tryz.prog.underlying 49).isSome = true := by kernel_rfl
@[simp] theorem ty49_pl : plB Tryz.prog 49 = some [(0, 1), (1, 1), (2, 1), (3, 1), (4, 1), (5, 1), (6, 1), (7, 1), (8, 1), (9, 1), (10, 1), (11, 3), (14, 1), (15, 1), (16, 1), (17, 1), (18, 2)] := by kernel_rfl
@[simp] theorem ty49_f0 : fOff Tryz.prog 49 0 = some 0 := by kernel_rfl
@[simp] theorem ty49_g0 : fTy Tryz.prog 49 0 = some (0, 9) := by kernel_rfl
@[simp] theorem ty49_f1 : fOff Tryz.prog 49 1 = some 1 := by kernel_rfl
@[simp] theorem ty49_g1 : fTy Tryz.prog 49 1 = some (1, 3) := by kernel_rfl
@[simp] theorem ty49_f2 : fOff Tryz.prog 49 2 = some 2 := by kernel_rfl
@[simp] theorem ty49_g2 : fTy Tryz.prog 49 2 = some (2, 9) := by kernel_rfl
@[simp] theorem ty49_f3 : fOff Tryz.prog 49 3 = some 3 := by kernel_rfl
@[simp] theorem ty49_g3 : fTy Tryz.prog 49 3 = some (3, 3) := by kernel_rfl
@[simp] theorem ty49_f4 : fOff Tryz.prog 49 4 = some 4 := by kernel_rfl
@[simp] theorem ty49_g4 : fTy Tryz.prog 49 4 = some (4, 3) := by kernel_rfl
@[simp] theorem ty49_f5 : fOff Tryz.prog 49 5 = some 5 := by kernel_rfl
@[simp] theorem ty49_g5 : fTy Tryz.prog 49 5 = some (5, 9) := by kernel_rfl
@[simp] theorem ty49_f6 : fOff Tryz.prog 49 6 = some 6 := by kernel_rfl
@[simp] theorem ty49_g6 : fTy Tryz.prog 49 6 = some (6, 9) := by kernel_rfl
@[simp] theorem ty49_f7 : fOff Tryz.prog 49 7 = some 7 := by kernel_rfl
@[simp] theorem ty49_g7 : fTy Tryz.prog 49 7 = some (7, 3) := by kernel_rfl
@[simp] theorem ty49_f8 : fOff Tryz.prog 49 8 = some 8 := by kernel_rfl
@[simp] theorem ty49_g8 : fTy Tryz.prog 49 8 = some (8, 9) := by kernel_rfl
@[simp] theorem ty49_f9 : fOff Tryz.prog 49 9 = some 9 := by kernel_rfl
@[simp] theorem ty49_g9 : fTy Tryz.prog 49 9 = some (9, 23) := by kernel_rfl
@[simp] theorem ty49_f10 : fOff Tryz.prog 49 10 = some 10 := by kernel_rfl
@[simp] theorem ty49_g10 : fTy Tryz.prog 49 10 = some (10, 9) := by kernel_rfl
@[simp] theorem ty49_f11 : fOff Tryz.prog 49 11 = some 11 := by kernel_rfl
@[simp] theorem ty49_g11 : fTy Tryz.prog 49 11 = some (11, 44) := by kernel_rfl
@[simp] theorem ty49_f12 : fOff Tryz.prog 49 12 = some 14 := by kernel_rfl
@[simp] theorem ty49_g12 : fTy Tryz.prog 49 12 = some (14, 3) := by kernel_rfl
@[simp] theorem ty49_f13 : fOff Tryz.prog 49 13 = some 15 := by kernel_rfl
@[simp] theorem ty49_g13 : fTy Tryz.prog 49 13 = some (15, 45) := by kernel_rfl
@[simp] theorem ty49_f14 : fOff Tryz.prog 49 14 = some 16 := by kernel_rfl
@[simp] theorem ty49_g14 : fTy Tryz.prog 49 14 = some (16, 3) := by kernel_rfl
@[simp] theorem ty49_f15 : fOff Tryz.prog 49 15 = some 17 := by kernel_rfl
@[simp] theorem ty49_g15 : fTy Tryz.prog 49 15 = some (17, 3) := by kernel_rfl
@[simp] theorem ty49_f16 : fOff Tryz.prog 49 16 = some 18 := by kernel_rfl
@[simp] theorem ty49_g16 : fTy Tryz.prog 49 16 = some (18, 47) := by kernel_rfl
@[simp] theorem ty58_sz : szOf Tryz.prog 58 = some 1 := by kernel_rfl
@[simp] theorem ty58_ag : agOf Tryz.prog 58 = some false := by kernel_rfl
@[simp] theorem ty58_zv : zvOf Tryz.prog 58 = some [.c .nilfn] := by kernel_rfl
@[simp] theorem ty58_isfn : isFn Tryz.prog 58 = true := by kernel_rfl
@[simp] theorem ty58_und : (Tryz.prog.underlying 58).isSome = true := by kernel_rfl
@[simp] theorem ty84_sz : szOf Tryz.prog 84 = some 1 := by kernel_rfl
@[simp] theorem ty84_ag : agOf Tryz.prog 84 = some false := by kernel_rfl
@[simp] theorem ty84_zv : zvOf Tryz.prog 84 = some [.c (.sl [])] := by kernel_rfl
@[simp] theorem ty84_els : elS Tryz.prog 84 = some 1 := by kernel_rfl
@[simp] theorem ty84_issl : isSl Tryz.prog 84 = true := by kernel_rfl
@[simp] theorem ty84_own : ownTy Tryz.prog 84 = some (3, 1, 8) := by kernel_rfl
@[simp] theorem ty84_und : (Tryz.prog.underlying 84).isSome = true := by kernel_rfl
@[simp] theorem ty84_usl : Tryz.prog.underlying 84 = some (.slice 3) := by kernel_rfl
@[simp] theorem ty96_sz : szOf Tryz.prog 96 = some 1 := by kernel_rfl
@[simp] theorem ty96_ag : agOf Tryz.prog 96 = some false := by kernel_rfl
@[simp] theorem ty96_zv : zvOf Tryz.prog 96 = some [.c .nilm] := by kernel_rfl
@[simp] theorem ty96_map : mapTy Tryz.prog 96 = some (.string, true, .agg [.c (.str []), .c (.str []), .c (.str []), .c (.int .i64 0), .c (.int .i64 0)]) := by kernel_rfl
@[simp] theorem ty96_und : (Tryz.prog.underlying 96).isSome = true := by kernel_rfl
@[simp] theorem ty97_sz : szOf Tryz.prog 97 = some 1 := by kernel_rfl
@[simp] theorem ty97_ag : agOf Tryz.prog 97 = some false := by kernel_rfl
@[simp] theorem ty97_zv : zvOf Tryz.prog 97 = some [.c .nilm] := by kernel_rfl
@[simp] theorem ty97_map : mapTy Tryz.prog 97 = some (.int .i64, true, .agg [.c (.str []), .c (.str []), .c (.str []), .c (.int .i64 0), .c (.int .i64 0)]) := by kernel_rfl
@[simp] theorem ty97_und : (Tryz.prog.underlying 97).isSome = true := by kernel_rfl
@[simp] theorem ty101_sz : szOf Tryz.prog 101 = some 1 := by kernel_rfl
@[simp] theorem ty101_ag : agOf Tryz.prog 101 = some false := by kernel_rfl
@[simp] theorem ty101_zv : zvOf Tryz.prog 101 = some [.c .nilfn] := by kernel_rfl
@[simp] theorem ty101_isfn : isFn Tryz.prog 101 = true := by kernel_rfl
@[simp] theorem ty101_und : (Tryz.prog.underlying 101).isSome = true := by kernel_rfl
@[simp] theorem ty104_sz : szOf Tryz.prog 104 = some 5 := by kernel_rfl
@[simp] theorem ty104_ag : agOf Tryz.prog 104 = some true := by kernel_rfl
@[simp] theorem ty104_zv : zvOf Tryz.prog 104 = some [.c (.str []), .c (.str []), .c (.str []), .c (.int .i64 0), .c (.int .i64 0)] := by kernel_rfl
@[simp] theorem ty104_eqt : eqTy Tryz.prog 104 = some (.st [(0, 4, .st [(0, 1, .s), (1, 1, .s), (2, 1, .s), (3, 1, .i)]), (4, 1, .i)]) := by kernel_rfl
@[simp] theorem ty104_und : (Tryz.prog.underlying 104).isSome = true := by kernel_rfl
@[simp] theorem ty104_pl : plB Tryz.prog 104 = some [(0, 4), (4, 1)] := by kernel_rfl
@[simp] theorem ty104_f0 : fOff Tryz.prog 104 0 = some 0 := by kernel_rfl
@[simp] theorem ty104_g0 : fTy Tryz.prog 104 0 = some (0, 30) := by kernel_rfl
@[simp] theorem ty104_f1 : fOff Tryz.prog 104 1 = some 4 := by kernel_rfl
@[simp] theorem ty104_g1 : fTy Tryz.prog 104 1 = some (4, 3) := by kernel_rfl
@[simp] theorem ty109_sz : szOf Tryz.prog 109 = some 1 := by kernel_rfl
@[simp] theorem ty109_ag : agOf Tryz.prog 109 = some false := by kernel_rfl
@[simp] theorem ty109_zv : zvOf Tryz.prog 109 = some [.c .nilfn] := by kernel_rfl
@[simp] theorem ty109_isfn : isFn Tryz.prog 109 = true := by kernel_rfl
@[simp] theorem ty109_und : (Tryz.prog.underlying 109).isSome = true := by kernel_rfl
@[simp] theorem ty112_sz : szOf Tryz.prog 112 = some 1 := by kernel_rfl
@[simp] theorem ty112_ag : agOf Tryz.prog 112 = some false := by kernel_rfl
@[simp] theorem ty112_zv : zvOf Tryz.prog 112 = some [.c .nilfn] := by kernel_rfl
@[simp] theorem ty112_isfn : isFn Tryz.prog 112 = true := by kernel_rfl
@[simp] theorem ty112_und : (Tryz.prog.underlying 112).isSome = true := by kernel_rfl
@[simp] theorem ty133_sz : szOf Tryz.prog 133 = some 3 := by kernel_rfl
@[simp] theorem ty133_ag : agOf Tryz.prog 133 = some true := by kernel_rfl
@[simp] theorem ty133_zv : zvOf Tryz.prog 133 = some [.c (.int .i64 0), .c (.int .i64 0), .c (.int .i64 0)] := by kernel_rfl
@[simp] theorem ty133_und : (Tryz.prog.underlying 133).isSome = true := by kernel_rfl
@[simp] theorem ty133_pl : plB Tryz.prog 133 = some [(0, 1), (1, 1), (2, 1)] := by kernel_rfl
@[simp] theorem ty143_sz : szOf Tryz.prog 143 = some 9 := by kernel_rfl
@[simp] theorem ty143_ag : agOf Tryz.prog 143 = some true := by kernel_rfl
@[simp] theorem ty143_zv : zvOf Tryz.prog 143 = some [.c (.str []), .c (.int .i64 0), .c (.str []), .c (.int .i64 0), .c (.int .i64 0), .c (.int .i64 0), .c (.int .i64 0), .c (.int .i64 0), .c (.int .i64 0)] := by kernel_rfl
@[simp] theorem ty143_eqt : eqTy Tryz.prog 143 = some (.st [(0, 1, .s), (1, 1, .i), (2, 1, .s), (3, 1, .i), (4, 1, .i), (5, 1, .i), (6, 1, .i), (7, 2, .st [(0, 1, .i), (1, 1, .i)])]) := by kernel_rfl
@[simp] theorem ty143_und : (Tryz.prog.underlying 143).isSome = true := by kernel_rfl
@[simp] theorem ty143_pl : plB Tryz.prog 143 = some [(0, 1), (1, 1), (2, 1), (3, 1), (4, 1), (5, 1), (6, 1), (7, 2)] := by kernel_rfl
@[simp] theorem ty145_sz : szOf Tryz.prog 145 = some 7 := by kernel_rfl
@[simp] theorem ty145_ag : agOf Tryz.prog 145 = some true := by kernel_rfl
@[simp] theorem ty145_zv : zvOf Tryz.prog 145 = some [.c (.int .i64 0), .c (.str []), .c (.int .i64 0), .c (.str []), .c (.int .i64 0), .c (.int .i64 0), .c (.int .i64 0)] := by kernel_rfl
@[simp] theorem ty145_eqt : eqTy Tryz.prog 145 = some (.st [(0, 1, .i), (1, 1, .s), (2, 1, .i), (3, 1, .s), (4, 1, .i), (5, 2, .st [(0, 1, .i), (1, 1, .i)])]) := by kernel_rfl
@[simp] theorem ty145_und : (Tryz.prog.underlying 145).isSome = true := by kernel_rfl
@[simp] theorem ty145_pl : plB Tryz.prog 145 = some [(0, 1), (1, 1), (2, 1), (3, 1), (4, 1), (5, 2)] := by kernel_rfl
@[simp] theorem ty147_sz : szOf Tryz.prog 147 = some 12 := by kernel_rfl
@[simp] theorem ty147_ag : agOf Tryz.prog 147 = some true := by kernel_rfl
@[simp] theorem ty147_zv : zvOf Tryz.prog 147 = some [.c (.int .i64 0), .c (.int .i64 0), .c (.int .i64 0), .c (.str []), .c (.str []), .c (.str []), .c (.sl []), .c (.int .i64 0), .c (.int .i64 0), .c (.int .i64 0), .c (.int .i64 0), .c (.int .i64 0)] := by kernel_rfl
@[simp] theorem ty147_und : (Tryz.prog.underlying 147).isSome = true := by kernel_rfl
@[simp] theorem ty147_pl : plB Tryz.prog 147 = some [(0, 1), (1, 1), (2, 1), (3, 1), (4, 1), (5, 1), (6, 1), (7, 1), (8, 1), (9, 1), (10, 2)] := by kernel_rfl
@[simp] theorem ty147_f0 : fOff Tryz.prog 147 0 = some 0 := by kernel_rfl
@[simp] theorem ty147_g0 : fTy Tryz.prog 147 0 = some (0, 3) := by kernel_rfl
@[simp] theorem ty147_f1 : fOff Tryz.prog 147 1 = some 1 := by kernel_rfl
@[simp] theorem ty147_g1 : fTy Tryz.prog 147 1 = some (1, 3) := by kernel_rfl
@[simp] theorem ty147_f2 : fOff Tryz.prog 147 2 = some 2 := by kernel_rfl
@[simp] theorem ty147_g2 : fTy Tryz.prog 147 2 = some (2, 3) := by kernel_rfl
@[simp] theorem ty147_f3 : fOff Tryz.prog 147 3 = some 3 := by kernel_rfl
@[simp] theorem ty147_g3 : fTy Tryz.prog 147 3 = some (3, 9) := by kernel_rfl
@[simp] theorem ty147_f4 : fOff Tryz.prog 147 4 = some 4 := by kernel_rfl
@[simp] theorem ty147_g4 : fTy Tryz.prog 147 4 = some (4, 9) := by kernel_rfl
@[simp] theorem ty147_f5 : fOff Tryz.prog 147 5 = some 5 := by kernel_rfl
@[simp] theorem ty147_g5 : fTy Tryz.prog 147 5 = some (5, 9) := by kernel_rfl
@[simp] theorem ty147_f6 : fOff Tryz.prog 147 6 = some 6 := by kernel_rfl
@[simp] theorem ty147_g6 : fTy Tryz.prog 147 6 = some (6, 23) := by kernel_rfl
@[simp] theorem ty147_f7 : fOff Tryz.prog 147 7 = some 7 := by kernel_rfl
@[simp] theorem ty147_g7 : fTy Tryz.prog 147 7 = some (7, 3) := by kernel_rfl
@[simp] theorem ty147_f8 : fOff Tryz.prog 147 8 = some 8 := by kernel_rfl
@[simp] theorem ty147_g8 : fTy Tryz.prog 147 8 = some (8, 3) := by kernel_rfl
@[simp] theorem ty147_f9 : fOff Tryz.prog 147 9 = some 9 := by kernel_rfl
@[simp] theorem ty147_g9 : fTy Tryz.prog 147 9 = some (9, 3) := by kernel_rfl
@[simp] theorem ty147_f10 : fOff Tryz.prog 147 10 = some 10 := by kernel_rfl
@[simp] theorem ty147_g10 : fTy Tryz.prog 147 10 = some (10, 47) := by kernel_rfl
@[simp] theorem ty149_sz : szOf Tryz.prog 149 = some 49 := by kernel_rfl
@[simp] theorem ty149_ag : agOf Tryz.prog 149 = some true := by kernel_rfl
@[simp] theorem ty149_zv : zvOf Tryz.prog 149 = some [.c (.int .i64 0), .c (.str []), .c (.int .i64 0), .c (.str []), .c (.int .i64 0), .c (.int .i64 0), .c (.str []), .c (.str []), .c (.int .i64 0), .c (.str []), .c (.sl []), .c (.str []), .c (.str []), .c (.str []), .c (.str []), .c (.int .i64 0), .c (.sl []), .c (.int .i64 0), .c (.int .i64 0), .c (.int .i64 0), .c (.int .i64 0), .c (.str []), .c (.int .i64 0), .c (.str []), .c (.int .i64 0), .c (.int .i64 0), .c (.int .i64 0), .c (.int .i64 0), .c (.int .i64 0), .c (.int .i64 0), .c (.int .i64 0), .c (.str []), .c (.int .i64 0), .c (.str []), .c (.int .i64 0), .c (.int .i64 0), .c (.int .i64 0), .c (.int .i64 0), .c (.int .i64 0), .c (.int .i64 0), .c (.str []), .c (.str []), .c (.str []), .c (.sl []), .c (.int .i64 0), .c (.int .i64 0), .c (.int .i64 0), .c (.int .i64 0), .c (.int .i64 0)] := by kernel_rfl
@[simp] theorem ty149_und : (Tryz.prog.underlying 149).isSome = true := by kernel_rfl
@[simp] theorem ty149_pl : plB Tryz.prog 149 = some [(0, 1), (1, 20), (21, 9), (30, 7), (37, 12)] := by kernel_rfl
@[simp] theorem ty149_f0 : fOff Tryz.prog 149 0 = some 0 := by kernel_rfl
@[simp] theorem ty149_g0 : fTy Tryz.prog 149 0 = some (0, 3) := by kernel_rfl
@[simp] theorem ty149_f1 : fOff Tryz.prog 149 1 = some 1 := by kernel_rfl
@[simp] theorem ty149_g1 : fTy Tryz.prog 149 1 = some (1, 49) := by kernel_rfl
@[simp] theorem ty149_f2 : fOff Tryz.prog 149 2 = some 21 := by kernel_rfl
@[simp] theorem ty149_g2 : fTy Tryz.prog 149 2 = some (21, 143) := by kernel_rfl
@[simp] theorem ty149_f3 : fOff Tryz.prog 149 3 = some 30 := by kernel_rfl
@[simp] theorem ty149_g3 : fTy Tryz.prog 149 3 = some (30, 145) := by kernel_rfl
@[simp] theorem ty149_f4 : fOff Tryz.prog 149 4 = some 37 := by kernel_rfl
@[simp] theorem ty149_g4 : fTy Tryz.prog 149 4 = some (37, 147) := by kernel_rfl
@[simp] theorem ty151_sz : szOf Tryz.prog 151 = some 1 := by kernel_rfl
@[simp] theorem ty151_ag : agOf Tryz.prog 151 = some false := by kernel_rfl
@[simp] theorem ty151_zv : zvOf Tryz.prog 151 = some [.c .nilfn] := by kernel_rfl
@[simp] theorem ty151_isfn : isFn Tryz.prog 151 = true := by kernel_rfl
@[simp] theorem ty151_und : (Tryz.prog.underlying 151).isSome = true := by kernel_rfl
@[simp] theorem ty165_sz : szOf Tryz.prog 165 = some 1 := by kernel_rfl
@[simp] theorem ty165_ag : agOf Tryz.prog 165 = some false := by kernel_rfl
@[simp] theorem ty165_zv : zvOf Tryz.prog 165 = some [.c (.int .u64 0)] := by kernel_rfl
@[simp] theorem ty165_ik : intKindOf Tryz.prog 165 = some .u64 := by kernel_rfl
@[simp] theorem ty165_und : (Tryz.prog.underlying 165).isSome = true := by kernel_rfl
@[simp] theorem ty180_sz : szOf Tryz.prog 180 = some 1 := by kernel_rfl
@[simp] theorem ty180_ag : agOf Tryz.prog 180 = some false := by kernel_rfl
@[simp] theorem ty180_zv : zvOf Tryz.prog 180 = some [.c .nilfn] := by kernel_rfl
@[simp] theorem ty180_isfn : isFn Tryz.prog 180 = true := by kernel_rfl
@[simp] theorem ty180_und : (Tryz.prog.underlying 180).isSome = true := by kernel_rfl
@[simp] theorem ty200_sz : szOf Tryz.prog 200 = some 1 := by kernel_rfl
@[simp] theorem ty200_ag : agOf Tryz.prog 200 = some false := by kernel_rfl
@[simp] theorem ty200_zv : zvOf Tryz.prog 200 = some [.c (.int .u32 0)] := by kernel_rfl
@[simp] theorem ty200_ik : intKindOf Tryz.prog 200 = some .u32 := by kernel_rfl
@[simp] theorem ty200_und : (Tryz.prog.underlying 200).isSome = true := by kernel_rfl
@[simp] theorem ty202_sz : szOf Tryz.prog 202 = some 1 := by kernel_rfl
@[simp] theorem ty202_ag : agOf Tryz.prog 202 = some false := by kernel_rfl
@[simp] theorem ty202_zv : zvOf Tryz.prog 202 = some [.c (.int .u64 0)] := by kernel_rfl
@[simp] theorem ty202_ik : intKindOf Tryz.prog 202 = some .u64 := by kernel_rfl
@[simp] theorem ty202_und : (Tryz.prog.underlying 202).isSome = true := by kernel_rfl
@[simp] theorem ty207_sz : szOf Tryz.prog 207 = some 1 := by kernel_rfl
@[simp] theorem ty207_ag : agOf Tryz.prog 207 = some false := by kernel_rfl
@[simp] theorem ty207_zv : zvOf Tryz.prog 207 = some [.c (.sl [])] := by kernel_rfl
@[simp] theorem ty207_els : elS Tryz.prog 207 = some 1 := by kernel_rfl
@[simp] theorem ty207_issl : isSl Tryz.prog 207 = true := by kernel_rfl
@[simp] theorem ty207_own : ownTy Tryz.prog 207 = some (5, 1, 1) := by kernel_rfl
@[simp] theorem ty207_isby : isBytes Tryz.prog 207 = true := by kernel_rfl
@[simp] theorem ty207_byty : byTy Tryz.prog 207 = some 5 := by kernel_rfl
@[simp] theorem ty207_und : (Tryz.prog.underlying 207).isSome = true := by kernel_rfl
@[simp] theorem ty207_usl : Tryz.prog.underlying 207 = some (.slice 5) := by kernel_rfl
@[simp] theorem ty211_sz : szOf Tryz.prog 211 = some 1 := by kernel_rfl
@[simp] theorem ty211_ag : agOf Tryz.prog 211 = some false := by kernel_rfl
@[simp] theorem ty211_zv : zvOf Tryz.prog 211 = some [.c .nilp] := by kernel_rfl
@[simp] theorem ty211_isp : isPtr Tryz.prog 211 = true := by kernel_rfl
@[simp] theorem ty211_und : (Tryz.prog.underlying 211).isSome = true := by kernel_rfl
@[simp] theorem ty213_sz : szOf Tryz.prog 213 = some 2 := by kernel_rfl
@[simp] theorem ty213_ag : agOf Tryz.prog 213 = some true := by kernel_rfl
@[simp] theorem ty213_zv : zvOf Tryz.prog 213 = some [.c .nilp, .c (.sl [])] := by kernel_rfl
@[simp] theorem ty213_und : (Tryz.prog.underlying 213).isSome = true := by kernel_rfl
@[simp] theorem ty213_pl : plB Tryz.prog 213 = some [(0, 1), (1, 1)] := by kernel_rfl
@[simp] theorem ty213_f0 : fOff Tryz.prog 213 0 = some 0 := by kernel_rfl
@[simp] theorem ty213_g0 : fTy Tryz.prog 213 0 = some (0, 211) := by kernel_rfl
@[simp] theorem ty213_f1 : fOff Tryz.prog 213 1 = some 1 := by kernel_rfl
@[simp] theorem ty213_g1 : fTy Tryz.prog 213 1 = some (1, 207) := by kernel_rfl
@[simp] theorem ty215_sz : szOf Tryz.prog 215 = some 2 := by kernel_rfl
@[simp] theorem ty215_ag : agOf Tryz.prog 215 = some true := by kernel_rfl
@[simp] theorem ty215_zv : zvOf Tryz.prog 215 = some [.c .nilp, .c (.sl [])] := by kernel_rfl
@[simp] theorem ty215_und : (Tryz.prog.underlying 215).isSome = true := by kernel_rfl
@[simp] theorem ty215_pl : plB Tryz.prog 215 = some [(0, 2)] := by kernel_rfl
@[simp] theorem ty215_f0 : fOff Tryz.prog 215 0 = some 0 := by kernel_rfl
@[simp] theorem ty215_g0 : fTy Tryz.prog 215 0 = some (0, 213) := by kernel_rfl
@[simp] theorem ty222_sz : szOf Tryz.prog 222 = some 1 := by kernel_rfl
@[simp] theorem ty222_ag : agOf Tryz.prog 222 = some false := by kernel_rfl
@[simp] theorem ty222_zv : zvOf Tryz.prog 222 = some [.c .nilp] := by kernel_rfl
@[simp] theorem ty222_isp : isPtr Tryz.prog 222 = true := by kernel_rfl
@[simp] theorem ty222_und : (Tryz.prog.underlying 222).isSome = true := by kernel_rfl
@[simp] theorem ty225_sz : szOf Tryz.prog 225 = some 8 := by kernel_rfl
@[simp] theorem ty225_ag : agOf Tryz.prog 225 = some true := by kernel_rfl
@[simp] theorem ty225_zv : zvOf Tryz.prog 225 = some [.c (.int .u32 0), .c (.int .u32 0), .c (.int .u32 0), .c (.int .u32 0), .c (.int .u32 0), .c (.int .u32 0), .c (.int .u32 0), .c (.int .u32 0)] := by kernel_rfl
@[simp] theorem ty225_art : arT Tryz.prog 225 = some (8, 200, 1) := by kernel_rfl
@[simp] theorem ty225_ela : elA Tryz.prog 225 = some (8, 1) := by kernel_rfl
@[simp] theorem ty225_pl : plB Tryz.prog 225 = some [(0, 1), (1, 1), (2, 1), (3, 1), (4, 1), (5, 1), (6, 1), (7, 1)] := by kernel_rfl
@[simp] theorem ty225_und : (Tryz.prog.underlying 225).isSome = true := by kernel_rfl
@[simp] theorem ty230_sz : szOf Tryz.prog 230 = some 5 := by kernel_rfl
@[simp] theorem ty230_ag : agOf Tryz.prog 230 = some true := by kernel_rfl
@[simp] theorem ty230_zv : zvOf Tryz.prog 230 = some [.c (.int .i64 0), .c (.int .i64 0), .c (.str []), .c (.str []), .c (.str [])] := by kernel_rfl
@[simp] theorem ty230_eqt : eqTy Tryz.prog 230 = some (.st [(0, 1, .i), (1, 1, .i), (2, 3, .st [(0, 1, .s), (1, 1, .s), (2, 1, .s)])]) := by kernel_rfl
@[simp] theorem ty230_und : (Tryz.prog.underlying 230).isSome = true := by kernel_rfl
@[simp] theorem ty230_pl : plB Tryz.prog 230 = some [(0, 1), (1, 1), (2, 3)] := by kernel_rfl
@[simp] theorem ty230_f0 : fOff Tryz.prog 230 0 = some 0 := by kernel_rfl
@[simp] theorem ty230_g0 : fTy Tryz.prog 230 0 = some (0, 3) := by kernel_rfl
@[simp] theorem ty230_f1 : fOff Tryz.prog 230 1 = some 1 := by kernel_rfl
@[simp] theorem ty230_g1 : fTy Tryz.prog 230 1 = some (1, 3) := by kernel_rfl
@[simp] theorem ty230_f2 : fOff Tryz.prog 230 2 = some 2 := by kernel_rfl
@[simp] theorem ty230_g2 : fTy Tryz.prog 230 2 = some (2, 44) := by kernel_rfl
@[simp] theorem ty248_sz : szOf Tryz.prog 248 = some 10 := by kernel_rfl
@[simp] theorem ty248_ag : agOf Tryz.prog 248 = some true := by kernel_rfl
@[simp] theorem ty248_zv : zvOf Tryz.prog 248 = some [.c (.bool false), .c (.bool false), .c (.bool false), .c (.bool false), .c (.bool false), .c (.bool false), .c (.bool false), .c (.bool false), .c (.bool false), .c .nilfn] := by kernel_rfl
@[simp] theorem ty248_und : (Tryz.prog.underlying 248).isSome = true := by kernel_rfl
@[simp] theorem ty248_pl : plB Tryz.prog 248 = some [(0, 1), (1, 1), (2, 1), (3, 1), (4, 1), (5, 1), (6, 1), (7, 1), (8, 1), (9, 1)] := by kernel_rfl
@[simp] theorem ty248_f0 : fOff Tryz.prog 248 0 = some 0 := by kernel_rfl
@[simp] theorem ty248_g0 : fTy Tryz.prog 248 0 = some (0, 4) := by kernel_rfl
@[simp] theorem ty248_f1 : fOff Tryz.prog 248 1 = some 1 := by kernel_rfl
@[simp] theorem ty248_g1 : fTy Tryz.prog 248 1 = some (1, 4) := by kernel_rfl
@[simp] theorem ty248_f2 : fOff Tryz.prog 248 2 = some 2 := by kernel_rfl
@[simp] theorem ty248_g2 : fTy Tryz.prog 248 2 = some (2, 4) := by kernel_rfl
@[simp] theorem ty248_f3 : fOff Tryz.prog 248 3 = some 3 := by kernel_rfl
@[simp] theorem ty248_g3 : fTy Tryz.prog 248 3 = some (3, 4) := by kernel_rfl
@[simp] theorem ty248_f4 : fOff Tryz.prog 248 4 = some 4 := by kernel_rfl
@[simp] theorem ty248_g4 : fTy Tryz.prog 248 4 = some (4, 4) := by kernel_rfl
@[simp] theorem ty248_f5 : fOff Tryz.prog 248 5 = some 5 := by kernel_rfl
@[simp] theorem ty248_g5 : fTy Tryz.prog 248 5 = some (5, 4) := by kernel_rfl
@[simp] theorem ty248_f6 : fOff Tryz.prog 248 6 = some 6 := by kernel_rfl
@[simp] theorem ty248_g6 : fTy Tryz.prog 248 6 = some (6, 4) := by kernel_rfl
@[simp] theorem ty248_f7 : fOff Tryz.prog 248 7 = some 7 := by kernel_rfl
@[simp] theorem ty248_g7 : fTy Tryz.prog 248 7 = some (7, 4) := by kernel_rfl
@[simp] theorem ty248_f8 : fOff Tryz.prog 248 8 = some 8 := by kernel_rfl
@[simp] theorem ty248_g8 : fTy Tryz.prog 248 8 = some (8, 4) := by kernel_rfl
@[simp] theorem ty248_f9 : fOff Tryz.prog 248 9 = some 9 := by kernel_rfl
@[simp] theorem ty248_g9 : fTy Tryz.prog 248 9 = some (9, 151) := by kernel_rfl
@[simp] theorem ty250_sz : szOf Tryz.prog 250 = some 1 := by kernel_rfl
@[simp] theorem ty250_ag : agOf Tryz.prog 250 = some false := by kernel_rfl
@[simp] theorem ty250_zv : zvOf Tryz.prog 250 = some [.c .nilm] := by kernel_rfl
@[simp] theorem ty250_map : mapTy Tryz.prog 250 = some (.int .i64, true, .agg [.c (.bool false), .c (.bool false), .c (.bool false), .c (.bool false), .c (.bool false), .c (.bool false), .c (.bool false), .c (.bool false), .c (.bool false), .c .nilfn]) := by kernel_rfl
@[simp] theorem ty250_und : (Tryz.prog.underlying 250).isSome = true := by kernel_rfl
@[simp] theorem ty262_sz : szOf Tryz.prog 262 = some 1 := by kernel_rfl
@[simp] theorem ty262_ag : agOf Tryz.prog 262 = some false := by kernel_rfl
@[simp] theorem ty262_zv : zvOf Tryz.prog 262 = some [.c .nilp] := by kernel_rfl
@[simp] theorem ty262_isp : isPtr Tryz.prog 262 = true := by kernel_rfl
@[simp] theorem ty262_und : (Tryz.prog.underlying 262).isSome = true := by kernel_rfl
@[simp] theorem ty265_sz : szOf Tryz.prog 265 = some 64 := by kernel_rfl
@[simp] theorem ty265_ag : agOf Tryz.prog 265 = some true := by kernel_rfl
@[simp] theorem ty265_zv : zvOf Tryz.prog 265 = some [.c (.int .u32 0), .c (.int .u32 0), .c (.int .u32 0), .c (.int .u32 0), .c (.int .u32 0), .c (.int .u32 0), .c (.int .u32 0), .c (.int .u32 0), .c (.int .u32 0), .c (.int .u32 0), .c (.int .u32 0), .c (.int .u32 0), .c (.int .u32 0), .c (.int .u32 0), .c (.int .u32 0), .c (.int .u32 0), .c (.int .u32 0), .c (.int .u32 0), .c (.int .u32 0), .c (.int .u32 0), .c (.int .u32 0), .c (.int .u32 0), .c (.int .u32 0), .c (.int .u32 0), .c (.int .u32 0), .c (.int .u32 0), .c (.int .u32 0), .c (.int .u32 0), .c (.int .u32 0), .c (.int .u32 0), .c (.int .u32 0), .c (.int .u32 0), .c (.int .u32 0), .c (.int .u32 0), .c (.int .u32 0), .c (.int .u32 0), .c (.int .u32 0), .c (.int .u32 0), .c (.int .u32 0), .c (.int .u32 0), .c (.int .u32 0), .c (.int .u32 0), .c (.int .u32 0), .c (.int .u32 0), .c (.int .u32 0), .c (.int .u32 0), .c (.int .u32 0), .c (.int .u32 0), .c (.int .u32 0), .c (.int .u32 0), .c (.int .u32 0), .c (.int .u32 0), .c (.int .u32 0), .c (.int .u32 0), .c (.int .u32 0), .c (.int .u32 0), .c (.int .u32 0), .c (.int .u32 0), .c (.int .u32 0), .c (.int .u32 0), .c (.int .u32 0), .c (.int .u32 0), .c (.int .u32 0), .c (.int .u32 0)] := by kernel_rfl
@[simp] theorem ty265_art : arT Tryz.prog 265 = some (64, 200, 1) := by kernel_rfl
@[simp] theorem ty265_ela : elA Tryz.prog 265 = some (64, 1) := by kernel_rfl
@[simp] theorem ty265_pl : plB Tryz.prog 265 = some [(0, 1), (1, 1), (2, 1), (3, 1), (4, 1), (5, 1), (6, 1), (7, 1), (8, 1), (9, 1), (10, 1), (11, 1), (12, 1), (13, 1), (14, 1), (15, 1), (16, 1), (17, 1), (18, 1), (19, 1), (20, 1), (21, 1), (22, 1), (23, 1), (24, 1), (25, 1), (26, 1), (27, 1), (28, 1), (29, 1), (30, 1), (31, 1), (32, 1), (33, 1), (34, 1), (35, 1), (36, 1), (37, 1), (38, 1), (39, 1), (40, 1), (41, 1), (42, 1), (43, 1), (44, 1), (45, 1), (46, 1), (47, 1), (48, 1), (49, 1), (50, 1), (51, 1), (52, 1), (53, 1), (54, 1), (55, 1), (56, 1), (57, 1), (58, 1), (59, 1), (60, 1), (61, 1), (62, 1), (63, 1)] := by kernel_rfl
@[simp] theorem ty265_und : (Tryz.prog.underlying 265).isSome = true := by kernel_rfl
@[simp] theorem ty269_sz : szOf Tryz.prog 269 = some 1 := by kernel_rfl
@[simp] theorem ty269_ag : agOf Tryz.prog 269 = some false := by kernel_rfl
@[simp] theorem ty269_zv : zvOf Tryz.prog 269 = some [.c (.sl [])] := by kernel_rfl
@[simp] theorem ty269_els : elS Tryz.prog 269 = some 1 := by kernel_rfl
@[simp] theorem ty269_issl : isSl Tryz.prog 269 = true := by kernel_rfl
@[simp] theorem ty269_own : ownTy Tryz.prog 269 = some (200, 1, 4) := by kernel_rfl
@[simp] theorem ty269_und : (Tryz.prog.underlying 269).isSome = true := by kernel_rfl
@[simp] theorem ty269_usl : Tryz.prog.underlying 269 = some (.slice 200) := by kernel_rfl
@[simp] theorem ty282_sz : szOf Tryz.prog 282 = some 1 := by kernel_rfl
@[simp] theorem ty282_ag : agOf Tryz.prog 282 = some false := by kernel_rfl
@[simp] theorem ty282_zv : zvOf Tryz.prog 282 = some [.c .nilp] := by kernel_rfl
@[simp] theorem ty282_und : (Tryz.prog.underlying 282).isSome = true := by kernel_rfl
@[simp] theorem ty333_sz : szOf Tryz.prog 333 = some 1 := by kernel_rfl
@[simp] theorem ty333_ag : agOf Tryz.prog 333 = some false := by kernel_rfl
@[simp] theorem ty333_zv : zvOf Tryz.prog 333 = some [.c .nilfn] := by kernel_rfl
@[simp] theorem ty333_isfn : isFn Tryz.prog 333 = true := by kernel_rfl
@[simp] theorem ty333_und : (Tryz.prog.underlying 333).isSome = true := by kernel_rfl
end Go.Proofs.YthkmfboffnhkaaaGreatDoor
