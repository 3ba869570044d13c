/-
  Library functions by the shelf's contracts: a map's keys, sorted.
  A map's keys, sorted: contracts on abstract states.
-/
import Derived.Test.YthkmfboffnhkaaaGreatDoorW18
import Derived.Shelf.SlIterI.Nil
import Derived.Shelf.SlIter.Nil
import Derived.Shelf.SortM.Plain
import Derived.Shelf.SortM.SortNone
import Derived.Ground.GgzProg
import Derived.Ground.SlgmProg
set_option linter.all false
namespace Go.Proofs
open Go.RowKit Go.Maps Go.Sort Go.Shelf
def Tryz.keysI_ren : Go.Shelf.Ren := ⟨fun | 7 => 56 | 10 => 98 | n => n, fun | 23 => 97 | 26 => 3 | 3 => 104 | 28 => 101 | 0 => 0 | 27 => 100 | 33 => 63 | 4 => 4 | n => n, fun | n => n⟩
theorem Tryz.keysI : Go.Proofs.SlLaysZI.n7 Tryz.prog Tryz.keysI_ren := {
  mixed := by kernel_rfl,
  f7 := ⟨Tryz.f56.name, by decide, Tryz.func56.trans (congrArg some (by kernel_rfl))⟩,
  f10 := ⟨Tryz.f98.name, by decide, Tryz.func98.trans (congrArg some (by kernel_rfl))⟩,
  t0 := Tryz.underlying0,
  a0 := Tryz.isAgg0,
  z0 := Tryz.sizeOf0,
  v0 := Tryz.zeroValue0,
  t4 := Tryz.underlying4,
  a4 := Tryz.isAgg4,
  z4 := Tryz.sizeOf4,
  v4 := Tryz.zeroValue4,
  t23 := Tryz.underlying97,
  a23 := Tryz.isAgg97,
  z23 := Tryz.sizeOf97,
  v23 := Tryz.zeroValue97,
  t26 := Tryz.underlying3,
  a26 := Tryz.isAgg3,
  z26 := Tryz.sizeOf3,
  v26 := Tryz.zeroValue3,
  t27 := Tryz.underlying100,
  a27 := Tryz.isAgg100,
  z27 := Tryz.sizeOf100,
  v27 := Tryz.zeroValue100,
  t28 := Tryz.underlying101,
  a28 := Tryz.isAgg101,
  z28 := Tryz.sizeOf101,
  v28 := Tryz.zeroValue101,
  t33 := Tryz.underlying63,
  a33 := Tryz.isAgg63,
  z33 := Tryz.sizeOf63,
  v33 := Tryz.zeroValue63 }
def Tryz.sortedI_ren : Go.Shelf.Ren := ⟨fun | 6 => 55 | 8 => 96 | 9 => 97 | 11 => 134 | 13 => 109 | 12 => 135 | 23 => 147 | 24 => 148 | 14 => 174 | 15 => 175 | 16 => 176 | 17 => 177 | 18 => 178 | 19 => 179 | 20 => 180 | 21 => 181 | 22 => 182 | 25 => 215 | 26 => 184 | 27 => 185 | 28 => 216 | 29 => 217 | 30 => 136 | 31 => 234 | n => n, fun | 26 => 3 | 28 => 101 | 24 => 84 | 0 => 0 | 3 => 3 | 37 => 165 | 48 => 200 | 50 => 202 | 4 => 4 | 40 => 193 | 39 => 192 | 45 => 65 | 5 => 5 | 9 => 9 | 51 => 241 | 55 => 245 | 57 => 272 | 58 => 273 | 33 => 63 | n => n, fun | n => n⟩
theorem Tryz.sortedI : Go.Proofs.SlLaysZI.n6 Tryz.prog Tryz.sortedI_ren := {
  mixed := by kernel_rfl,
  f6 := ⟨Tryz.f55.name, by decide, Tryz.func55.trans (congrArg some (by kernel_rfl))⟩,
  f8 := ⟨Tryz.f96.name, by decide, Tryz.func96.trans (congrArg some (by kernel_rfl))⟩,
  f11 := ⟨Tryz.f134.name, by decide, Tryz.func134.trans (congrArg some (by kernel_rfl))⟩,
  t0 := Tryz.underlying0,
  a0 := Tryz.isAgg0,
  z0 := Tryz.sizeOf0,
  v0 := Tryz.zeroValue0,
  t24 := Tryz.underlying84,
  a24 := Tryz.isAgg84,
  z24 := Tryz.sizeOf84,
  v24 := Tryz.zeroValue84,
  t26 := Tryz.underlying3,
  a26 := Tryz.isAgg3,
  z26 := Tryz.sizeOf3,
  v26 := Tryz.zeroValue3,
  t28 := Tryz.underlying101,
  a28 := Tryz.isAgg101,
  z28 := Tryz.sizeOf101,
  v28 := Tryz.zeroValue101,
  i26 := by kernel_rfl }
def Tryz.sortI_ren : Go.Shelf.Ren := ⟨fun | 5 => 97 | 8 => 109 | 7 => 135 | 19 => 147 | 20 => 148 | 10 => 174 | 11 => 175 | 12 => 176 | 13 => 177 | 14 => 178 | 15 => 179 | 16 => 180 | 17 => 181 | 18 => 182 | 30 => 215 | 31 => 184 | 32 => 185 | 33 => 216 | 34 => 217 | 35 => 136 | 40 => 234 | n => n, fun | 23 => 84 | 25 => 3 | 3 => 3 | 32 => 165 | 22 => 84 | 0 => 0 | 44 => 200 | 46 => 202 | 4 => 4 | 36 => 193 | 35 => 192 | 41 => 65 | 5 => 5 | 9 => 9 | 53 => 241 | 57 => 245 | 63 => 272 | 64 => 273 | n => n, fun | n => n⟩
theorem Tryz.sortI : Go.Proofs.SlLaysM.n5 Tryz.prog Tryz.sortI_ren := {
  mixed := by kernel_rfl,
  f5 := ⟨Tryz.f97.name, by decide, Tryz.func97.trans (congrArg some (by kernel_rfl))⟩,
  f7 := ⟨Tryz.f135.name, by decide, Tryz.func135.trans (congrArg some (by kernel_rfl))⟩,
  f8 := Tryz.func109.trans (congrArg some (by kernel_rfl)),
  f10 := ⟨Tryz.f174.name, by decide, Tryz.func174.trans (congrArg some (by kernel_rfl))⟩,
  f11 := ⟨Tryz.f175.name, by decide, Tryz.func175.trans (congrArg some (by kernel_rfl))⟩,
  f12 := ⟨Tryz.f176.name, by decide, Tryz.func176.trans (congrArg some (by kernel_rfl))⟩,
  f13 := ⟨Tryz.f177.name, by decide, Tryz.func177.trans (congrArg some (by kernel_rfl))⟩,
  f14 := ⟨Tryz.f178.name, by decide, Tryz.func178.trans (congrArg some (by kernel_rfl))⟩,
  f15 := ⟨Tryz.f179.name, by decide, Tryz.func179.trans (congrArg some (by kernel_rfl))⟩,
  f16 := ⟨Tryz.f180.name, by decide, Tryz.func180.trans (congrArg some (by kernel_rfl))⟩,
  f17 := ⟨Tryz.f181.name, by decide, Tryz.func181.trans (congrArg some (by kernel_rfl))⟩,
  f18 := ⟨Tryz.f182.name, by decide, Tryz.func182.trans (congrArg some (by kernel_rfl))⟩,
  f19 := Tryz.func147.trans (congrArg some (by kernel_rfl)),
  f20 := Tryz.func148.trans (congrArg some (by kernel_rfl)),
  f30 := ⟨Tryz.f215.name, by decide, Tryz.func215.trans (congrArg some (by kernel_rfl))⟩,
  f31 := Tryz.func184.trans (congrArg some (by kernel_rfl)),
  f32 := Tryz.func185.trans (congrArg some (by kernel_rfl)),
  f33 := ⟨Tryz.f216.name, by decide, Tryz.func216.trans (congrArg some (by kernel_rfl))⟩,
  f34 := ⟨Tryz.f217.name, by decide, Tryz.func217.trans (congrArg some (by kernel_rfl))⟩,
  f35 := ⟨Tryz.f136.name, by decide, Tryz.func136.trans (congrArg some (by kernel_rfl))⟩,
  f40 := ⟨Tryz.f234.name, by decide, Tryz.func234.trans (congrArg some (by kernel_rfl))⟩,
  t0 := Tryz.underlying0,
  a0 := Tryz.isAgg0,
  z0 := Tryz.sizeOf0,
  v0 := Tryz.zeroValue0,
  t3 := Tryz.underlying3,
  a3 := Tryz.isAgg3,
  z3 := Tryz.sizeOf3,
  v3 := Tryz.zeroValue3,
  t4 := Tryz.underlying4,
  a4 := Tryz.isAgg4,
  z4 := Tryz.sizeOf4,
  v4 := Tryz.zeroValue4,
  t5 := Tryz.underlying5,
  a5 := Tryz.isAgg5,
  z5 := Tryz.sizeOf5,
  v5 := Tryz.zeroValue5,
  t9 := Tryz.underlying9,
  a9 := Tryz.isAgg9,
  z9 := Tryz.sizeOf9,
  v9 := Tryz.zeroValue9,
  t22 := Tryz.underlying84,
  a22 := Tryz.isAgg84,
  z22 := Tryz.sizeOf84,
  v22 := Tryz.zeroValue84,
  t23 := Tryz.underlying84,
  a23 := Tryz.isAgg84,
  z23 := Tryz.sizeOf84,
  v23 := Tryz.zeroValue84,
  t25 := Tryz.underlying3,
  a25 := Tryz.isAgg3,
  z25 := Tryz.sizeOf3,
  v25 := Tryz.zeroValue3,
  t32 := Tryz.underlying165,
  a32 := Tryz.isAgg165,
  z32 := Tryz.sizeOf165,
  v32 := Tryz.zeroValue165,
  t35 := Tryz.underlying192,
  a35 := Tryz.isAgg192,
  z35 := Tryz.sizeOf192,
  v35 := Tryz.zeroValue192,
  t36 := Tryz.underlying193,
  a36 := Tryz.isAgg193,
  z36 := Tryz.sizeOf193,
  v36 := Tryz.zeroValue193,
  t41 := Tryz.underlying65,
  a41 := Tryz.isAgg65,
  z41 := Tryz.sizeOf65,
  v41 := Tryz.zeroValue65,
  t44 := Tryz.underlying200,
  a44 := Tryz.isAgg200,
  z44 := Tryz.sizeOf200,
  v44 := Tryz.zeroValue200,
  t46 := Tryz.underlying202,
  a46 := Tryz.isAgg202,
  z46 := Tryz.sizeOf202,
  v46 := Tryz.zeroValue202,
  t53 := Tryz.underlying241,
  a53 := Tryz.isAgg241,
  z53 := Tryz.sizeOf241,
  v53 := Tryz.zeroValue241,
  t57 := Tryz.underlying245,
  a57 := Tryz.isAgg245,
  z57 := Tryz.sizeOf245,
  v57 := Tryz.zeroValue245,
  t63 := Tryz.underlying272,
  a63 := Tryz.isAgg272,
  z63 := Tryz.sizeOf272,
  v63 := Tryz.zeroValue272,
  t64 := Tryz.underlying273,
  a64 := Tryz.isAgg273,
  z64 := Tryz.sizeOf273,
  v64 := Tryz.zeroValue273 }
def Tryz.keysS_ren : Go.Shelf.Ren := ⟨fun | 7 => 59 | 10 => 102 | n => n, fun | 23 => 96 | 26 => 9 | 3 => 104 | 28 => 109 | 0 => 0 | 27 => 108 | 33 => 131 | 4 => 4 | n => n, fun | n => n⟩
theorem Tryz.keysS : Go.Proofs.SlLaysZ.n7 Tryz.prog Tryz.keysS_ren := {
  mixed := by kernel_rfl,
  f7 := ⟨Tryz.f59.name, by decide, Tryz.func59.trans (congrArg some (by kernel_rfl))⟩,
  f10 := ⟨Tryz.f102.name, by decide, Tryz.func102.trans (congrArg some (by kernel_rfl))⟩,
  t0 := Tryz.underlying0,
  a0 := Tryz.isAgg0,
  z0 := Tryz.sizeOf0,
  v0 := Tryz.zeroValue0,
  t4 := Tryz.underlying4,
  a4 := Tryz.isAgg4,
  z4 := Tryz.sizeOf4,
  v4 := Tryz.zeroValue4,
  t23 := Tryz.underlying96,
  a23 := Tryz.isAgg96,
  z23 := Tryz.sizeOf96,
  v23 := Tryz.zeroValue96,
  t26 := Tryz.underlying9,
  a26 := Tryz.isAgg9,
  z26 := Tryz.sizeOf9,
  v26 := Tryz.zeroValue9,
  t27 := Tryz.underlying108,
  a27 := Tryz.isAgg108,
  z27 := Tryz.sizeOf108,
  v27 := Tryz.zeroValue108,
  t28 := Tryz.underlying109,
  a28 := Tryz.isAgg109,
  z28 := Tryz.sizeOf109,
  v28 := Tryz.zeroValue109,
  t33 := Tryz.underlying131,
  a33 := Tryz.isAgg131,
  z33 := Tryz.sizeOf131,
  v33 := Tryz.zeroValue131 }
def Tryz.sortedS_ren : Go.Shelf.Ren := ⟨fun | 6 => 58 | 8 => 101 | 9 => 71 | 11 => 137 | 13 => 109 | 12 => 108 | 23 => 147 | 24 => 148 | 14 => 138 | 15 => 139 | 16 => 140 | 17 => 141 | 18 => 142 | 19 => 143 | 20 => 144 | 21 => 145 | 22 => 146 | 25 => 183 | 26 => 184 | 27 => 185 | 28 => 186 | 29 => 187 | 30 => 133 | 31 => 218 | n => n, fun | 26 => 9 | 28 => 109 | 24 => 23 | 0 => 0 | 3 => 3 | 37 => 165 | 48 => 200 | 50 => 202 | 4 => 4 | 40 => 193 | 39 => 192 | 45 => 65 | 5 => 5 | 9 => 9 | 51 => 241 | 55 => 245 | 57 => 272 | 58 => 273 | 33 => 131 | n => n, fun | n => n⟩
theorem Tryz.sortedS : Go.Proofs.SlLaysZ.n6 Tryz.prog Tryz.sortedS_ren := {
  mixed := by kernel_rfl,
  f6 := ⟨Tryz.f58.name, by decide, Tryz.func58.trans (congrArg some (by kernel_rfl))⟩,
  f8 := ⟨Tryz.f101.name, by decide, Tryz.func101.trans (congrArg some (by kernel_rfl))⟩,
  f11 := ⟨Tryz.f137.name, by decide, Tryz.func137.trans (congrArg some (by kernel_rfl))⟩,
  t0 := Tryz.underlying0,
  a0 := Tryz.isAgg0,
  z0 := Tryz.sizeOf0,
  v0 := Tryz.zeroValue0,
  t24 := Tryz.underlying23,
  a24 := Tryz.isAgg23,
  z24 := Tryz.sizeOf23,
  v24 := Tryz.zeroValue23,
  t26 := Tryz.underlying9,
  a26 := Tryz.isAgg9,
  z26 := Tryz.sizeOf9,
  v26 := Tryz.zeroValue9,
  t28 := Tryz.underlying109,
  a28 := Tryz.isAgg109,
  z28 := Tryz.sizeOf109,
  v28 := Tryz.zeroValue109,
  i26 := by kernel_rfl }
def Tryz.sortS_ren : Go.Shelf.Ren := ⟨fun | 6 => 71 | 8 => 109 | 9 => 108 | 19 => 147 | 20 => 148 | 21 => 138 | 22 => 139 | 23 => 140 | 24 => 141 | 25 => 142 | 26 => 143 | 27 => 144 | 28 => 145 | 29 => 146 | 36 => 183 | 31 => 184 | 32 => 185 | 37 => 186 | 38 => 187 | 39 => 133 | 41 => 218 | n => n, fun | 27 => 23 | 29 => 9 | 3 => 3 | 32 => 165 | 26 => 23 | 0 => 0 | 44 => 200 | 46 => 202 | 4 => 4 | 36 => 193 | 35 => 192 | 41 => 65 | 5 => 5 | 9 => 9 | 53 => 241 | 57 => 245 | 63 => 272 | 64 => 273 | n => n, fun | n => n⟩
theorem Tryz.sortS : Go.Proofs.SlLaysM.n6 Tryz.prog Tryz.sortS_ren := {
  mixed := by kernel_rfl,
  f6 := ⟨Tryz.f71.name, by decide, Tryz.func71.trans (congrArg some (by kernel_rfl))⟩,
  f8 := Tryz.func109.trans (congrArg some (by kernel_rfl)),
  f9 := ⟨Tryz.f108.name, by decide, Tryz.func108.trans (congrArg some (by kernel_rfl))⟩,
  f19 := Tryz.func147.trans (congrArg some (by kernel_rfl)),
  f20 := Tryz.func148.trans (congrArg some (by kernel_rfl)),
  f21 := ⟨Tryz.f138.name, by decide, Tryz.func138.trans (congrArg some (by kernel_rfl))⟩,
  f22 := ⟨Tryz.f139.name, by decide, Tryz.func139.trans (congrArg some (by kernel_rfl))⟩,
  f23 := ⟨Tryz.f140.name, by decide, Tryz.func140.trans (congrArg some (by kernel_rfl))⟩,
  f24 := ⟨Tryz.f141.name, by decide, Tryz.func141.trans (congrArg some (by kernel_rfl))⟩,
  f25 := ⟨Tryz.f142.name, by decide, Tryz.func142.trans (congrArg some (by kernel_rfl))⟩,
  f26 := ⟨Tryz.f143.name, by decide, Tryz.func143.trans (congrArg some (by kernel_rfl))⟩,
  f27 := ⟨Tryz.f144.name, by decide, Tryz.func144.trans (congrArg some (by kernel_rfl))⟩,
  f28 := ⟨Tryz.f145.name, by decide, Tryz.func145.trans (congrArg some (by kernel_rfl))⟩,
  f29 := ⟨Tryz.f146.name, by decide, Tryz.func146.trans (congrArg some (by kernel_rfl))⟩,
  f31 := Tryz.func184.trans (congrArg some (by kernel_rfl)),
  f32 := Tryz.func185.trans (congrArg some (by kernel_rfl)),
  f36 := ⟨Tryz.f183.name, by decide, Tryz.func183.trans (congrArg some (by kernel_rfl))⟩,
  f37 := ⟨Tryz.f186.name, by decide, Tryz.func186.trans (congrArg some (by kernel_rfl))⟩,
  f38 := ⟨Tryz.f187.name, by decide, Tryz.func187.trans (congrArg some (by kernel_rfl))⟩,
  f39 := ⟨Tryz.f133.name, by decide, Tryz.func133.trans (congrArg some (by kernel_rfl))⟩,
  f41 := ⟨Tryz.f218.name, by decide, Tryz.func218.trans (congrArg some (by kernel_rfl))⟩,
  t0 := Tryz.underlying0,
  a0 := Tryz.isAgg0,
  z0 := Tryz.sizeOf0,
  v0 := Tryz.zeroValue0,
  t3 := Tryz.underlying3,
  a3 := Tryz.isAgg3,
  z3 := Tryz.sizeOf3,
  v3 := Tryz.zeroValue3,
  t4 := Tryz.underlying4,
  a4 := Tryz.isAgg4,
  z4 := Tryz.sizeOf4,
  v4 := Tryz.zeroValue4,
  t5 := Tryz.underlying5,
  a5 := Tryz.isAgg5,
  z5 := Tryz.sizeOf5,
  v5 := Tryz.zeroValue5,
  t9 := Tryz.underlying9,
  a9 := Tryz.isAgg9,
  z9 := Tryz.sizeOf9,
  v9 := Tryz.zeroValue9,
  t26 := Tryz.underlying23,
  a26 := Tryz.isAgg23,
  z26 := Tryz.sizeOf23,
  v26 := Tryz.zeroValue23,
  t27 := Tryz.underlying23,
  a27 := Tryz.isAgg23,
  z27 := Tryz.sizeOf23,
  v27 := Tryz.zeroValue23,
  t29 := Tryz.underlying9,
  a29 := Tryz.isAgg9,
  z29 := Tryz.sizeOf9,
  v29 := Tryz.zeroValue9,
  t32 := Tryz.underlying165,
  a32 := Tryz.isAgg165,
  z32 := Tryz.sizeOf165,
  v32 := Tryz.zeroValue165,
  t35 := Tryz.underlying192,
  a35 := Tryz.isAgg192,
  z35 := Tryz.sizeOf192,
  v35 := Tryz.zeroValue192,
  t36 := Tryz.underlying193,
  a36 := Tryz.isAgg193,
  z36 := Tryz.sizeOf193,
  v36 := Tryz.zeroValue193,
  t41 := Tryz.underlying65,
  a41 := Tryz.isAgg65,
  z41 := Tryz.sizeOf65,
  v41 := Tryz.zeroValue65,
  t44 := Tryz.underlying200,
  a44 := Tryz.isAgg200,
  z44 := Tryz.sizeOf200,
  v44 := Tryz.zeroValue200,
  t46 := Tryz.underlying202,
  a46 := Tryz.isAgg202,
  z46 := Tryz.sizeOf202,
  v46 := Tryz.zeroValue202,
  t53 := Tryz.underlying241,
  a53 := Tryz.isAgg241,
  z53 := Tryz.sizeOf241,
  v53 := Tryz.zeroValue241,
  t57 := Tryz.underlying245,
  a57 := Tryz.isAgg245,
  z57 := Tryz.sizeOf245,
  v57 := Tryz.zeroValue245,
  t63 := Tryz.underlying272,
  a63 := Tryz.isAgg272,
  z63 := Tryz.sizeOf272,
  v63 := Tryz.zeroValue272,
  t64 := Tryz.underlying273,
  a64 := Tryz.isAgg273,
  z64 := Tryz.sizeOf273,
  v64 := Tryz.zeroValue273 }
theorem Tryz.sortsI (m : Nat) : AnyZI.SortsIn Tryz.prog Tryz.sortedI_ren Fence.wide m :=
  ⟨fun blk off cap ss W hH hblk hsz => callsIn_wide.2 (AnyM.slices_Sort_int Tryz.sortI blk off cap ss W hH hblk hsz),
   fun p cap W => callsIn_wide.2 (AnyM.slices_Sort_int_none Tryz.sortI p cap W)⟩
theorem Tryz.sortsS (m : Nat) : AnyZ.SortsIn Tryz.prog Tryz.sortedS_ren Fence.wide m :=
  ⟨fun blk off cap ss W hH hblk hsz => callsIn_wide.2 (AnyM.slices_Sort_string Tryz.sortS blk off cap ss W hH hblk hsz),
   fun p cap W => callsIn_wide.2 (AnyM.slices_Sort_string_none Tryz.sortS p cap W)⟩
theorem Tryz.sortedI_in {H : Type} (b r nn : Nat) (D0 : DataW H) (R : Value → Option (DataW H × List MemPlace)) (w : World) (hb : b < w.heap.size) (hm : w.cell? ⟨b, 0, none⟩ = some (.map (some r)))
    (hown : w.ownsMap Tryz.prog 3 R r nn D0) (hmax : Maps.size D0 ≤ maxLen) (hbytes : Maps.size D0 * 8 ≤ 140737488355328) :
    Calls Tryz.prog 55 #[.func (.func 98) #[] #[.pointer (some ⟨b, 0, none⟩)]] w fun e w' => ∃ (v : Value) (ss : List Int), e = .returned v ∧ ss.Perm (intKeys D0) ∧
      w'.ownsRow w.heap.size 3 1 v ss.length ((ss.mergeSort (fun x y => decide (x ≤ y))).map encZ) ∧ (v = .slice none 0 0 ↔ ss = []) ∧ Below w.heap.size w w' := by
  have hseq : SeqGives Fence.wide 2 Tryz.prog 98 #[.pointer (some ⟨b, 0, none⟩)] encZ (fun ss => ss.Perm (intKeys D0)) (Maps.size D0) w :=
    AnyZI.keys_gives (ρ := Tryz.keysI_ren) { Tryz.keysI with } Fence.wide _ trivial rfl (by omega) b r nn D0 _ hb hm hown
  have cS := AnyZI.sorted_in Tryz.sortedI Fence.wide 5 trivial trivial trivial trivial rfl (by omega) (Tryz.sortsI _) (enters_of Tryz.func97 (by kernel_rfl) rfl) 98 #[.pointer (some ⟨b, 0, none⟩)] trivial (enters_of Tryz.func98 (by kernel_rfl) rfl) _ _ hmax hbytes _ hseq
  exact callsIn_wide.1 cS
theorem Tryz.keysI_in (mb : Option Nat) (w : World) : Calls Tryz.prog 56 #[.map mb] w fun e w' => e = .returned (.func (.func 98) #[] #[.pointer (some ⟨w.heap.size, 0, none⟩)]) ∧ ∃ T, w' = w.alloc (.cells #[.map mb] T) := by
  refine ((callsIn_wide (n := 5)).1 (AnyZI.keys_in Tryz.keysI Fence.wide 5 trivial rfl mb w)).mono ?_
  rintro e w' ⟨rfl, rfl⟩
  exact ⟨rfl, _, rfl⟩
theorem Tryz.sortedS_in {H : Type} (b r nn : Nat) (D0 : DataW H) (R : Value → Option (DataW H × List MemPlace)) (w : World) (hb : b < w.heap.size) (hm : w.cell? ⟨b, 0, none⟩ = some (.map (some r)))
    (hown : w.ownsMap Tryz.prog 9 R r nn D0) (hmax : Maps.size D0 ≤ maxLen) (hbytes : Maps.size D0 * 16 ≤ 140737488355328) :
    Calls Tryz.prog 58 #[.func (.func 102) #[] #[.pointer (some ⟨b, 0, none⟩)]] w fun e w' => ∃ (v : Value) (ss : List (List UInt8)), e = .returned v ∧ ss.Perm (strKeys D0) ∧
      w'.ownsRow w.heap.size 9 1 v ss.length ((ss.mergeSort (fun x y => decide (x ≤ y))).map encStr) ∧ (v = .slice none 0 0 ↔ ss = []) ∧ Below w.heap.size w w' := by
  have hseq : SeqGives Fence.wide 2 Tryz.prog 102 #[.pointer (some ⟨b, 0, none⟩)] encStr (fun ss => ss.Perm (strKeys D0)) (Maps.size D0) w :=
    AnyZ.keys_gives (ρ := Tryz.keysS_ren) { Tryz.keysS with } Fence.wide _ trivial rfl (by omega) b r nn D0 _ hb hm hown
  have cS := AnyZ.sorted_in Tryz.sortedS Fence.wide 5 trivial trivial trivial trivial rfl (by omega) (Tryz.sortsS _) (enters_of Tryz.func71 (by kernel_rfl) rfl) 102 #[.pointer (some ⟨b, 0, none⟩)] trivial (enters_of Tryz.func102 (by kernel_rfl) rfl) _ _ hmax hbytes _ hseq
  exact callsIn_wide.1 cS
theorem Tryz.keysS_in (mb : Option Nat) (w : World) : Calls Tryz.prog 59 #[.map mb] w fun e w' => e = .returned (.func (.func 102) #[] #[.pointer (some ⟨w.heap.size, 0, none⟩)]) ∧ ∃ T, w' = w.alloc (.cells #[.map mb] T) := by
  refine ((callsIn_wide (n := 5)).1 (AnyZ.keys_in Tryz.keysS Fence.wide 5 trivial rfl mb w)).mono ?_
  rintro e w' ⟨rfl, rfl⟩
  exact ⟨rfl, _, rfl⟩
end Go.Proofs
namespace Go.Proofs.YthkmfboffnhkaaaGreatDoor
open Go Go.L1 Go.RowKit Go.Maps
set_option maxRecDepth 100000
set_option maxHeartbeats 4000000

/-- A slice in new memory, from now on for all to read. -/
theorem new_sl {γ : Gh} {st : List SO} {w w' : World} {e : TypeId} {esz : Nat} {v : Value} {xs : List (List C)} {vs : List Value} (hr : RelW γ st w) (hB : Below w.heap.size w w')
    (hown : w'.ownsRow w.heap.size e esz v xs.length vs) (hz : ∀ x ∈ xs, x.length = esz) (hrel : ∀ (i : Nat) c u, xs.flatten[i]? = some c → vs[i]? = some u → RelC γ.pers w c u) :
    ∃ γ' : Gh, RelW γ' st w' ∧ RelV γ' w' (.c (.sl xs)) v ∧ Evo γ.locs.length γ w γ' w' := by
  have hf := hr.frame hB.size hB.block
  have hpk : ∀ b, γ.pers b → w'.heap[b]? = w.heap[b]? := fun b hb => hB.block b (hr.plt b hb)
  obtain ⟨hvl, hc⟩ := hown
  rcases hc with ⟨rfl, h0⟩ | ⟨g, cap, cur, rfl, hbase, hg, hcap, hm, hcs, htake⟩
  · have hx : xs = [] := List.eq_nil_of_length_eq_zero h0
    subst hx
    exact ⟨γ, hf, .c _ _ .nilsl, ⟨rfl, hB.os, hB.tape, hB.output, hB.size, fun b hb _ => hB.block b hb, fun _ h => h, fun _ h _ => .inl h, fun _ h _ => h, .refl _ _⟩⟩
  let γ' : Gh := { γ with pers := fun b => γ.pers b ∨ b = g }
  have hpp : ∀ b, γ.pers b → γ'.pers b := fun b h => .inl h
  have hglt : g < w'.heap.size := (Array.getElem?_eq_some_iff.1 hg).1
  refine ⟨γ', ⟨hf.len, hf.basesz, fun b hb => ⟨.inl (hf.base b hb).1, (hf.base b hb).2⟩, fun b hb => ?_, hf.olt, fun b hb ho' => ?_, hf.inj, hf.two, fun i l o hl ho' => ?_⟩, ?_,
    ⟨rfl, hB.os, hB.tape, hB.output, hB.size, fun b hb _ => hB.block b hb, hpp, fun b hb hlt => ?_, fun b hb _ => hb, .refl _ _⟩⟩
  · rcases hb with h | h
    · exact hf.plt b h
    · rw [h]; exact hglt
  · rcases hb with h | h
    · exact hf.apart b h ho'
    · have := hr.olt b ho'; omega
  · exact RelO.mono (γ := γ) (γ' := γ') hpp (fun _ _ => rfl) (.refl _ _) (fun _ _ => rfl) (hf.objs i l o hl ho')
  · have hcell : ∀ (i : Nat) x (j : Nat) c, xs[i]? = some x → x[j]? = some c → ∃ u, cur[i * esz + j]? = some u ∧ RelC γ.pers w c u := by
      intro i x j c hi hj
      have h1 := rowIdx hz i x j c hi hj
      have hj' := lt_of_some hj
      rw [hz x (List.mem_of_getElem? hi)] at hj'
      have hi' := lt_of_some hi
      have hlt : i * esz + j < xs.length * esz := by
        calc i * esz + j < i * esz + esz := by omega
          _ = (i + 1) * esz := by rw [Nat.add_mul]; omega
          _ ≤ xs.length * esz := Nat.mul_le_mul_right _ (by omega)
      have hlt2 : i * esz + j < vs.length := by omega
      obtain ⟨u, hu⟩ : ∃ u, vs[i * esz + j]? = some u := ⟨_, List.getElem?_eq_getElem hlt2⟩
      refine ⟨u, ?_, hrel _ _ _ h1 hu⟩
      rw [← htake, List.getElem?_take_of_lt hlt] at hu
      simpa [-getElem?_pos] using hu
    refine RelV.c _ _ (.sl xs esz ⟨g, 0, none⟩ xs.length cap (fun i j => cur.getD (i * esz + j) undef) (fun _ => .inr rfl) (fun _ => rfl) rfl hcap hm
      (fun i x hi => hz x (List.mem_of_getElem? hi)) (fun i x j c hi hj => ?_) (fun i x j c hi hj => ?_))
    · obtain ⟨u, hv1, _⟩ := hcell i x j c hi hj
      rw [add_mk]
      simp only [Nat.zero_add]
      unfold World.cell?
      simp only [hg]
      simp [-getElem?_pos, hv1]
    · obtain ⟨u, hv1, hv2⟩ := hcell i x j c hi hj
      have : cur.getD (i * esz + j) undef = u := by simp [-getElem?_pos, hv1]
      rw [this]
      exact hv2.mono hpp hpk
  · rcases hb with h | h
    · exact .inl h
    · omega

theorem one_arg {P : Program} {γ : Gh} {w : World} {v : V} {vals : Array Value} (h3 : vals.size = [v].length) (h4 : ∀ (i : Nat) u x, [v][i]? = some u → vals[i]? = some x → RelV γ w u x) :
    ∃ x, vals = #[x] ∧ RelV γ w v x := by
  obtain ⟨l⟩ := vals
  match l, h3 with
  | [x], _ => exact ⟨x, rfl, h4 0 v x rfl rfl⟩

/-- 'maps.Keys(m)': a function over a box that holds m. -/
theorem keys_of {g F : FuncId} {id : Nat} {st : List SO} (hn : fnB Tryz.prog g = true)
    (h : ∀ mb (w : World), Calls Tryz.prog g #[.map mb] w fun e w' => e = .returned (.func (.func F) #[] #[.pointer (some ⟨w.heap.size, 0, none⟩)]) ∧ ∃ T, w' = w.alloc (.cells #[.map mb] T)) :
    FnOK Tryz.prog GW g [.mref id] st (.clo F [.ptr st.length 0]) (st ++ [.box [.mref id]]) := by
  refine ⟨hn, fun γ w vals h1 h2 h3 h4 => ?_⟩
  obtain ⟨x, rfl, hx⟩ := one_arg (P := Tryz.prog) h3 h4
  cases hx with
  | mref _ r l hl hb =>
    refine (h (some r) w).mono ?_
    rintro e w' ⟨rfl, T, rfl⟩
    have hk : LocsKept γ.locs.length γ (γ.push ⟨.pointer (some ⟨w.heap.size, 0, none⟩), none, 0⟩) := locsKept_push _ _ _
    have hpk : ∀ b, γ.pers b → (w.alloc (.cells #[.map (some r)] T)).heap[b]? = w.heap[b]? := fun b hb => Go.L1.heap_alloc_old w _ b (h1.plt b hb)
    have hrv : RelV (γ.push ⟨.pointer (some ⟨w.heap.size, 0, none⟩), none, 0⟩) (w.alloc (.cells #[.map (some r)] T)) (.mref id) (.map (some r)) :=
      RelV.mono (γ := γ) (γ' := γ.push _) (fun _ h => h) hpk hk (.mref id r l hl hb)
    obtain ⟨k1, k2⟩ := push_obj (l := ⟨.pointer (some ⟨w.heap.size, 0, none⟩), none, 0⟩) (o := .cells #[.map (some r)] T) (so := .box [.mref id]) h1 rfl
      ⟨rfl, w.heap.size, #[.map (some r)], T, rfl, Go.L1.heap_alloc_at w _, rfl, fun i v x hi hx => by
        match i with
        | 0 => simp [-getElem?_pos] at hi hx; subst hi hx; exact ⟨hrv, rfl⟩
        | k + 1 => simp [-getElem?_pos] at hi⟩
    refine ⟨_, _, rfl, k1, .clo _ _ _ rfl (fun i v x hi hx => ?_), evoX_none k2⟩
    match i with
    | 0 =>
      simp [-getElem?_pos] at hi hx
      subst hi hx
      exact RelV.ptr st.length 0 w.heap.size _ (push_get.2 (.inr ⟨h1.len.symm, rfl⟩)) rfl
    | k + 1 => simp [-getElem?_pos] at hi

/-- How a map's elements are read: not at all. -/
def noR : Value → Option (DataW Unit × List MemPlace) := fun _ => some (.nil, [])
theorem rg_noR {P : Program} {k : TypeId} {x : MapEntry} {kl : Lit} (h : keyOf P k x.key = some kl) : WideElems.rg P k noR x = (kl, .nil) := by
  simp [-getElem?_pos, WideElems.rg, WideElems.rd, h, noR]

/-- The function over a box with a map, and the map. -/
theorem clo_map {γ : Gh} {w : World} {st : List SO} {F : FuncId} {bid id : Nat} {ag : Bool} {es : List (List C × List C)} {x : Value} (h1 : RelW γ st w) (hx : RelV γ w (.clo F [.ptr bid 0]) x)
    (hb : st[bid]? = some (.box [.mref id])) (hm : st[id]? = some (.map false ag es)) :
    ∃ b r ents clock, x = .func (.func F) #[] #[.pointer (some ⟨b, 0, none⟩)] ∧ b < w.heap.size ∧ w.cell? ⟨b, 0, none⟩ = some (.map (some r)) ∧ w.heap[r]? = some (.map ents clock) ∧ ents.size = es.length ∧
      (∀ (i : Nat) e y, es[i]? = some e → ents[i]? = some y → RelCells γ.pers w false e.1 y.key) ∧ (∀ (i : Nat) y, ents[i]? = some y → y.born < clock) ∧
      (∀ (i j : Nat) y z, ents[i]? = some y → ents[j]? = some z → y.born = z.born → i = j) := by
  cases hx with
  | clo _ _ vs hl hh =>
    obtain ⟨l⟩ := vs
    match l, hl with
    | [p], _ =>
      have hp := hh 0 _ p rfl rfl
      cases hp with
      | ptr _ _ b loc hloc hbb =>
        obtain ⟨_, b', vs', T, hb', hheap, hrow⟩ := h1.objs bid loc _ hloc hb
        rw [hbb] at hb'
        simp [-getElem?_pos] at hb'
        subst hb'
        obtain ⟨l'⟩ := vs'
        match l', hrow.1 with
        | [q], _ =>
          have hq := (hrow.2 0 _ q rfl rfl).1
          cases hq with
          | mref _ r loc' hloc' hr =>
            obtain ⟨_, r', ents, clock, hr', hmap, hsz, hrel, hborn, hinj⟩ := h1.objs id loc' _ hloc' hm
            rw [hr] at hr'
            simp [-getElem?_pos] at hr'
            subst hr'
            refine ⟨b, r, ents, clock, rfl, h1.olt b ⟨bid, loc, hloc, by unfold Loc.blks; rw [hbb]; simp [-getElem?_pos, blkOf]⟩, ?_, hmap, hsz, fun i e y he hy => (hrel i e y he hy).1, hborn, hinj⟩
            simp [-getElem?_pos, World.cell?, hheap]

theorem nodup_idx {α β : Type} (f : α → β) {l : Array α} (h : ∀ (i j : Nat) y z, l[i]? = some y → l[j]? = some z → f y = f z → i = j) : (l.toList.map f).Nodup := by
  rw [List.nodup_iff_pairwise_ne, List.pairwise_map, List.pairwise_iff_getElem]
  intro i j hi hj hij he
  have := h i j l.toList[i] l.toList[j] (by simp [-getElem?_pos]) (by simp [-getElem?_pos]) he
  omega

theorem nodup_at {α : Type} {l : List α} (h : l.Nodup) {i j : Nat} {a : α} (hi : l[i]? = some a) (hj : l[j]? = some a) : i = j := by
  rw [List.nodup_iff_pairwise_ne, List.pairwise_iff_getElem] at h
  have li := lt_of_some hi
  have lj := lt_of_some hj
  rw [List.getElem?_eq_getElem li] at hi
  rw [List.getElem?_eq_getElem lj] at hj
  injection hi with hi
  injection hj with hj
  rcases Nat.lt_trichotomy i j with q | q | q
  · exact absurd (hi.trans hj.symm) (h i j li lj q)
  · exact q
  · exact absurd (hj.trans hi.symm) (h j i lj li q)
theorem sortedInts_ok (ks : List Int) (es : List (List C × List C)) (hk : es.map (·.1) = ks.map fun k => [I k]) (hnd : ks.Nodup) (hwf : ∀ k ∈ ks, (Lit.int .i64 k).wf = true) (hsz : ks.length ≤ 1000000000) {st : List SO} {bid id : Nat} {ag : Bool}
    (hb : st[bid]? = some (.box [.mref id])) (hm : st[id]? = some (.map false ag es)) :
    FnOK Tryz.prog GW 55 [.clo 98 [.ptr bid 0]] st (.c (.sl ((ks.mergeSort fun x y => decide (x ≤ y)).map fun k => [I k]))) st := by
  refine ⟨by kernel_rfl, fun γ w vals h1 h2 h3 h4 => ?_⟩
  obtain ⟨x, rfl, hx⟩ := one_arg (P := Tryz.prog) h3 h4
  obtain ⟨b, r, ents, clock, rfl, hblt, hcell, hmap, hes, hkey, hborn, hinj⟩ := clo_map h1 hx hb hm
  have hlen : es.length = ks.length := by simpa [-getElem?_pos] using congrArg List.length hk
  have hkeyv : ∀ (i : Nat) y, ents[i]? = some y → ∃ k, ks[i]? = some k ∧ y.key = .int .i64 k := by
    intro i y hy
    have hi : i < es.length := by rw [← hes]; exact (Array.getElem?_eq_some_iff.1 hy).1
    have he : es[i]? = some es[i] := List.getElem?_eq_getElem hi
    have hki : ks[i]? = some (ks[i]'(by omega)) := List.getElem?_eq_getElem _
    have h5 := hkey i _ y he hy
    have h6 : (es.map (·.1))[i]? = some es[i].1 := by rw [List.getElem?_map, he]; rfl
    rw [hk, List.getElem?_map, hki] at h6
    simp only [Option.map_some, Option.some.injEq] at h6
    rw [← h6] at h5
    simp only [RelCells, Bool.false_eq_true, if_false] at h5
    obtain ⟨c, hc, hr⟩ := h5
    simp [-getElem?_pos] at hc
    subst hc
    generalize y.key = q at hr
    cases hr
    exact ⟨_, hki, rfl⟩
  have hko : ∀ y ∈ ents.toList, ∃ k, k ∈ ks ∧ y.key = .int .i64 k ∧ keyOf Tryz.prog 3 y.key = some (.int .i64 k) := by
    intro y hy
    obtain ⟨i, hi⟩ := List.mem_iff_getElem?.1 hy
    obtain ⟨k, hk1, hk2⟩ := hkeyv i y (by simpa [-getElem?_pos] using hi)
    have hkm := List.mem_of_getElem? hk1
    exact ⟨k, hkm, hk2, by rw [hk2]; simp [-getElem?_pos, keyOf, mapKey, Tryz.underlying3, hwf k hkm]⟩
  let E : List (Lit × DataW Unit) := ents.toList.map (WideElems.rg Tryz.prog 3 noR)
  have hEk : E.map (fun p => _root_.Go.intOf p.1) = ks := by
    apply List.ext_getElem?
    intro i
    simp only [E, List.getElem?_map, Array.getElem?_toList]
    cases hy : ents[i]? with
    | none =>
      have : ents.size ≤ i := by simpa [-getElem?_pos] using hy
      rw [List.getElem?_eq_none (by omega)]; rfl
    | some y =>
      obtain ⟨k, hk1, hk2⟩ := hkeyv i y hy
      obtain ⟨k', _, hk3, hk4⟩ := hko y (by rw [← Array.getElem?_toList] at hy; exact List.mem_of_getElem? hy)
      simp only [Option.map_some]
      rw [rg_noR hk4, hk1]
      rw [hk2] at hk3
      simp [-getElem?_pos] at hk3
      simp [-getElem?_pos, _root_.Go.intOf, hk3]
  have hsort := WideShapes.sorted_perm E
  have hown : w.ownsMap Tryz.prog 3 noR r ents.size (.map (E.foldr DataW.insert [])) := by
    refine ⟨ents, clock, hmap, ⟨?_, ⟨?_, nodup_idx _ hinj, nodup_idx _ ?_⟩, ?_⟩, Nat.le_refl _, rfl⟩
    · unfold maxLen; omega
    · intro y hy
      obtain ⟨i, hi⟩ := List.mem_iff_getElem?.1 hy
      exact hborn i y (by simpa [-getElem?_pos] using hi)
    · intro i j y z hy hz he
      obtain ⟨k, hk1, hk2⟩ := hkeyv i y hy
      obtain ⟨k', hk3, hk4⟩ := hkeyv j z hz
      rw [hk2, hk4] at he
      simp [-getElem?_pos] at he
      subst he
      exact nodup_at hnd hk1 hk3
    · intro y hy
      obtain ⟨k, _, _, hk4⟩ := hko y hy
      exact ⟨(.int .i64 k, .nil), by simp [-getElem?_pos, WideElems.rd, hk4, noR]⟩
  have hsize : Maps.size (DataW.map (E.foldr DataW.insert [])) = ks.length := by
    show (E.foldr DataW.insert []).length = _
    rw [hsort.length_eq]
    have := congrArg List.length hEk
    simpa [-getElem?_pos] using this
  refine (Tryz.sortedI_in b r ents.size _ noR w hblt hcell hown (by rw [hsize]; unfold maxLen; omega) (by rw [hsize]; omega)).mono ?_
  rintro e w' ⟨v, ss, rfl, hperm, hrow, _, hB⟩
  have hp2 : ss.Perm ks := by
    refine hperm.trans ?_
    show ((E.foldr DataW.insert []).map fun p => _root_.Go.intOf p.1).Perm ks
    rw [← hEk]
    exact hsort.map _
  have hms : ss.mergeSort (fun x y => decide (x ≤ y)) = ks.mergeSort (fun x y => decide (x ≤ y)) := mergeSort_of_perm_i hp2
  rw [hms] at hrow
  have hl : ss.length = ((ks.mergeSort fun x y => decide (x ≤ y)).map fun k => [I k]).length := by
    rw [List.length_map, (List.mergeSort_perm _ _).length_eq, hp2.length_eq]
  rw [hl] at hrow
  obtain ⟨γ', q1, q2, q3⟩ := new_sl (xs := (ks.mergeSort fun x y => decide (x ≤ y)).map fun k => [I k]) h1 hB hrow (by simp [-getElem?_pos]) (fun i c u hi hu => by
    have hfl : ∀ l : List Int, (l.map fun k => [I k]).flatten = l.map I := by intro l; induction l <;> simp_all
    rw [hfl, List.getElem?_map] at hi
    rw [List.getElem?_map] at hu
    cases hq : (ks.mergeSort fun x y => decide (x ≤ y))[i]? with
    | none => rw [hq] at hi; cases hi
    | some k =>
      rw [hq] at hi hu
      simp only [Option.map_some, Option.some.injEq] at hi hu
      subst hi hu
      exact .int _ _)
  exact ⟨γ', v, rfl, q1, q2, q3⟩
theorem relC_str {pers : Nat → Prop} {w : World} {l : List UInt8} {v : Value} (h : RelC pers w (.str l) v) : v = encStr l := by
  cases h with | str s hs => simp [-getElem?_pos, encStr]
theorem rel_encStr {pers : Nat → Prop} {w : World} (k : List UInt8) (h : k.length ≤ 9223372036854775807) : RelC pers w (.str k) (encStr k) := by
  have := RelC.str (pers := pers) (w := w) ⟨k.toArray⟩ (by simpa [-getElem?_pos, ByteArray.size, maxLen] using h)
  simpa [-getElem?_pos, encStr] using this
theorem sortedStrs_ok (ks : List (List UInt8)) (es : List (List C × List C)) (hk : es.map (·.1) = ks.map fun k => [C.str k]) (hnd : ks.Nodup) (hwf : ∀ k ∈ ks, k.length ≤ 9223372036854775807) (hsz : ks.length ≤ 1000000000) {st : List SO} {bid id : Nat} {ag : Bool}
    (hb : st[bid]? = some (.box [.mref id])) (hm : st[id]? = some (.map false ag es)) :
    FnOK Tryz.prog GW 58 [.clo 102 [.ptr bid 0]] st (.c (.sl ((ks.mergeSort fun x y => decide (x ≤ y)).map fun k => [C.str k]))) st := by
  refine ⟨by kernel_rfl, fun γ w vals h1 h2 h3 h4 => ?_⟩
  obtain ⟨x, rfl, hx⟩ := one_arg (P := Tryz.prog) h3 h4
  obtain ⟨b, r, ents, clock, rfl, hblt, hcell, hmap, hes, hkey, hborn, hinj⟩ := clo_map h1 hx hb hm
  have hlen : es.length = ks.length := by simpa [-getElem?_pos] using congrArg List.length hk
  have hkeyv : ∀ (i : Nat) y, ents[i]? = some y → ∃ k, ks[i]? = some k ∧ y.key = encStr k := by
    intro i y hy
    have hi : i < es.length := by rw [← hes]; exact (Array.getElem?_eq_some_iff.1 hy).1
    have he : es[i]? = some es[i] := List.getElem?_eq_getElem hi
    have hki : ks[i]? = some (ks[i]'(by omega)) := List.getElem?_eq_getElem _
    have h5 := hkey i _ y he hy
    have h6 : (es.map (·.1))[i]? = some es[i].1 := by rw [List.getElem?_map, he]; rfl
    rw [hk, List.getElem?_map, hki] at h6
    simp only [Option.map_some, Option.some.injEq] at h6
    rw [← h6] at h5
    simp only [RelCells, Bool.false_eq_true, if_false] at h5
    obtain ⟨c, hc, hr⟩ := h5
    simp [-getElem?_pos] at hc
    subst hc
    generalize y.key = q at hr
    exact ⟨_, hki, relC_str hr⟩
  have hko : ∀ y ∈ ents.toList, ∃ k, k ∈ ks ∧ y.key = encStr k ∧ keyOf Tryz.prog 9 y.key = some (.string k) := by
    intro y hy
    obtain ⟨i, hi⟩ := List.mem_iff_getElem?.1 hy
    obtain ⟨k, hk1, hk2⟩ := hkeyv i y (by simpa [-getElem?_pos] using hi)
    have hkm := List.mem_of_getElem? hk1
    exact ⟨k, hkm, hk2, by rw [hk2]; simp [-getElem?_pos, encStr, keyOf, mapKey, Tryz.underlying9, maxLen, ByteArray.size]; exact hwf k hkm⟩
  let E : List (Lit × DataW Unit) := ents.toList.map (WideElems.rg Tryz.prog 9 noR)
  have hEk : E.map (fun p => _root_.Go.strOf p.1) = ks := by
    apply List.ext_getElem?
    intro i
    simp only [E, List.getElem?_map, Array.getElem?_toList]
    cases hy : ents[i]? with
    | none =>
      have : ents.size ≤ i := by simpa [-getElem?_pos] using hy
      rw [List.getElem?_eq_none (by omega)]; rfl
    | some y =>
      obtain ⟨k, hk1, hk2⟩ := hkeyv i y hy
      obtain ⟨k', _, hk3, hk4⟩ := hko y (by rw [← Array.getElem?_toList] at hy; exact List.mem_of_getElem? hy)
      simp only [Option.map_some]
      rw [rg_noR hk4, hk1]
      rw [hk2] at hk3
      have hk3 := encStr_inj hk3
      simp [-getElem?_pos, _root_.Go.strOf, hk3]
  have hsort := WideShapes.sorted_perm E
  have hown : w.ownsMap Tryz.prog 9 noR r ents.size (.map (E.foldr DataW.insert [])) := by
    refine ⟨ents, clock, hmap, ⟨?_, ⟨?_, nodup_idx _ hinj, nodup_idx _ ?_⟩, ?_⟩, Nat.le_refl _, rfl⟩
    · unfold maxLen; omega
    · intro y hy
      obtain ⟨i, hi⟩ := List.mem_iff_getElem?.1 hy
      exact hborn i y (by simpa [-getElem?_pos] using hi)
    · intro i j y z hy hz he
      obtain ⟨k, hk1, hk2⟩ := hkeyv i y hy
      obtain ⟨k', hk3, hk4⟩ := hkeyv j z hz
      rw [hk2, hk4] at he
      have he := encStr_inj he
      subst he
      exact nodup_at hnd hk1 hk3
    · intro y hy
      obtain ⟨k, _, _, hk4⟩ := hko y hy
      exact ⟨(.string k, .nil), by simp [-getElem?_pos, WideElems.rd, hk4, noR]⟩
  have hsize : Maps.size (DataW.map (E.foldr DataW.insert [])) = ks.length := by
    show (E.foldr DataW.insert []).length = _
    rw [hsort.length_eq]
    have := congrArg List.length hEk
    simpa [-getElem?_pos] using this
  refine (Tryz.sortedS_in b r ents.size _ noR w hblt hcell hown (by rw [hsize]; unfold maxLen; omega) (by rw [hsize]; omega)).mono ?_
  rintro e w' ⟨v, ss, rfl, hperm, hrow, _, hB⟩
  have hp2 : ss.Perm ks := by
    refine hperm.trans ?_
    show ((E.foldr DataW.insert []).map fun p => _root_.Go.strOf p.1).Perm ks
    rw [← hEk]
    exact hsort.map _
  have hms : ss.mergeSort (fun x y => decide (x ≤ y)) = ks.mergeSort (fun x y => decide (x ≤ y)) := mergeSort_of_perm hp2
  rw [hms] at hrow
  have hl : ss.length = ((ks.mergeSort fun x y => decide (x ≤ y)).map fun k => [C.str k]).length := by
    rw [List.length_map, (List.mergeSort_perm _ _).length_eq, hp2.length_eq]
  rw [hl] at hrow
  obtain ⟨γ', q1, q2, q3⟩ := new_sl (xs := (ks.mergeSort fun x y => decide (x ≤ y)).map fun k => [C.str k]) h1 hB hrow (by simp [-getElem?_pos]) (fun i c u hi hu => by
    have hfl : ∀ l : List (List UInt8), (l.map fun k => [C.str k]).flatten = l.map C.str := by intro l; induction l <;> simp_all
    rw [hfl, List.getElem?_map] at hi
    rw [List.getElem?_map] at hu
    cases hq : (ks.mergeSort fun x y => decide (x ≤ y))[i]? with
    | none => rw [hq] at hi; cases hi
    | some k =>
      rw [hq] at hi hu
      simp only [Option.map_some, Option.some.injEq] at hi hu
      subst hi hu
      exact rel_encStr _ (hwf k ((List.mergeSort_perm _ _).mem_iff.1 (List.mem_of_getElem? hq))))
  exact ⟨γ', v, rfl, q1, q2, q3⟩
end Go.Proofs.YthkmfboffnhkaaaGreatDoor
