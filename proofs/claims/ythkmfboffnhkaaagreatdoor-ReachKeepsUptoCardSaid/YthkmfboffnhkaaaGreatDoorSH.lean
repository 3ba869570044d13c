/-
  Library functions by the shelf's contracts.
-/
import Derived.Test.YthkmfboffnhkaaaGreatDoorSP
import Derived.WalkKit
import Derived.Ground.NamesProg
import Derived.Shelf.Strings.SlTrimAscii
set_option linter.all false
namespace Go.Proofs
open Go.Shelf
def Tryz.lays160_ren : Go.Shelf.Ren := ⟨fun | 160 => 219 | 232 => 236 | 231 => 235 | 227 => 237 | 234 => 239 | 233 => 238 | 236 => 241 | 235 => 240 | 228 => 247 | 271 => 250 | 151 => 249 | 197 => 248 | 120 => 255 | 152 => 254 | 260 => 253 | 137 => 258 | 119 => 259 | 224 => 260 | 225 => 261 | 217 => 263 | 266 => 264 | n => n, fun | 9 => 9 | 4 => 4 | 3 => 3 | 5 => 5 | 117 => 291 | 116 => 290 | 0 => 0 | 124 => 294 | 21 => 21 | 105 => 302 | 46 => 165 | 119 => 308 | 139 => 311 | 138 => 310 | n => n, fun | 3 => 3 | 4 => 4 | n => n⟩
theorem Tryz.lays160 : Go.Proofs.Lays.n160 Tryz.prog Tryz.lays160_ren := {
  mixed := by kernel_rfl,
  f119 := Tryz.func259.trans (congrArg some (by kernel_rfl)),
  f120 := Tryz.func255.trans (congrArg some (by kernel_rfl)),
  f137 := Tryz.func258.trans (congrArg some (by kernel_rfl)),
  f151 := Tryz.func249.trans (congrArg some (by kernel_rfl)),
  f152 := Tryz.func254.trans (congrArg some (by kernel_rfl)),
  f160 := Tryz.func219.trans (congrArg some (by kernel_rfl)),
  f197 := Tryz.func248.trans (congrArg some (by kernel_rfl)),
  f217 := Tryz.func263.trans (congrArg some (by kernel_rfl)),
  f224 := Tryz.func260.trans (congrArg some (by kernel_rfl)),
  f225 := Tryz.func261.trans (congrArg some (by kernel_rfl)),
  f227 := Tryz.func237.trans (congrArg some (by kernel_rfl)),
  f228 := Tryz.func247.trans (congrArg some (by kernel_rfl)),
  f231 := Tryz.func235.trans (congrArg some (by kernel_rfl)),
  f232 := Tryz.func236.trans (congrArg some (by kernel_rfl)),
  f233 := Tryz.func238.trans (congrArg some (by kernel_rfl)),
  f234 := Tryz.func239.trans (congrArg some (by kernel_rfl)),
  f235 := Tryz.func240.trans (congrArg some (by kernel_rfl)),
  f236 := Tryz.func241.trans (congrArg some (by kernel_rfl)),
  f260 := Tryz.func253.trans (congrArg some (by kernel_rfl)),
  f266 := Tryz.func264.trans (congrArg some (by kernel_rfl)),
  f271 := Tryz.func250.trans (congrArg some (by kernel_rfl)),
  t0 := Tryz.underlying0,
  a0 := Tryz.isAgg0,
  z0 := Tryz.sizeOf0,
  v0 := Tryz.zeroValue0,
  t3 := Tryz.underlying3,
  a3 := Tryz.isAgg3,
  z3 := Tryz.sizeOf3,
  v3 := Tryz.zeroValue3,
  t4 := Tryz.underlying4,
  a4 := Tryz.isAgg4,
  z4 := Tryz.sizeOf4,
  v4 := Tryz.zeroValue4,
  t5 := Tryz.underlying5,
  a5 := Tryz.isAgg5,
  z5 := Tryz.sizeOf5,
  v5 := Tryz.zeroValue5,
  t9 := Tryz.underlying9,
  a9 := Tryz.isAgg9,
  z9 := Tryz.sizeOf9,
  v9 := Tryz.zeroValue9,
  t21 := Tryz.underlying21,
  a21 := Tryz.isAgg21,
  z21 := Tryz.sizeOf21,
  v21 := Tryz.zeroValue21,
  t46 := Tryz.underlying165,
  a46 := Tryz.isAgg165,
  z46 := Tryz.sizeOf165,
  v46 := Tryz.zeroValue165,
  t105 := Tryz.underlying302,
  a105 := Tryz.isAgg302,
  z105 := Tryz.sizeOf302,
  v105 := Tryz.zeroValue302,
  t116 := Tryz.underlying290,
  a116 := Tryz.isAgg290,
  z116 := Tryz.sizeOf290,
  t117 := Tryz.underlying291,
  a117 := Tryz.isAgg291,
  z117 := Tryz.sizeOf291,
  v117 := Tryz.zeroValue291,
  t119 := Tryz.underlying308,
  a119 := Tryz.isAgg308,
  z119 := Tryz.sizeOf308,
  t124 := Tryz.underlying294,
  a124 := Tryz.isAgg294,
  z124 := Tryz.sizeOf294,
  v124 := Tryz.zeroValue294,
  t138 := Tryz.underlying310,
  a138 := Tryz.isAgg310,
  z138 := Tryz.sizeOf310,
  v138 := Tryz.zeroValue310,
  t139 := Tryz.underlying311,
  a139 := Tryz.isAgg311,
  z139 := Tryz.sizeOf311,
  v139 := Tryz.zeroValue311,
  g3 := by kernel_rfl,
  g4 := by kernel_rfl }
end Go.Proofs
namespace Go.Proofs.YthkmfboffnhkaaaGreatDoor
open Go Go.L1 Go.RowKit
set_option maxRecDepth 100000

/-- A function that leaves every block as it was. -/
theorem fn_below {P : Program} {G : World → Prop} {g : FuncId} {args : List V} {st : List SO} {res : V} (hn : fnB P g = true)
    (h : ∀ γ w (vals : Array Value), RelW γ st w → G γ.base → vals.size = args.length → (∀ (i : Nat) v x, args[i]? = some v → vals[i]? = some x → RelV γ w v x) →
      Calls P g vals w fun e w' => ∃ x, e = .returned x ∧ Below w.heap.size w w' ∧ RelV γ w' res x) : FnOK P G g args st res st := by
  refine ⟨hn, fun γ w vals h1 h2 h3 h4 => (h γ w vals h1 h2 h3 h4).mono ?_⟩
  rintro e w' ⟨x, rfl, hB, hr⟩
  exact ⟨γ, x, rfl, h1.frame hB.size hB.block, hr, ⟨rfl, hB.os, hB.tape, hB.output, hB.size, fun b hb _ => hB.block b hb, fun _ h => h, fun _ h _ => .inl h, fun _ h _ => h, .refl _ _⟩⟩

def hexDigits : List UInt8 := [48, 49, 50, 51, 52, 53, 54, 55, 56, 57, 97, 98, 99, 100, 101, 102]
theorem rel_strL {γ : Gh} {w : World} (l : List UInt8) (h : l.length ≤ maxLen) : RelV γ w (.c (.str l)) (.string ⟨l.toArray⟩) := by
  have := RelC.str (pers := γ.pers) (w := w) ⟨l.toArray⟩ (by simpa [-getElem?_pos, ByteArray.size] using h)
  simpa [-getElem?_pos] using RelV.c _ _ this
theorem trim_ok (t : List UInt8) (s : List SO) : FnOK Tryz.prog GW 219 [.c (.str t), .c (.str hexDigits)] s (.c (.str (Lib.trimS t hexDigits))) s := by
  refine fn_below (by kernel_rfl) fun γ w vals h1 h2 h3 h4 => ?_
  obtain ⟨a, b, rfl⟩ : ∃ a b, vals = #[a, b] := by
    obtain ⟨l⟩ := vals
    match l, h3 with
    | [a, b], _ => exact ⟨a, b, rfl⟩
  obtain ⟨sa, rfl, rfl, hsa⟩ := rel_str (h4 0 _ _ rfl rfl)
  obtain ⟨sb, rfl, hsb, _⟩ := rel_str (h4 1 _ _ rfl rfl)
  have hb : sb = ⟨hexDigits.toArray⟩ := by
    obtain ⟨⟨l⟩⟩ := sb
    simp [-getElem?_pos] at hsb
    rw [hsb]
  subst hb
  have hcon := Any.strings_Trim_laid Tryz.lays160 (by kernel_rfl) sa ⟨hexDigits.toArray⟩ w (by unfold maxLen at hsa; omega) (by decide) (ascii_of_all (by decide))
  refine Calls.mono (show Calls Tryz.prog 219 _ _ _ from hcon) ?_
  rintro e w' ⟨rfl, hB⟩
  refine ⟨_, rfl, hB, rel_strL _ ?_⟩
  refine Nat.le_trans (Nat.le_trans (List.dropWhile_sublist _).length_le ?_) (by simpa [-getElem?_pos] using hsa)
  unfold Lib.trimRightS
  rw [List.length_reverse]
  refine Nat.le_trans (List.dropWhile_sublist _).length_le (by simp [-getElem?_pos])
end Go.Proofs.YthkmfboffnhkaaaGreatDoor
