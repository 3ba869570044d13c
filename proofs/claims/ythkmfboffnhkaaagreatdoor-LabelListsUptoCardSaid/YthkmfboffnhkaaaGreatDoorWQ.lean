/-
  Walks: LabelLists.
-/
import Derived.Test.YthkmfboffnhkaaaGreatDoorWP
import Derived.Test.YthkmfboffnhkaaaGreatDoorTO
set_option linter.all false
namespace Go.Proofs.YthkmfboffnhkaaaGreatDoor
open Go Go.L1
set_option maxRecDepth 100000
set_option maxHeartbeats 4000000

theorem validNil_ok (cs : List Chain) (b : Str) (hcs : cs.length ≤ 1000000000) (s : List SO) : FnOK Tryz.prog GW 26 [chains cs, .c (.str b), .c (.str [])] s (.c (texts [])) s := by
  refine label_Valid_pu { frz := [(999, [6])] } (by simp [-getElem?_pos]) rfl ?_
  simp [-getElem?_pos, List.lookup, label_Valid_R0, label_Valid_R1, label_Valid_R2, label_Valid_R3, label_Valid_R4, label_Valid_R5, label_Valid_R6, label_Valid_R7, label_Valid_R8, label_Valid_R9, label_Valid_R10, label_Valid_R11, label_Valid_R12, label_Valid_R13, label_Valid_R14, label_Valid_R15, label_Valid_B2, label_Valid_B1, label_Valid_R16, label_Valid_W1, label_Valid_B0, label_Valid_R17, label_Valid_L, label_Valid_ks, mixed, chains]
  refine callW0 (res := findR cs b) (find_ok cs (by omega) b) rfl ?_
  simp only [findR]
  generalize (findS cs b).isSome = ok
  generalize findC cs b = cc
  simp [-getElem?_pos, List.lookup, label_Valid_R0, label_Valid_R1, label_Valid_R2, label_Valid_R3, label_Valid_R4, label_Valid_R5, label_Valid_R6, label_Valid_R7, label_Valid_R8, label_Valid_R9, label_Valid_R10, label_Valid_R11, label_Valid_R12, label_Valid_R13, label_Valid_R14, label_Valid_R15, label_Valid_B2, label_Valid_B1, label_Valid_R16, label_Valid_W1, label_Valid_B0, label_Valid_R17, label_Valid_L, label_Valid_ks, mixed, agg, Chain.cells]
  exact exY_i true ⟨fun _ => rfl, fun _ => rfl, fun _ h => by cases h⟩
def isGiv (t x : Str) (a : Act) : Bool := a.kind == 17 && a.text == x && (a.object == t || a.target == t)
def anyN (p : Act → Bool) (acts : List Act) (n : Nat) : Bool := (acts.take n).any p
theorem anyN_succ {p : Act → Bool} {acts : List Act} {n : Nat} {a : Act} (h : acts[n]? = some a) : anyN p acts (n + 1) = (anyN p acts n || p a) := by
  unfold anyN
  rw [List.take_add_one, h, List.any_append]
  simp [-getElem?_pos]
theorem anyN_all (p : Act → Bool) (acts : List Act) : anyN p acts acts.length = acts.any p := by unfold anyN; rw [List.take_length]
def actB (a : Act) : List V := [.c (.str a.author), .c (I a.seq), .c (.str a.prev), .c (I a.kind), .c (I a.time), .c (.str a.object), .c (.str a.target), .c (I a.scope), .c (.str a.group), .c (texts a.to), .c (.str a.text),
  .c (.str a.body.nonce), .c (.str a.body.data), .c (.str a.body.tag), .c (I a.epoch), .c (.sl (a.wraps.map Wrap.cells)), .c (I a.n), .c (I a.m), .c (I a.sigE), .c (I a.sigS)]
def chainB (c : Chain) : List V := [.c (.str c.id), .c (.sl (c.acts.map Act.cells)), .c (.sl (c.keys.map KeyAt.cells)), .c (.str c.prev), .c (I c.gen), .c (.bool c.fork)]
theorem less_i {a b : Str} (h : a < b) : Op.bytesLess a b = true := by rw [bytesLess_eq]; simpa [-getElem?_pos] using h
def isUndo (a : Act) : Bool := a.kind == 6
theorem lists34_ok (cs : List Chain) (b t : Str) (hcs : cs.length ≤ 1000000000) (hf : fewS cs = true → FitsAll cs) (s : List SO) :
    FnOK Tryz.prog GW 7 [chains cs, .c (.str b), .c (.str t)] s (.c (.bool true)) s := by
  refine agoralaw34_LabelLists_pu {} (by simp [-getElem?_pos]) rfl ?_
  simp [-getElem?_pos, agoralaw34_LabelLists_R0, agoralaw34_LabelLists_R1, agoralaw34_LabelLists_R2, agoralaw34_LabelLists_R3, agoralaw34_LabelLists_R4, agoralaw34_LabelLists_R5, agoralaw34_LabelLists_R6, agoralaw34_LabelLists_R7, agoralaw34_LabelLists_R8, agoralaw34_LabelLists_R9, agoralaw34_LabelLists_R10, agoralaw34_LabelLists_R12, agoralaw34_LabelLists_B1, agoralaw34_LabelLists_R11, agoralaw34_LabelLists_W1, agoralaw34_LabelLists_B0, agoralaw34_LabelLists_R13, agoralaw34_LabelLists_R14, agoralaw34_LabelLists_R16, agoralaw34_LabelLists_R17, agoralaw34_LabelLists_R18, agoralaw34_LabelLists_R20, agoralaw34_LabelLists_R21, agoralaw34_LabelLists_B5, agoralaw34_LabelLists_R19, agoralaw34_LabelLists_W2, agoralaw34_LabelLists_B4, agoralaw34_LabelLists_R22, agoralaw34_LabelLists_R23, agoralaw34_LabelLists_B3, agoralaw34_LabelLists_R15, agoralaw34_LabelLists_W3, agoralaw34_LabelLists_B2, agoralaw34_LabelLists_R24, agoralaw34_LabelLists_R25, agoralaw34_LabelLists_R27, agoralaw34_LabelLists_R28, agoralaw34_LabelLists_R29, agoralaw34_LabelLists_B7, agoralaw34_LabelLists_R26, agoralaw34_LabelLists_W4, agoralaw34_LabelLists_B6, agoralaw34_LabelLists_R30, agoralaw34_LabelLists_L, agoralaw34_LabelLists_ks, mixed, chains]
  refine callW0 (res := .c (.bool true)) (fun s => small34_ok s) rfl ?_
  simp [-getElem?_pos, agoralaw34_LabelLists_R0, agoralaw34_LabelLists_R1, agoralaw34_LabelLists_R2, agoralaw34_LabelLists_R3, agoralaw34_LabelLists_R4, agoralaw34_LabelLists_R5, agoralaw34_LabelLists_R6, agoralaw34_LabelLists_R7, agoralaw34_LabelLists_R8, agoralaw34_LabelLists_R9, agoralaw34_LabelLists_R10, agoralaw34_LabelLists_R12, agoralaw34_LabelLists_B1, agoralaw34_LabelLists_R11, agoralaw34_LabelLists_W1, agoralaw34_LabelLists_B0, agoralaw34_LabelLists_R13, agoralaw34_LabelLists_R14, agoralaw34_LabelLists_R16, agoralaw34_LabelLists_R17, agoralaw34_LabelLists_R18, agoralaw34_LabelLists_R20, agoralaw34_LabelLists_R21, agoralaw34_LabelLists_B5, agoralaw34_LabelLists_R19, agoralaw34_LabelLists_W2, agoralaw34_LabelLists_B4, agoralaw34_LabelLists_R22, agoralaw34_LabelLists_R23, agoralaw34_LabelLists_B3, agoralaw34_LabelLists_R15, agoralaw34_LabelLists_W3, agoralaw34_LabelLists_B2, agoralaw34_LabelLists_R24, agoralaw34_LabelLists_R25, agoralaw34_LabelLists_R27, agoralaw34_LabelLists_R28, agoralaw34_LabelLists_R29, agoralaw34_LabelLists_B7, agoralaw34_LabelLists_R26, agoralaw34_LabelLists_W4, agoralaw34_LabelLists_B6, agoralaw34_LabelLists_R30, agoralaw34_LabelLists_L, agoralaw34_LabelLists_ks, mixed, chains]
  refine callW0 (few34_ok cs hcs) rfl ?_
  simp [-getElem?_pos, agoralaw34_LabelLists_R0, agoralaw34_LabelLists_R1, agoralaw34_LabelLists_R2, agoralaw34_LabelLists_R3, agoralaw34_LabelLists_R4, agoralaw34_LabelLists_R5, agoralaw34_LabelLists_R6, agoralaw34_LabelLists_R7, agoralaw34_LabelLists_R8, agoralaw34_LabelLists_R9, agoralaw34_LabelLists_R10, agoralaw34_LabelLists_R12, agoralaw34_LabelLists_B1, agoralaw34_LabelLists_R11, agoralaw34_LabelLists_W1, agoralaw34_LabelLists_B0, agoralaw34_LabelLists_R13, agoralaw34_LabelLists_R14, agoralaw34_LabelLists_R16, agoralaw34_LabelLists_R17, agoralaw34_LabelLists_R18, agoralaw34_LabelLists_R20, agoralaw34_LabelLists_R21, agoralaw34_LabelLists_B5, agoralaw34_LabelLists_R19, agoralaw34_LabelLists_W2, agoralaw34_LabelLists_B4, agoralaw34_LabelLists_R22, agoralaw34_LabelLists_R23, agoralaw34_LabelLists_B3, agoralaw34_LabelLists_R15, agoralaw34_LabelLists_W3, agoralaw34_LabelLists_B2, agoralaw34_LabelLists_R24, agoralaw34_LabelLists_R25, agoralaw34_LabelLists_R27, agoralaw34_LabelLists_R28, agoralaw34_LabelLists_R29, agoralaw34_LabelLists_B7, agoralaw34_LabelLists_R26, agoralaw34_LabelLists_W4, agoralaw34_LabelLists_B6, agoralaw34_LabelLists_R30, agoralaw34_LabelLists_L, agoralaw34_LabelLists_ks, mixed, chains]
  refine exY_i (t == []) ⟨fun _ => by first | rfl | simp [-getElem?_pos], fun h => ?_, fun hw ht => ?_⟩
  · refine exY_i true ⟨?_, rfl⟩
    refine callW0 (validNil_ok cs b hcs) rfl ?_
    simp [-getElem?_pos, agoralaw34_LabelLists_R0, agoralaw34_LabelLists_R1, agoralaw34_LabelLists_R2, agoralaw34_LabelLists_R3, agoralaw34_LabelLists_R4, agoralaw34_LabelLists_R5, agoralaw34_LabelLists_R6, agoralaw34_LabelLists_R7, agoralaw34_LabelLists_R8, agoralaw34_LabelLists_R9, agoralaw34_LabelLists_R10, agoralaw34_LabelLists_R12, agoralaw34_LabelLists_B1, agoralaw34_LabelLists_R11, agoralaw34_LabelLists_W1, agoralaw34_LabelLists_B0, agoralaw34_LabelLists_R13, agoralaw34_LabelLists_R14, agoralaw34_LabelLists_R16, agoralaw34_LabelLists_R17, agoralaw34_LabelLists_R18, agoralaw34_LabelLists_R20, agoralaw34_LabelLists_R21, agoralaw34_LabelLists_B5, agoralaw34_LabelLists_R19, agoralaw34_LabelLists_W2, agoralaw34_LabelLists_B4, agoralaw34_LabelLists_R22, agoralaw34_LabelLists_R23, agoralaw34_LabelLists_B3, agoralaw34_LabelLists_R15, agoralaw34_LabelLists_W3, agoralaw34_LabelLists_B2, agoralaw34_LabelLists_R24, agoralaw34_LabelLists_R25, agoralaw34_LabelLists_R27, agoralaw34_LabelLists_R28, agoralaw34_LabelLists_R29, agoralaw34_LabelLists_B7, agoralaw34_LabelLists_R26, agoralaw34_LabelLists_W4, agoralaw34_LabelLists_B6, agoralaw34_LabelLists_R30, agoralaw34_LabelLists_L, agoralaw34_LabelLists_ks, texts]
  have ht' : ¬ t = [] := by simpa [-getElem?_pos] using ht
  replace hf := hf hw
  refine callW0 (res := findR cs b) (find_ok cs (by omega) b) rfl ?_
  have hno : (findS cs b).isSome = false → (findC cs b).acts = [] := fun h => by
    unfold findC
    cases hq : findS cs b with
    | none => rfl
    | some c => rw [hq] at h; cases h
  have hacts := few_acts hw b
  have hall : (findC cs b).acts.any isUndo = false → ∀ a ∈ (findC cs b).acts, a.kind = 17 → (a.object = t ∨ a.target = t) → a.text ∈ validS digestS cs b t := fun hu a ha hk ho =>
    validS_all ht' (fun c hc h6 => by
      have := List.any_eq_false.1 hu c hc
      simp [-getElem?_pos, isUndo, h6] at this) ha hk ho
  have hgiv : ∀ x ∈ validS digestS cs b t, (findC cs b).acts.any (isGiv t x) = true := fun x hx => by
    obtain ⟨a, ha, h1, h2, h3⟩ := validS_mem hx
    exact List.any_eq_true.2 ⟨a, ha, by simp [-getElem?_pos, isGiv, h1, h2, h3]⟩
  have hlt := validS_lt digestS cs b t
  have hvl := validS_len digestS cs b t
  have hvnil : (findC cs b).acts = [] → validS digestS cs b t = [] := fun h => by
    unfold validS
    rw [if_neg ht', h]
    simp [-getElem?_pos, validA, givenN, placeN, ascS, sorted, dedupA]
  have hvok := fun s' => valid_ok cs b t hcs (fits_find hf b) (by omega) s'
  simp only [findR]
  generalize (findS cs b).isSome = ok at hno ⊢
  generalize findC cs b = cc at hacts hall hgiv hvl hno hvnil ⊢
  simp [-getElem?_pos, agoralaw34_LabelLists_R0, agoralaw34_LabelLists_R1, agoralaw34_LabelLists_R2, agoralaw34_LabelLists_R3, agoralaw34_LabelLists_R4, agoralaw34_LabelLists_R5, agoralaw34_LabelLists_R6, agoralaw34_LabelLists_R7, agoralaw34_LabelLists_R8, agoralaw34_LabelLists_R9, agoralaw34_LabelLists_R10, agoralaw34_LabelLists_R12, agoralaw34_LabelLists_B1, agoralaw34_LabelLists_R11, agoralaw34_LabelLists_W1, agoralaw34_LabelLists_B0, agoralaw34_LabelLists_R13, agoralaw34_LabelLists_R14, agoralaw34_LabelLists_R16, agoralaw34_LabelLists_R17, agoralaw34_LabelLists_R18, agoralaw34_LabelLists_R20, agoralaw34_LabelLists_R21, agoralaw34_LabelLists_B5, agoralaw34_LabelLists_R19, agoralaw34_LabelLists_W2, agoralaw34_LabelLists_B4, agoralaw34_LabelLists_R22, agoralaw34_LabelLists_R23, agoralaw34_LabelLists_B3, agoralaw34_LabelLists_R15, agoralaw34_LabelLists_W3, agoralaw34_LabelLists_B2, agoralaw34_LabelLists_R24, agoralaw34_LabelLists_R25, agoralaw34_LabelLists_R27, agoralaw34_LabelLists_R28, agoralaw34_LabelLists_R29, agoralaw34_LabelLists_B7, agoralaw34_LabelLists_R26, agoralaw34_LabelLists_W4, agoralaw34_LabelLists_B6, agoralaw34_LabelLists_R30, agoralaw34_LabelLists_L, agoralaw34_LabelLists_ks, mixed, agg, Chain.cells, chains]
  refine callW0 hvok rfl ?_
  generalize validS digestS cs b t = v at hall hgiv hlt hvl hvnil
  simp [-getElem?_pos, agoralaw34_LabelLists_R0, agoralaw34_LabelLists_R1, agoralaw34_LabelLists_R2, agoralaw34_LabelLists_R3, agoralaw34_LabelLists_R4, agoralaw34_LabelLists_R5, agoralaw34_LabelLists_R6, agoralaw34_LabelLists_R7, agoralaw34_LabelLists_R8, agoralaw34_LabelLists_R9, agoralaw34_LabelLists_R10, agoralaw34_LabelLists_R12, agoralaw34_LabelLists_B1, agoralaw34_LabelLists_R11, agoralaw34_LabelLists_W1, agoralaw34_LabelLists_B0, agoralaw34_LabelLists_R13, agoralaw34_LabelLists_R14, agoralaw34_LabelLists_R16, agoralaw34_LabelLists_R17, agoralaw34_LabelLists_R18, agoralaw34_LabelLists_R20, agoralaw34_LabelLists_R21, agoralaw34_LabelLists_B5, agoralaw34_LabelLists_R19, agoralaw34_LabelLists_W2, agoralaw34_LabelLists_B4, agoralaw34_LabelLists_R22, agoralaw34_LabelLists_R23, agoralaw34_LabelLists_B3, agoralaw34_LabelLists_R15, agoralaw34_LabelLists_W3, agoralaw34_LabelLists_B2, agoralaw34_LabelLists_R24, agoralaw34_LabelLists_R25, agoralaw34_LabelLists_R27, agoralaw34_LabelLists_R28, agoralaw34_LabelLists_R29, agoralaw34_LabelLists_B7, agoralaw34_LabelLists_R26, agoralaw34_LabelLists_W4, agoralaw34_LabelLists_B6, agoralaw34_LabelLists_R30, agoralaw34_LabelLists_L, agoralaw34_LabelLists_ks, mixed, texts, chains]
  refine ⟨fun hok => exY_i true ⟨by rw [hvnil (hno hok)]; rfl, rfl⟩, fun hok => ?_⟩
  refine loopM_intro (fun m e st => ∃ i : Nat, m = cc.acts.length - i ∧ i ≤ cc.acts.length ∧ st = s ∧
    e = [(12, .c (I i)), (11, .c (.bool (anyN isUndo cc.acts i))), (10, .c (texts v)), (8, .box (chainB cc)), (7, .c (.bool true)), (2, .c (.str t))]) cc.acts.length _ ?_ ⟨0, rfl, Nat.zero_le _, rfl, rfl⟩ ?_
  · simp [-getElem?_pos, texts, chainB, anyN]
  rintro m e st ⟨i, rfl, hi, rfl, rfl⟩
  by_cases h : i < cc.acts.length
  · obtain ⟨a, ha⟩ := get_of_lt h
    have hw := wrap_succ h (by omega)
    have hu := anyN_succ (p := isUndo) ha
    simp (config := { maxSteps := 10000000 }) [-getElem?_pos, agoralaw34_LabelLists_R0, agoralaw34_LabelLists_R1, agoralaw34_LabelLists_R2, agoralaw34_LabelLists_R3, agoralaw34_LabelLists_R4, agoralaw34_LabelLists_R5, agoralaw34_LabelLists_R6, agoralaw34_LabelLists_R7, agoralaw34_LabelLists_R8, agoralaw34_LabelLists_R9, agoralaw34_LabelLists_R10, agoralaw34_LabelLists_R12, agoralaw34_LabelLists_B1, agoralaw34_LabelLists_R11, agoralaw34_LabelLists_W1, agoralaw34_LabelLists_B0, agoralaw34_LabelLists_R13, agoralaw34_LabelLists_R14, agoralaw34_LabelLists_R16, agoralaw34_LabelLists_R17, agoralaw34_LabelLists_R18, agoralaw34_LabelLists_R20, agoralaw34_LabelLists_R21, agoralaw34_LabelLists_B5, agoralaw34_LabelLists_R19, agoralaw34_LabelLists_W2, agoralaw34_LabelLists_B4, agoralaw34_LabelLists_R22, agoralaw34_LabelLists_R23, agoralaw34_LabelLists_B3, agoralaw34_LabelLists_R15, agoralaw34_LabelLists_W3, agoralaw34_LabelLists_B2, agoralaw34_LabelLists_R24, agoralaw34_LabelLists_R25, agoralaw34_LabelLists_R27, agoralaw34_LabelLists_R28, agoralaw34_LabelLists_R29, agoralaw34_LabelLists_B7, agoralaw34_LabelLists_R26, agoralaw34_LabelLists_W4, agoralaw34_LabelLists_B6, agoralaw34_LabelLists_R30, agoralaw34_LabelLists_L, agoralaw34_LabelLists_ks, mixed, texts, chains, chainB, actB, Act.cells, h, ha]
    refine exY_i (isUndo a) ⟨fun _ => rfl, againM_i _ _ ?_ ?_ ⟨i + 1, rfl, h, rfl, rfl⟩⟩
    · omega
    · simp [-getElem?_pos, hw, hu, texts, chainB]
      try rfl
  have hie : i = cc.acts.length := by omega
  subst hie
  rw [anyN_all]
  generalize cc.acts.any isUndo = u at hall
  simp (config := { maxSteps := 10000000 }) [-getElem?_pos, agoralaw34_LabelLists_R0, agoralaw34_LabelLists_R1, agoralaw34_LabelLists_R2, agoralaw34_LabelLists_R3, agoralaw34_LabelLists_R4, agoralaw34_LabelLists_R5, agoralaw34_LabelLists_R6, agoralaw34_LabelLists_R7, agoralaw34_LabelLists_R8, agoralaw34_LabelLists_R9, agoralaw34_LabelLists_R10, agoralaw34_LabelLists_R12, agoralaw34_LabelLists_B1, agoralaw34_LabelLists_R11, agoralaw34_LabelLists_W1, agoralaw34_LabelLists_B0, agoralaw34_LabelLists_R13, agoralaw34_LabelLists_R14, agoralaw34_LabelLists_R16, agoralaw34_LabelLists_R17, agoralaw34_LabelLists_R18, agoralaw34_LabelLists_R20, agoralaw34_LabelLists_R21, agoralaw34_LabelLists_B5, agoralaw34_LabelLists_R19, agoralaw34_LabelLists_W2, agoralaw34_LabelLists_B4, agoralaw34_LabelLists_R22, agoralaw34_LabelLists_R23, agoralaw34_LabelLists_B3, agoralaw34_LabelLists_R15, agoralaw34_LabelLists_W3, agoralaw34_LabelLists_B2, agoralaw34_LabelLists_R24, agoralaw34_LabelLists_R25, agoralaw34_LabelLists_R27, agoralaw34_LabelLists_R28, agoralaw34_LabelLists_R29, agoralaw34_LabelLists_B7, agoralaw34_LabelLists_R26, agoralaw34_LabelLists_W4, agoralaw34_LabelLists_B6, agoralaw34_LabelLists_R30, agoralaw34_LabelLists_L, agoralaw34_LabelLists_ks, mixed, texts, chains, chainB, actB, Act.cells]
  refine loopM_intro (fun m e st' => ∃ i : Nat, m = v.length - i ∧ i ≤ v.length ∧ st' = st ∧
    e = [(13, .c (I i)), (11, .c (.bool u)), (10, .c (texts v)), (8, .box (chainB cc)), (7, .c (.bool true)), (2, .c (.str t))]) v.length _ ?_ ⟨0, rfl, Nat.zero_le _, rfl, rfl⟩ ?_
  · simp [-getElem?_pos, texts, chainB]
  rintro m e st' ⟨i, rfl, hi, rfl, rfl⟩
  by_cases h : i < v.length
  · obtain ⟨x, hx⟩ := get_of_lt h
    have hw := wrap_succ h (by omega)
    have hg := hgiv x (List.mem_of_getElem? hx)
    simp (config := { maxSteps := 10000000 }) [-getElem?_pos, agoralaw34_LabelLists_R0, agoralaw34_LabelLists_R1, agoralaw34_LabelLists_R2, agoralaw34_LabelLists_R3, agoralaw34_LabelLists_R4, agoralaw34_LabelLists_R5, agoralaw34_LabelLists_R6, agoralaw34_LabelLists_R7, agoralaw34_LabelLists_R8, agoralaw34_LabelLists_R9, agoralaw34_LabelLists_R10, agoralaw34_LabelLists_R12, agoralaw34_LabelLists_B1, agoralaw34_LabelLists_R11, agoralaw34_LabelLists_W1, agoralaw34_LabelLists_B0, agoralaw34_LabelLists_R13, agoralaw34_LabelLists_R14, agoralaw34_LabelLists_R16, agoralaw34_LabelLists_R17, agoralaw34_LabelLists_R18, agoralaw34_LabelLists_R20, agoralaw34_LabelLists_R21, agoralaw34_LabelLists_B5, agoralaw34_LabelLists_R19, agoralaw34_LabelLists_W2, agoralaw34_LabelLists_B4, agoralaw34_LabelLists_R22, agoralaw34_LabelLists_R23, agoralaw34_LabelLists_B3, agoralaw34_LabelLists_R15, agoralaw34_LabelLists_W3, agoralaw34_LabelLists_B2, agoralaw34_LabelLists_R24, agoralaw34_LabelLists_R25, agoralaw34_LabelLists_R27, agoralaw34_LabelLists_R28, agoralaw34_LabelLists_R29, agoralaw34_LabelLists_B7, agoralaw34_LabelLists_R26, agoralaw34_LabelLists_W4, agoralaw34_LabelLists_B6, agoralaw34_LabelLists_R30, agoralaw34_LabelLists_L, agoralaw34_LabelLists_ks, mixed, texts, chains, chainB, actB, Act.cells, h, hx]
    refine loopM_intro (fun m e st => ∃ k : Nat, m = cc.acts.length - k ∧ k ≤ cc.acts.length ∧ st = st' ∧
      e = [(15, .c (I k)), (14, .c (.bool (anyN (isGiv t x) cc.acts k))), (13, .c (I i)), (11, .c (.bool u)), (10, .c (texts v)), (8, .box (chainB cc)), (7, .c (.bool true)), (2, .c (.str t))]) cc.acts.length _ ?_ ⟨0, rfl, Nat.zero_le _, rfl, rfl⟩ ?_
    · simp [-getElem?_pos, texts, chainB, anyN]
    rintro m e st ⟨k, rfl, hk, rfl, rfl⟩
    by_cases hkl : k < cc.acts.length
    · obtain ⟨a, ha⟩ := get_of_lt hkl
      have hwk := wrap_succ hkl (by omega)
      have hgs := anyN_succ (p := isGiv t x) ha
      simp (config := { maxSteps := 10000000 }) [-getElem?_pos, agoralaw34_LabelLists_R0, agoralaw34_LabelLists_R1, agoralaw34_LabelLists_R2, agoralaw34_LabelLists_R3, agoralaw34_LabelLists_R4, agoralaw34_LabelLists_R5, agoralaw34_LabelLists_R6, agoralaw34_LabelLists_R7, agoralaw34_LabelLists_R8, agoralaw34_LabelLists_R9, agoralaw34_LabelLists_R10, agoralaw34_LabelLists_R12, agoralaw34_LabelLists_B1, agoralaw34_LabelLists_R11, agoralaw34_LabelLists_W1, agoralaw34_LabelLists_B0, agoralaw34_LabelLists_R13, agoralaw34_LabelLists_R14, agoralaw34_LabelLists_R16, agoralaw34_LabelLists_R17, agoralaw34_LabelLists_R18, agoralaw34_LabelLists_R20, agoralaw34_LabelLists_R21, agoralaw34_LabelLists_B5, agoralaw34_LabelLists_R19, agoralaw34_LabelLists_W2, agoralaw34_LabelLists_B4, agoralaw34_LabelLists_R22, agoralaw34_LabelLists_R23, agoralaw34_LabelLists_B3, agoralaw34_LabelLists_R15, agoralaw34_LabelLists_W3, agoralaw34_LabelLists_B2, agoralaw34_LabelLists_R24, agoralaw34_LabelLists_R25, agoralaw34_LabelLists_R27, agoralaw34_LabelLists_R28, agoralaw34_LabelLists_R29, agoralaw34_LabelLists_B7, agoralaw34_LabelLists_R26, agoralaw34_LabelLists_W4, agoralaw34_LabelLists_B6, agoralaw34_LabelLists_R30, agoralaw34_LabelLists_L, agoralaw34_LabelLists_ks, mixed, texts, chains, chainB, actB, Act.cells, h, hx, hkl, ha]
      refine exY_i (isGiv t x a) ⟨fun _ => exY_i (a.text == x) ⟨fun _ => rfl, exY_i (a.object == t || a.target == t) ⟨fun _ _ => exY_i (a.target == t) ⟨fun _ => rfl, rfl⟩, rfl⟩⟩, againM_i _ _ ?_ ?_ ⟨k + 1, rfl, hkl, rfl, rfl⟩⟩
      · omega
      · simp [-getElem?_pos, hwk, hgs, texts, chainB]
    · have hke : k = cc.acts.length := by omega
      subst hke
      rw [anyN_all, hg]
      have hz : (0 : Int) < (i : Int) ↔ 0 < i := by omega
      by_cases hi0 : i = 0
      · subst hi0
        simp (config := { maxSteps := 10000000 }) [-getElem?_pos, agoralaw34_LabelLists_R0, agoralaw34_LabelLists_R1, agoralaw34_LabelLists_R2, agoralaw34_LabelLists_R3, agoralaw34_LabelLists_R4, agoralaw34_LabelLists_R5, agoralaw34_LabelLists_R6, agoralaw34_LabelLists_R7, agoralaw34_LabelLists_R8, agoralaw34_LabelLists_R9, agoralaw34_LabelLists_R10, agoralaw34_LabelLists_R12, agoralaw34_LabelLists_B1, agoralaw34_LabelLists_R11, agoralaw34_LabelLists_W1, agoralaw34_LabelLists_B0, agoralaw34_LabelLists_R13, agoralaw34_LabelLists_R14, agoralaw34_LabelLists_R16, agoralaw34_LabelLists_R17, agoralaw34_LabelLists_R18, agoralaw34_LabelLists_R20, agoralaw34_LabelLists_R21, agoralaw34_LabelLists_B5, agoralaw34_LabelLists_R19, agoralaw34_LabelLists_W2, agoralaw34_LabelLists_B4, agoralaw34_LabelLists_R22, agoralaw34_LabelLists_R23, agoralaw34_LabelLists_B3, agoralaw34_LabelLists_R15, agoralaw34_LabelLists_W3, agoralaw34_LabelLists_B2, agoralaw34_LabelLists_R24, agoralaw34_LabelLists_R25, agoralaw34_LabelLists_R27, agoralaw34_LabelLists_R28, agoralaw34_LabelLists_R29, agoralaw34_LabelLists_B7, agoralaw34_LabelLists_R26, agoralaw34_LabelLists_W4, agoralaw34_LabelLists_B6, agoralaw34_LabelLists_R30, agoralaw34_LabelLists_L, agoralaw34_LabelLists_ks, mixed, texts, chains, chainB, actB, Act.cells]
        refine exY_i false ⟨exY_i false rfl, rfl, fun _ => againM_i _ _ ?_ ?_ ⟨1, rfl, h, rfl, rfl⟩⟩
        · omega
        · simp [-getElem?_pos, texts, chainB, show IntKind.i64.wrap 1 = 1 from by decide]
      · obtain ⟨z, hz'⟩ := get_of_lt (show i - 1 < v.length by omega)
        have hzx : z < x := by
          rw [List.pairwise_iff_getElem] at hlt
          have := hlt (i - 1) i (by omega) h (by omega)
          rw [List.getElem?_eq_getElem (by omega)] at hx hz'
          injection hx with hx
          injection hz' with hz'
          rw [hx, hz'] at this
          exact this
        have hp : IntKind.i64.wrap ((i : Int) - 1) = ((i - 1 : Nat) : Int) := by rw [IntWalk.i64_in _ (by omega)]; omega
        have hpos : (0 : Int) < (i : Int) := by omega
        have hp0 : 0 < i := by omega
        simp (config := { maxSteps := 10000000 }) [-getElem?_pos, agoralaw34_LabelLists_R0, agoralaw34_LabelLists_R1, agoralaw34_LabelLists_R2, agoralaw34_LabelLists_R3, agoralaw34_LabelLists_R4, agoralaw34_LabelLists_R5, agoralaw34_LabelLists_R6, agoralaw34_LabelLists_R7, agoralaw34_LabelLists_R8, agoralaw34_LabelLists_R9, agoralaw34_LabelLists_R10, agoralaw34_LabelLists_R12, agoralaw34_LabelLists_B1, agoralaw34_LabelLists_R11, agoralaw34_LabelLists_W1, agoralaw34_LabelLists_B0, agoralaw34_LabelLists_R13, agoralaw34_LabelLists_R14, agoralaw34_LabelLists_R16, agoralaw34_LabelLists_R17, agoralaw34_LabelLists_R18, agoralaw34_LabelLists_R20, agoralaw34_LabelLists_R21, agoralaw34_LabelLists_B5, agoralaw34_LabelLists_R19, agoralaw34_LabelLists_W2, agoralaw34_LabelLists_B4, agoralaw34_LabelLists_R22, agoralaw34_LabelLists_R23, agoralaw34_LabelLists_B3, agoralaw34_LabelLists_R15, agoralaw34_LabelLists_W3, agoralaw34_LabelLists_B2, agoralaw34_LabelLists_R24, agoralaw34_LabelLists_R25, agoralaw34_LabelLists_R27, agoralaw34_LabelLists_R28, agoralaw34_LabelLists_R29, agoralaw34_LabelLists_B7, agoralaw34_LabelLists_R26, agoralaw34_LabelLists_W4, agoralaw34_LabelLists_B6, agoralaw34_LabelLists_R30, agoralaw34_LabelLists_L, agoralaw34_LabelLists_ks, mixed, texts, chains, chainB, actB, Act.cells, h, hx, hz', hp, hpos, hp0]
        refine exY_i false ⟨exY_i false ⟨by rw [less_i hzx]; rfl, rfl⟩, rfl, fun _ => againM_i _ _ ?_ ?_ ⟨i + 1, rfl, h, rfl, rfl⟩⟩
        · omega
        · simp [-getElem?_pos, hw, texts, chainB]
  · have hie : i = v.length := by omega
    subst hie
    simp (config := { maxSteps := 10000000 }) [-getElem?_pos, agoralaw34_LabelLists_R0, agoralaw34_LabelLists_R1, agoralaw34_LabelLists_R2, agoralaw34_LabelLists_R3, agoralaw34_LabelLists_R4, agoralaw34_LabelLists_R5, agoralaw34_LabelLists_R6, agoralaw34_LabelLists_R7, agoralaw34_LabelLists_R8, agoralaw34_LabelLists_R9, agoralaw34_LabelLists_R10, agoralaw34_LabelLists_R12, agoralaw34_LabelLists_B1, agoralaw34_LabelLists_R11, agoralaw34_LabelLists_W1, agoralaw34_LabelLists_B0, agoralaw34_LabelLists_R13, agoralaw34_LabelLists_R14, agoralaw34_LabelLists_R16, agoralaw34_LabelLists_R17, agoralaw34_LabelLists_R18, agoralaw34_LabelLists_R20, agoralaw34_LabelLists_R21, agoralaw34_LabelLists_B5, agoralaw34_LabelLists_R19, agoralaw34_LabelLists_W2, agoralaw34_LabelLists_B4, agoralaw34_LabelLists_R22, agoralaw34_LabelLists_R23, agoralaw34_LabelLists_B3, agoralaw34_LabelLists_R15, agoralaw34_LabelLists_W3, agoralaw34_LabelLists_B2, agoralaw34_LabelLists_R24, agoralaw34_LabelLists_R25, agoralaw34_LabelLists_R27, agoralaw34_LabelLists_R28, agoralaw34_LabelLists_R29, agoralaw34_LabelLists_B7, agoralaw34_LabelLists_R26, agoralaw34_LabelLists_W4, agoralaw34_LabelLists_B6, agoralaw34_LabelLists_R30, agoralaw34_LabelLists_L, agoralaw34_LabelLists_ks, mixed, texts, chains, chainB, actB, Act.cells]
    refine loopM_intro (fun m e st => ∃ k : Nat, m = cc.acts.length - k ∧ k ≤ cc.acts.length ∧ st = st' ∧
      e = [(17, .c (I k)), (11, .c (.bool u)), (10, .c (texts v)), (8, .box (chainB cc)), (7, .c (.bool true)), (2, .c (.str t))]) cc.acts.length _ ?_ ⟨0, rfl, Nat.zero_le _, rfl, rfl⟩ ?_
    · simp [-getElem?_pos, texts, chainB]
    rintro m e st ⟨k, rfl, hk, rfl, rfl⟩
    by_cases hkl : k < cc.acts.length
    · obtain ⟨a, ha⟩ := get_of_lt hkl
      have hwk := wrap_succ hkl (by omega)
      have hall' := fun hu => hall hu a (List.mem_of_getElem? ha)
      simp (config := { maxSteps := 10000000 }) [-getElem?_pos, agoralaw34_LabelLists_R0, agoralaw34_LabelLists_R1, agoralaw34_LabelLists_R2, agoralaw34_LabelLists_R3, agoralaw34_LabelLists_R4, agoralaw34_LabelLists_R5, agoralaw34_LabelLists_R6, agoralaw34_LabelLists_R7, agoralaw34_LabelLists_R8, agoralaw34_LabelLists_R9, agoralaw34_LabelLists_R10, agoralaw34_LabelLists_R12, agoralaw34_LabelLists_B1, agoralaw34_LabelLists_R11, agoralaw34_LabelLists_W1, agoralaw34_LabelLists_B0, agoralaw34_LabelLists_R13, agoralaw34_LabelLists_R14, agoralaw34_LabelLists_R16, agoralaw34_LabelLists_R17, agoralaw34_LabelLists_R18, agoralaw34_LabelLists_R20, agoralaw34_LabelLists_R21, agoralaw34_LabelLists_B5, agoralaw34_LabelLists_R19, agoralaw34_LabelLists_W2, agoralaw34_LabelLists_B4, agoralaw34_LabelLists_R22, agoralaw34_LabelLists_R23, agoralaw34_LabelLists_B3, agoralaw34_LabelLists_R15, agoralaw34_LabelLists_W3, agoralaw34_LabelLists_B2, agoralaw34_LabelLists_R24, agoralaw34_LabelLists_R25, agoralaw34_LabelLists_R27, agoralaw34_LabelLists_R28, agoralaw34_LabelLists_R29, agoralaw34_LabelLists_B7, agoralaw34_LabelLists_R26, agoralaw34_LabelLists_W4, agoralaw34_LabelLists_B6, agoralaw34_LabelLists_R30, agoralaw34_LabelLists_L, agoralaw34_LabelLists_ks, mixed, texts, chains, chainB, actB, Act.cells, hkl, ha]
      refine exY_i (a.kind == 17) ⟨fun _ => rfl, exY_i (a.object == t || a.target == t) ⟨fun _ _ => exY_i (a.target == t) ⟨fun _ => rfl, rfl⟩,
        exY_i false ⟨fun hu hk ho => ?_, fun _ _ _ => rfl, fun _ => againM_i _ _ ?_ ?_ ⟨k + 1, rfl, hkl, rfl, rfl⟩⟩⟩⟩
      · have hin := hall' hu (by simpa [-getElem?_pos] using hk) (by simpa [-getElem?_pos] using ho)
        have hany : (v.any fun x => x == a.text) = true := List.any_eq_true.2 ⟨_, hin, by simp [-getElem?_pos]⟩
        refine callW0 (hasRef_ok v (by omega) a.text) rfl ?_
        simp (config := { maxSteps := 10000000 }) [-getElem?_pos, agoralaw34_LabelLists_R0, agoralaw34_LabelLists_R1, agoralaw34_LabelLists_R2, agoralaw34_LabelLists_R3, agoralaw34_LabelLists_R4, agoralaw34_LabelLists_R5, agoralaw34_LabelLists_R6, agoralaw34_LabelLists_R7, agoralaw34_LabelLists_R8, agoralaw34_LabelLists_R9, agoralaw34_LabelLists_R10, agoralaw34_LabelLists_R12, agoralaw34_LabelLists_B1, agoralaw34_LabelLists_R11, agoralaw34_LabelLists_W1, agoralaw34_LabelLists_B0, agoralaw34_LabelLists_R13, agoralaw34_LabelLists_R14, agoralaw34_LabelLists_R16, agoralaw34_LabelLists_R17, agoralaw34_LabelLists_R18, agoralaw34_LabelLists_R20, agoralaw34_LabelLists_R21, agoralaw34_LabelLists_B5, agoralaw34_LabelLists_R19, agoralaw34_LabelLists_W2, agoralaw34_LabelLists_B4, agoralaw34_LabelLists_R22, agoralaw34_LabelLists_R23, agoralaw34_LabelLists_B3, agoralaw34_LabelLists_R15, agoralaw34_LabelLists_W3, agoralaw34_LabelLists_B2, agoralaw34_LabelLists_R24, agoralaw34_LabelLists_R25, agoralaw34_LabelLists_R27, agoralaw34_LabelLists_R28, agoralaw34_LabelLists_R29, agoralaw34_LabelLists_B7, agoralaw34_LabelLists_R26, agoralaw34_LabelLists_W4, agoralaw34_LabelLists_B6, agoralaw34_LabelLists_R30, agoralaw34_LabelLists_L, agoralaw34_LabelLists_ks, mixed, hany]
      · omega
      · simp [-getElem?_pos, hwk, texts, chainB]
    · simp (config := { maxSteps := 10000000 }) [-getElem?_pos, agoralaw34_LabelLists_R0, agoralaw34_LabelLists_R1, agoralaw34_LabelLists_R2, agoralaw34_LabelLists_R3, agoralaw34_LabelLists_R4, agoralaw34_LabelLists_R5, agoralaw34_LabelLists_R6, agoralaw34_LabelLists_R7, agoralaw34_LabelLists_R8, agoralaw34_LabelLists_R9, agoralaw34_LabelLists_R10, agoralaw34_LabelLists_R12, agoralaw34_LabelLists_B1, agoralaw34_LabelLists_R11, agoralaw34_LabelLists_W1, agoralaw34_LabelLists_B0, agoralaw34_LabelLists_R13, agoralaw34_LabelLists_R14, agoralaw34_LabelLists_R16, agoralaw34_LabelLists_R17, agoralaw34_LabelLists_R18, agoralaw34_LabelLists_R20, agoralaw34_LabelLists_R21, agoralaw34_LabelLists_B5, agoralaw34_LabelLists_R19, agoralaw34_LabelLists_W2, agoralaw34_LabelLists_B4, agoralaw34_LabelLists_R22, agoralaw34_LabelLists_R23, agoralaw34_LabelLists_B3, agoralaw34_LabelLists_R15, agoralaw34_LabelLists_W3, agoralaw34_LabelLists_B2, agoralaw34_LabelLists_R24, agoralaw34_LabelLists_R25, agoralaw34_LabelLists_R27, agoralaw34_LabelLists_R28, agoralaw34_LabelLists_R29, agoralaw34_LabelLists_B7, agoralaw34_LabelLists_R26, agoralaw34_LabelLists_W4, agoralaw34_LabelLists_B6, agoralaw34_LabelLists_R30, agoralaw34_LabelLists_L, agoralaw34_LabelLists_ks, mixed, texts, chains, chainB, actB, Act.cells, hkl]
end Go.Proofs.YthkmfboffnhkaaaGreatDoor
