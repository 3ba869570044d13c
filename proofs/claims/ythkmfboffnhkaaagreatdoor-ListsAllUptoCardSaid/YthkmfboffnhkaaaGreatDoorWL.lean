/-
  Walks: ListsAll.
-/
import Derived.Test.YthkmfboffnhkaaaGreatDoorW23
import Derived.Test.YthkmfboffnhkaaaGreatDoorTL
set_option linter.all false
namespace Go.Proofs.YthkmfboffnhkaaaGreatDoor
open Go Go.L1
set_option maxRecDepth 100000
set_option maxHeartbeats 4000000

/-- What an activity of a keeper lists. -/
def evA (now : Int) (k : Str) (a : Act) : Option Listing := if a.kind = 23 ∧ now < a.n then some ⟨a.target, a.text, k, a.n⟩ else none
def evK (now : Int) (k : Str) (acts : List Act) (i : Nat) : List Listing := (acts.take i).filterMap (evA now k)
def evN (cs : List Chain) (now : Int) (ks : List Str) (j : Nat) : List Listing := (ks.take j).flatMap fun k => (findC cs k).acts.filterMap (evA now k)
theorem evK_succ {now : Int} {k : Str} {acts : List Act} {i : Nat} {a : Act} (h : acts[i]? = some a) : evK now k acts (i + 1) = evK now k acts i ++ (evA now k a).toList := by
  unfold evK
  rw [List.take_add_one, h, List.filterMap_append]
  cases he : evA now k a <;> simp [-getElem?_pos, he]
theorem evN_succ {cs : List Chain} {now : Int} {ks : List Str} {j : Nat} {k : Str} (h : ks[j]? = some k) : evN cs now ks (j + 1) = evN cs now ks j ++ evK now k (findC cs k).acts (findC cs k).acts.length := by
  unfold evN evK
  rw [List.take_add_one, h, List.flatMap_append]
  simp [-getElem?_pos]
def seenB (E : List Listing) (x : Listing) : Bool := E.any fun y => listEq x y
def seenC (L E : List Listing) : List V := L.map fun x => .c (.bool (seenB E x))
/-- Between two entries. -/
def seenM (L E : List Listing) (y : Listing) (n : Nat) : List V := ((L.take n).map fun x => .c (.bool (seenB E x || listEq x y))) ++ ((L.drop n).map fun x => .c (.bool (seenB E x)))
theorem seenM_0 (L E : List Listing) (y : Listing) : seenM L E y 0 = seenC L E := by simp [-getElem?_pos, seenM, seenC]
theorem seenM_all (L E : List Listing) (y : Listing) : seenM L E y L.length = seenC L (E ++ [y]) := by
  simp [-getElem?_pos, seenM, seenC, seenB]
theorem seenM_get {L E : List Listing} {y x : Listing} {n : Nat} (h : L[n]? = some x) : (seenM L E y n)[n]? = some (.c (.bool (seenB E x))) := by
  have hl := lt_of_some h
  unfold seenM
  rw [List.getElem?_append_right (by simp [-getElem?_pos]; omega)]
  have : n - ((L.take n).map fun x => V.c (.bool (seenB E x || listEq x y))).length = 0 := by simp [-getElem?_pos]; omega
  rw [this, List.getElem?_map, List.getElem?_drop]
  simp [-getElem?_pos, h]
theorem seenM_set {L E : List Listing} {y x : Listing} {n : Nat} (h : L[n]? = some x) : (seenM L E y n).set n (.c (.bool (seenB E x || listEq x y))) = seenM L E y (n + 1) := by
  have hl := lt_of_some h
  have hd : L.drop n = x :: L.drop (n + 1) := by
    rw [List.drop_eq_getElem_cons hl]
    rw [List.getElem?_eq_getElem hl] at h
    injection h with h
    rw [h]
  unfold seenM
  rw [hd, List.take_add_one, h]
  have e : n = ((L.take n).map fun x => V.c (.bool (seenB E x || listEq x y))).length := by simp [-getElem?_pos]; omega
  conv => lhs; arg 2; rw [e]
  rw [List.set_append_right _ _ (Nat.le_refl _)]
  simp [-getElem?_pos]
theorem seenM_len (L E : List Listing) (y : Listing) (n : Nat) : (seenM L E y n).length = L.length := by
  unfold seenM
  rw [List.length_append, List.length_map, List.length_map, List.length_take, List.length_drop]
  omega
theorem seenC_get {L E : List Listing} {x : Listing} {n : Nat} (h : L[n]? = some x) : (seenC L E)[n]? = some (.c (.bool (seenB E x))) := by simp [-getElem?_pos, seenC, h]
theorem seenC_0 (L : List Listing) : seenC L [] = List.replicate L.length (.c (.bool false)) := by
  unfold seenC seenB
  induction L <;> simp_all [List.replicate_succ]
def undoB (acts : List Act) (i n : Nat) : Bool := ((acts.take n).drop (i + 1)).any fun a => a.kind == 6
theorem undoB_0 (acts : List Act) (i : Nat) : undoB acts i (i + 1) = false := by
  unfold undoB
  rw [List.drop_of_length_le (by simp [-getElem?_pos]; omega)]
  rfl
theorem undoB_succ {acts : List Act} {i n : Nat} {a : Act} (hn : i < n) (h : acts[n]? = some a) : undoB acts i (n + 1) = (undoB acts i n || a.kind == 6) := by
  unfold undoB
  have hl := lt_of_some h
  rw [List.take_add_one, h, List.drop_append_of_le_length (by simp [-getElem?_pos]; omega), List.any_append]
  simp [-getElem?_pos]
def actB (a : Act) : List V := [.c (.str a.author), .c (I a.seq), .c (.str a.prev), .c (I a.kind), .c (I a.time), .c (.str a.object), .c (.str a.target), .c (I a.scope), .c (.str a.group), .c (texts a.to), .c (.str a.text),
  .c (.str a.body.nonce), .c (.str a.body.data), .c (.str a.body.tag), .c (I a.epoch), .c (.sl (a.wraps.map Wrap.cells)), .c (I a.n), .c (I a.m), .c (I a.sigE), .c (I a.sigS)]
def chainB (c : Chain) : List V := [.c (.str c.id), .c (.sl (c.acts.map Act.cells)), .c (.sl (c.keys.map KeyAt.cells)), .c (.str c.prev), .c (I c.gen), .c (.bool c.fork)]
theorem boolSl36 : boolSl Tryz.prog 36 = true := by kernel_rfl
theorem seen_all {cs : List Chain} {ks : List Str} {now : Int} {x : Listing} (h : x ∈ ofS digestS cs ks now) : seenB (evN cs now ks ks.length) x = true := by
  obtain ⟨k, hk, i, a, h1, h2, h3, rfl⟩ := ofS_from h
  unfold seenB
  rw [List.any_eq_true]
  refine ⟨_, ?_, listEq_iff.2 rfl⟩
  unfold evN
  rw [List.take_length]
  exact List.mem_flatMap.2 ⟨k, hk, List.mem_filterMap.2 ⟨a, List.mem_of_getElem? h1, by simp [-getElem?_pos, evA, h2, h3]⟩⟩
theorem all_ok (cs : List Chain) (ks : List Str) (now : Int) (hcs : cs.length ≤ 1000000000) (hks : ks.length ≤ 1000000000) (hf : fewS cs = true → FitsAll cs) (s : List SO) :
    FnOK Tryz.prog GW 5 [chains cs, .c (texts ks), .c (.int .i64 now)] s (.c (.bool true)) s := by
  refine agoralaw37_ListsAll_pu { own := [(37, 4, 1)] } (by simp [-getElem?_pos]) rfl ?_
  simp [-getElem?_pos, List.lookup, agoralaw37_ListsAll_R0, agoralaw37_ListsAll_R1, agoralaw37_ListsAll_R2, agoralaw37_ListsAll_R3, agoralaw37_ListsAll_R4, agoralaw37_ListsAll_R5, agoralaw37_ListsAll_R6, agoralaw37_ListsAll_R7, agoralaw37_ListsAll_R9, agoralaw37_ListsAll_R10, agoralaw37_ListsAll_R11, agoralaw37_ListsAll_R13, agoralaw37_ListsAll_R14, agoralaw37_ListsAll_R15, agoralaw37_ListsAll_R16, agoralaw37_ListsAll_R17, agoralaw37_ListsAll_R19, agoralaw37_ListsAll_B5, agoralaw37_ListsAll_R18, agoralaw37_ListsAll_W1, agoralaw37_ListsAll_B4, agoralaw37_ListsAll_R20, agoralaw37_ListsAll_R21, agoralaw37_ListsAll_R22, agoralaw37_ListsAll_R23, agoralaw37_ListsAll_R24, agoralaw37_ListsAll_R26, agoralaw37_ListsAll_B7, agoralaw37_ListsAll_R25, agoralaw37_ListsAll_W2, agoralaw37_ListsAll_B6, agoralaw37_ListsAll_B3, agoralaw37_ListsAll_R12, agoralaw37_ListsAll_W3, agoralaw37_ListsAll_B2, agoralaw37_ListsAll_B1, agoralaw37_ListsAll_R8, agoralaw37_ListsAll_W4, agoralaw37_ListsAll_B0, agoralaw37_ListsAll_R27, agoralaw37_ListsAll_R28, agoralaw37_ListsAll_R30, agoralaw37_ListsAll_R31, agoralaw37_ListsAll_B9, agoralaw37_ListsAll_R29, agoralaw37_ListsAll_W5, agoralaw37_ListsAll_B8, agoralaw37_ListsAll_R32, agoralaw37_ListsAll_L, agoralaw37_ListsAll_ks, mixed, chains]
  refine callW0 (res := .c (.bool true)) (fun s => small_ok s) rfl ?_
  simp [-getElem?_pos, List.lookup, agoralaw37_ListsAll_R0, agoralaw37_ListsAll_R1, agoralaw37_ListsAll_R2, agoralaw37_ListsAll_R3, agoralaw37_ListsAll_R4, agoralaw37_ListsAll_R5, agoralaw37_ListsAll_R6, agoralaw37_ListsAll_R7, agoralaw37_ListsAll_R9, agoralaw37_ListsAll_R10, agoralaw37_ListsAll_R11, agoralaw37_ListsAll_R13, agoralaw37_ListsAll_R14, agoralaw37_ListsAll_R15, agoralaw37_ListsAll_R16, agoralaw37_ListsAll_R17, agoralaw37_ListsAll_R19, agoralaw37_ListsAll_B5, agoralaw37_ListsAll_R18, agoralaw37_ListsAll_W1, agoralaw37_ListsAll_B4, agoralaw37_ListsAll_R20, agoralaw37_ListsAll_R21, agoralaw37_ListsAll_R22, agoralaw37_ListsAll_R23, agoralaw37_ListsAll_R24, agoralaw37_ListsAll_R26, agoralaw37_ListsAll_B7, agoralaw37_ListsAll_R25, agoralaw37_ListsAll_W2, agoralaw37_ListsAll_B6, agoralaw37_ListsAll_B3, agoralaw37_ListsAll_R12, agoralaw37_ListsAll_W3, agoralaw37_ListsAll_B2, agoralaw37_ListsAll_B1, agoralaw37_ListsAll_R8, agoralaw37_ListsAll_W4, agoralaw37_ListsAll_B0, agoralaw37_ListsAll_R27, agoralaw37_ListsAll_R28, agoralaw37_ListsAll_R30, agoralaw37_ListsAll_R31, agoralaw37_ListsAll_B9, agoralaw37_ListsAll_R29, agoralaw37_ListsAll_W5, agoralaw37_ListsAll_B8, agoralaw37_ListsAll_R32, agoralaw37_ListsAll_L, agoralaw37_ListsAll_ks, mixed, chains]
  refine callW0 (few_ok cs hcs) rfl ?_
  simp [-getElem?_pos, List.lookup, agoralaw37_ListsAll_R0, agoralaw37_ListsAll_R1, agoralaw37_ListsAll_R2, agoralaw37_ListsAll_R3, agoralaw37_ListsAll_R4, agoralaw37_ListsAll_R5, agoralaw37_ListsAll_R6, agoralaw37_ListsAll_R7, agoralaw37_ListsAll_R9, agoralaw37_ListsAll_R10, agoralaw37_ListsAll_R11, agoralaw37_ListsAll_R13, agoralaw37_ListsAll_R14, agoralaw37_ListsAll_R15, agoralaw37_ListsAll_R16, agoralaw37_ListsAll_R17, agoralaw37_ListsAll_R19, agoralaw37_ListsAll_B5, agoralaw37_ListsAll_R18, agoralaw37_ListsAll_W1, agoralaw37_ListsAll_B4, agoralaw37_ListsAll_R20, agoralaw37_ListsAll_R21, agoralaw37_ListsAll_R22, agoralaw37_ListsAll_R23, agoralaw37_ListsAll_R24, agoralaw37_ListsAll_R26, agoralaw37_ListsAll_B7, agoralaw37_ListsAll_R25, agoralaw37_ListsAll_W2, agoralaw37_ListsAll_B6, agoralaw37_ListsAll_B3, agoralaw37_ListsAll_R12, agoralaw37_ListsAll_W3, agoralaw37_ListsAll_B2, agoralaw37_ListsAll_B1, agoralaw37_ListsAll_R8, agoralaw37_ListsAll_W4, agoralaw37_ListsAll_B0, agoralaw37_ListsAll_R27, agoralaw37_ListsAll_R28, agoralaw37_ListsAll_R30, agoralaw37_ListsAll_R31, agoralaw37_ListsAll_B9, agoralaw37_ListsAll_R29, agoralaw37_ListsAll_W5, agoralaw37_ListsAll_B8, agoralaw37_ListsAll_R32, agoralaw37_ListsAll_L, agoralaw37_ListsAll_ks, mixed, texts, chains, listings]
  refine exY_i (decide (8 < (ks.length : Int))) ⟨fun _ => rfl, fun hw h8 => ?_⟩
  simp only [decide_eq_false_iff_not] at h8
  replace hf := hf hw
  refine callW0 (lof_ok hf hw ks now (by omega)) rfl ?_
  have hLl := ofS_len cs ks now (fun k _ => few_acts hw k)
  have hrefl : ∀ k ∈ ks, ∀ (i : Nat) (a : Act), (findC cs k).acts[i]? = some a → a.kind = 23 → now < a.n → undoB (findC cs k).acts i (findC cs k).acts.length = false → ∃ x, hasS (ofS digestS cs ks now) a.target = some x ∧ a.n ≤ x.until_ := by
    intro k hk i a hi ha hn hu
    obtain ⟨x, hx, hxa, hxu⟩ := ofS_reflects (dg := digestS) (cs := cs) hk hi ha hn (fun j b hj hb h6 => by
      unfold undoB at hu
      rw [List.take_length, List.any_eq_false] at hu
      refine hu b ?_ (by simpa [-getElem?_pos] using h6)
      refine List.mem_of_getElem? (i := j - (i + 1)) ?_
      rw [List.getElem?_drop, show i + 1 + (j - (i + 1)) = j by omega]
      exact hb)
    exact ⟨x, by rw [← hxa]; exact hasS_mem (ofS_ok ks now) hx, hxu⟩
  have hall : ∀ x ∈ ofS digestS cs ks now, seenB (evN cs now ks ks.length) x = true := fun x hx => seen_all hx
  generalize hL : ofS digestS cs ks now = L at *
  have hLb : L.length ≤ 281474976710656 := by omega
  simp [-getElem?_pos, List.lookup, agoralaw37_ListsAll_R0, agoralaw37_ListsAll_R1, agoralaw37_ListsAll_R2, agoralaw37_ListsAll_R3, agoralaw37_ListsAll_R4, agoralaw37_ListsAll_R5, agoralaw37_ListsAll_R6, agoralaw37_ListsAll_R7, agoralaw37_ListsAll_R9, agoralaw37_ListsAll_R10, agoralaw37_ListsAll_R11, agoralaw37_ListsAll_R13, agoralaw37_ListsAll_R14, agoralaw37_ListsAll_R15, agoralaw37_ListsAll_R16, agoralaw37_ListsAll_R17, agoralaw37_ListsAll_R19, agoralaw37_ListsAll_B5, agoralaw37_ListsAll_R18, agoralaw37_ListsAll_W1, agoralaw37_ListsAll_B4, agoralaw37_ListsAll_R20, agoralaw37_ListsAll_R21, agoralaw37_ListsAll_R22, agoralaw37_ListsAll_R23, agoralaw37_ListsAll_R24, agoralaw37_ListsAll_R26, agoralaw37_ListsAll_B7, agoralaw37_ListsAll_R25, agoralaw37_ListsAll_W2, agoralaw37_ListsAll_B6, agoralaw37_ListsAll_B3, agoralaw37_ListsAll_R12, agoralaw37_ListsAll_W3, agoralaw37_ListsAll_B2, agoralaw37_ListsAll_B1, agoralaw37_ListsAll_R8, agoralaw37_ListsAll_W4, agoralaw37_ListsAll_B0, agoralaw37_ListsAll_R27, agoralaw37_ListsAll_R28, agoralaw37_ListsAll_R30, agoralaw37_ListsAll_R31, agoralaw37_ListsAll_B9, agoralaw37_ListsAll_R29, agoralaw37_ListsAll_W5, agoralaw37_ListsAll_B8, agoralaw37_ListsAll_R32, agoralaw37_ListsAll_L, agoralaw37_ListsAll_ks, mixed, texts, chains, listings, boolSl36, hLb]
  refine loopM_intro (fun m e st => ∃ j : Nat, m = ks.length - j ∧ j ≤ ks.length ∧ st = s ++ [.box (seenC L (evN cs now ks j))] ∧
    e = [(10, .c (I j)), (9, .psl s.length 0 L.length), (8, listings L), (7, .c (.bool true)), (0, chains cs), (1, .c (texts ks)), (2, .c (I now))]) ks.length _ ?_ ⟨0, rfl, Nat.zero_le _, by simp [-getElem?_pos, evN, seenC_0], rfl⟩ ?_
  · simp [-getElem?_pos, texts, chains, listings]
  rintro m e st ⟨j, rfl, hj, rfl, rfl⟩
  by_cases hjl : j < ks.length
  · obtain ⟨k, hk⟩ := get_of_lt hjl
    have hwj := wrap_succ hjl (by omega)
    simp [-getElem?_pos, List.lookup, agoralaw37_ListsAll_R0, agoralaw37_ListsAll_R1, agoralaw37_ListsAll_R2, agoralaw37_ListsAll_R3, agoralaw37_ListsAll_R4, agoralaw37_ListsAll_R5, agoralaw37_ListsAll_R6, agoralaw37_ListsAll_R7, agoralaw37_ListsAll_R9, agoralaw37_ListsAll_R10, agoralaw37_ListsAll_R11, agoralaw37_ListsAll_R13, agoralaw37_ListsAll_R14, agoralaw37_ListsAll_R15, agoralaw37_ListsAll_R16, agoralaw37_ListsAll_R17, agoralaw37_ListsAll_R19, agoralaw37_ListsAll_B5, agoralaw37_ListsAll_R18, agoralaw37_ListsAll_W1, agoralaw37_ListsAll_B4, agoralaw37_ListsAll_R20, agoralaw37_ListsAll_R21, agoralaw37_ListsAll_R22, agoralaw37_ListsAll_R23, agoralaw37_ListsAll_R24, agoralaw37_ListsAll_R26, agoralaw37_ListsAll_B7, agoralaw37_ListsAll_R25, agoralaw37_ListsAll_W2, agoralaw37_ListsAll_B6, agoralaw37_ListsAll_B3, agoralaw37_ListsAll_R12, agoralaw37_ListsAll_W3, agoralaw37_ListsAll_B2, agoralaw37_ListsAll_B1, agoralaw37_ListsAll_R8, agoralaw37_ListsAll_W4, agoralaw37_ListsAll_B0, agoralaw37_ListsAll_R27, agoralaw37_ListsAll_R28, agoralaw37_ListsAll_R30, agoralaw37_ListsAll_R31, agoralaw37_ListsAll_B9, agoralaw37_ListsAll_R29, agoralaw37_ListsAll_W5, agoralaw37_ListsAll_B8, agoralaw37_ListsAll_R32, agoralaw37_ListsAll_L, agoralaw37_ListsAll_ks, mixed, texts, chains, listings, hjl, hk]
    refine callW0 (res := findR cs k) (find_ok cs (by omega) k) rfl ?_
    have hacts := few_acts hw k
    have hrk := hrefl k (List.mem_of_getElem? hk)
    simp [-getElem?_pos, List.lookup, agoralaw37_ListsAll_R0, agoralaw37_ListsAll_R1, agoralaw37_ListsAll_R2, agoralaw37_ListsAll_R3, agoralaw37_ListsAll_R4, agoralaw37_ListsAll_R5, agoralaw37_ListsAll_R6, agoralaw37_ListsAll_R7, agoralaw37_ListsAll_R9, agoralaw37_ListsAll_R10, agoralaw37_ListsAll_R11, agoralaw37_ListsAll_R13, agoralaw37_ListsAll_R14, agoralaw37_ListsAll_R15, agoralaw37_ListsAll_R16, agoralaw37_ListsAll_R17, agoralaw37_ListsAll_R19, agoralaw37_ListsAll_B5, agoralaw37_ListsAll_R18, agoralaw37_ListsAll_W1, agoralaw37_ListsAll_B4, agoralaw37_ListsAll_R20, agoralaw37_ListsAll_R21, agoralaw37_ListsAll_R22, agoralaw37_ListsAll_R23, agoralaw37_ListsAll_R24, agoralaw37_ListsAll_R26, agoralaw37_ListsAll_B7, agoralaw37_ListsAll_R25, agoralaw37_ListsAll_W2, agoralaw37_ListsAll_B6, agoralaw37_ListsAll_B3, agoralaw37_ListsAll_R12, agoralaw37_ListsAll_W3, agoralaw37_ListsAll_B2, agoralaw37_ListsAll_B1, agoralaw37_ListsAll_R8, agoralaw37_ListsAll_W4, agoralaw37_ListsAll_B0, agoralaw37_ListsAll_R27, agoralaw37_ListsAll_R28, agoralaw37_ListsAll_R30, agoralaw37_ListsAll_R31, agoralaw37_ListsAll_B9, agoralaw37_ListsAll_R29, agoralaw37_ListsAll_W5, agoralaw37_ListsAll_B8, agoralaw37_ListsAll_R32, agoralaw37_ListsAll_L, agoralaw37_ListsAll_ks, mixed, texts, chains, listings, hjl, hk, findR, agg, Chain.cells]
    have hev := evN_succ (cs := cs) (now := now) hk
    generalize hcc : findC cs k = cc at hacts hrk hev
    generalize evN cs now ks j = E0 at hev
    refine loopM_intro (fun m e st => ∃ i : Nat, m = cc.acts.length - i ∧ i ≤ cc.acts.length ∧ st = s ++ [.box (seenC L (E0 ++ evK now k cc.acts i))] ∧
      e = [(13, .c (I i)), (11, .box (chainB cc)), (10, .c (I j)), (9, .psl s.length 0 L.length), (8, listings L), (7, .c (.bool true)), (0, chains cs), (1, .c (texts ks)), (2, .c (I now))]) cc.acts.length _ ?_ ⟨0, rfl, Nat.zero_le _, by simp [-getElem?_pos, evK], rfl⟩ ?_
    · simp [-getElem?_pos, texts, chains, listings, chainB]
    rintro m e st ⟨i, rfl, hi, rfl, rfl⟩
    by_cases hil : i < cc.acts.length
    · obtain ⟨a, ha⟩ := get_of_lt hil
      have hwi := wrap_succ hil (by omega)
      have hek := evK_succ (now := now) (k := k) ha
      generalize evK now k cc.acts i = E1 at hek
      simp (config := { maxSteps := 10000000 }) [-getElem?_pos, List.lookup, agoralaw37_ListsAll_R0, agoralaw37_ListsAll_R1, agoralaw37_ListsAll_R2, agoralaw37_ListsAll_R3, agoralaw37_ListsAll_R4, agoralaw37_ListsAll_R5, agoralaw37_ListsAll_R6, agoralaw37_ListsAll_R7, agoralaw37_ListsAll_R9, agoralaw37_ListsAll_R10, agoralaw37_ListsAll_R11, agoralaw37_ListsAll_R13, agoralaw37_ListsAll_R14, agoralaw37_ListsAll_R15, agoralaw37_ListsAll_R16, agoralaw37_ListsAll_R17, agoralaw37_ListsAll_R19, agoralaw37_ListsAll_B5, agoralaw37_ListsAll_R18, agoralaw37_ListsAll_W1, agoralaw37_ListsAll_B4, agoralaw37_ListsAll_R20, agoralaw37_ListsAll_R21, agoralaw37_ListsAll_R22, agoralaw37_ListsAll_R23, agoralaw37_ListsAll_R24, agoralaw37_ListsAll_R26, agoralaw37_ListsAll_B7, agoralaw37_ListsAll_R25, agoralaw37_ListsAll_W2, agoralaw37_ListsAll_B6, agoralaw37_ListsAll_B3, agoralaw37_ListsAll_R12, agoralaw37_ListsAll_W3, agoralaw37_ListsAll_B2, agoralaw37_ListsAll_B1, agoralaw37_ListsAll_R8, agoralaw37_ListsAll_W4, agoralaw37_ListsAll_B0, agoralaw37_ListsAll_R27, agoralaw37_ListsAll_R28, agoralaw37_ListsAll_R30, agoralaw37_ListsAll_R31, agoralaw37_ListsAll_B9, agoralaw37_ListsAll_R29, agoralaw37_ListsAll_W5, agoralaw37_ListsAll_B8, agoralaw37_ListsAll_R32, agoralaw37_ListsAll_L, agoralaw37_ListsAll_ks, mixed, texts, chains, listings, hil, ha, chainB, Act.cells]
      refine exY_i (decide (a.n ≤ now)) ⟨fun _ => rfl, fun hsk => againM_i _ _ ?_ ?_ ⟨i + 1, rfl, hil, ?_, rfl⟩, fun h23 hn => ?_⟩
      · omega
      · simp [-getElem?_pos, hwi, texts, chains, listings, chainB]
      · have : evA now k a = none := by
          unfold evA
          rw [if_neg]
          rintro ⟨h1, h2⟩
          simp [-getElem?_pos, h1] at hsk
          omega
        rw [hek, this]; simp [-getElem?_pos]
      · simp only [decide_eq_false_iff_not] at hn
        refine loopM_intro (fun m e st => ∃ n : Nat, m = cc.acts.length - n ∧ i < n ∧ n ≤ cc.acts.length ∧ st = s ++ [.box (seenC L (E0 ++ E1))] ∧
          e = [(16, .c (I n)), (15, .c (.bool (undoB cc.acts i n))), (14, .box (actB a)), (13, .c (I i)), (11, .box (chainB cc)), (10, .c (I j)), (9, .psl s.length 0 L.length), (8, listings L), (7, .c (.bool true)), (0, chains cs), (1, .c (texts ks)), (2, .c (I now))])
          (cc.acts.length - (i + 1)) _ ?_ ⟨i + 1, rfl, by omega, hil, rfl, rfl⟩ ?_
        · simp [-getElem?_pos, hwi, undoB_0, texts, chains, listings, chainB, actB]
        rintro m e st ⟨n, rfl, hin, hnl, rfl, rfl⟩
        by_cases hlt : n < cc.acts.length
        · obtain ⟨b, hb⟩ := get_of_lt hlt
          have hwn := wrap_succ hlt (by omega)
          have hu := undoB_succ hin hb
          simp (config := { maxSteps := 10000000 }) [-getElem?_pos, List.lookup, agoralaw37_ListsAll_R0, agoralaw37_ListsAll_R1, agoralaw37_ListsAll_R2, agoralaw37_ListsAll_R3, agoralaw37_ListsAll_R4, agoralaw37_ListsAll_R5, agoralaw37_ListsAll_R6, agoralaw37_ListsAll_R7, agoralaw37_ListsAll_R9, agoralaw37_ListsAll_R10, agoralaw37_ListsAll_R11, agoralaw37_ListsAll_R13, agoralaw37_ListsAll_R14, agoralaw37_ListsAll_R15, agoralaw37_ListsAll_R16, agoralaw37_ListsAll_R17, agoralaw37_ListsAll_R19, agoralaw37_ListsAll_B5, agoralaw37_ListsAll_R18, agoralaw37_ListsAll_W1, agoralaw37_ListsAll_B4, agoralaw37_ListsAll_R20, agoralaw37_ListsAll_R21, agoralaw37_ListsAll_R22, agoralaw37_ListsAll_R23, agoralaw37_ListsAll_R24, agoralaw37_ListsAll_R26, agoralaw37_ListsAll_B7, agoralaw37_ListsAll_R25, agoralaw37_ListsAll_W2, agoralaw37_ListsAll_B6, agoralaw37_ListsAll_B3, agoralaw37_ListsAll_R12, agoralaw37_ListsAll_W3, agoralaw37_ListsAll_B2, agoralaw37_ListsAll_B1, agoralaw37_ListsAll_R8, agoralaw37_ListsAll_W4, agoralaw37_ListsAll_B0, agoralaw37_ListsAll_R27, agoralaw37_ListsAll_R28, agoralaw37_ListsAll_R30, agoralaw37_ListsAll_R31, agoralaw37_ListsAll_B9, agoralaw37_ListsAll_R29, agoralaw37_ListsAll_W5, agoralaw37_ListsAll_B8, agoralaw37_ListsAll_R32, agoralaw37_ListsAll_L, agoralaw37_ListsAll_ks, mixed, texts, chains, listings, hlt, hb, chainB, actB, Act.cells]
          refine exY_i (decide (b.kind = 6)) ⟨fun _ => rfl, againM_i _ _ ?_ ?_ ⟨n + 1, rfl, by omega, hlt, rfl, rfl⟩⟩
          · omega
          · simp [-getElem?_pos, hwn, hu, texts, chains, listings, chainB, actB]
            try rfl
        · have hne : n = cc.acts.length := by omega
          subst hne
          have hr := hrk i a ha h23 (by omega)
          simp (config := { maxSteps := 10000000 }) [-getElem?_pos, List.lookup, agoralaw37_ListsAll_R0, agoralaw37_ListsAll_R1, agoralaw37_ListsAll_R2, agoralaw37_ListsAll_R3, agoralaw37_ListsAll_R4, agoralaw37_ListsAll_R5, agoralaw37_ListsAll_R6, agoralaw37_ListsAll_R7, agoralaw37_ListsAll_R9, agoralaw37_ListsAll_R10, agoralaw37_ListsAll_R11, agoralaw37_ListsAll_R13, agoralaw37_ListsAll_R14, agoralaw37_ListsAll_R15, agoralaw37_ListsAll_R16, agoralaw37_ListsAll_R17, agoralaw37_ListsAll_R19, agoralaw37_ListsAll_B5, agoralaw37_ListsAll_R18, agoralaw37_ListsAll_W1, agoralaw37_ListsAll_B4, agoralaw37_ListsAll_R20, agoralaw37_ListsAll_R21, agoralaw37_ListsAll_R22, agoralaw37_ListsAll_R23, agoralaw37_ListsAll_R24, agoralaw37_ListsAll_R26, agoralaw37_ListsAll_B7, agoralaw37_ListsAll_R25, agoralaw37_ListsAll_W2, agoralaw37_ListsAll_B6, agoralaw37_ListsAll_B3, agoralaw37_ListsAll_R12, agoralaw37_ListsAll_W3, agoralaw37_ListsAll_B2, agoralaw37_ListsAll_B1, agoralaw37_ListsAll_R8, agoralaw37_ListsAll_W4, agoralaw37_ListsAll_B0, agoralaw37_ListsAll_R27, agoralaw37_ListsAll_R28, agoralaw37_ListsAll_R30, agoralaw37_ListsAll_R31, agoralaw37_ListsAll_B9, agoralaw37_ListsAll_R29, agoralaw37_ListsAll_W5, agoralaw37_ListsAll_B8, agoralaw37_ListsAll_R32, agoralaw37_ListsAll_L, agoralaw37_ListsAll_ks, mixed, texts, chains, listings, chainB, actB]
          refine callW0 (has_ok L (by omega) a.target) rfl ?_
          have hr2 : undoB cc.acts i cc.acts.length = false → (hasS L a.target).isSome = true ∧ a.n ≤ ((hasS L a.target).getD noListing).until_ := fun hu => by
            obtain ⟨x, hx, hxu⟩ := hr hu
            rw [hx]; exact ⟨rfl, hxu⟩
          simp only [hasR]
          generalize (hasS L a.target).getD noListing = x0 at hr2 ⊢
          generalize (hasS L a.target).isSome = ok at hr2 ⊢
          generalize undoB cc.acts i cc.acts.length = ub at hr2 ⊢
          simp (config := { maxSteps := 10000000 }) [-getElem?_pos, List.lookup, agoralaw37_ListsAll_R0, agoralaw37_ListsAll_R1, agoralaw37_ListsAll_R2, agoralaw37_ListsAll_R3, agoralaw37_ListsAll_R4, agoralaw37_ListsAll_R5, agoralaw37_ListsAll_R6, agoralaw37_ListsAll_R7, agoralaw37_ListsAll_R9, agoralaw37_ListsAll_R10, agoralaw37_ListsAll_R11, agoralaw37_ListsAll_R13, agoralaw37_ListsAll_R14, agoralaw37_ListsAll_R15, agoralaw37_ListsAll_R16, agoralaw37_ListsAll_R17, agoralaw37_ListsAll_R19, agoralaw37_ListsAll_B5, agoralaw37_ListsAll_R18, agoralaw37_ListsAll_W1, agoralaw37_ListsAll_B4, agoralaw37_ListsAll_R20, agoralaw37_ListsAll_R21, agoralaw37_ListsAll_R22, agoralaw37_ListsAll_R23, agoralaw37_ListsAll_R24, agoralaw37_ListsAll_R26, agoralaw37_ListsAll_B7, agoralaw37_ListsAll_R25, agoralaw37_ListsAll_W2, agoralaw37_ListsAll_B6, agoralaw37_ListsAll_B3, agoralaw37_ListsAll_R12, agoralaw37_ListsAll_W3, agoralaw37_ListsAll_B2, agoralaw37_ListsAll_B1, agoralaw37_ListsAll_R8, agoralaw37_ListsAll_W4, agoralaw37_ListsAll_B0, agoralaw37_ListsAll_R27, agoralaw37_ListsAll_R28, agoralaw37_ListsAll_R30, agoralaw37_ListsAll_R31, agoralaw37_ListsAll_B9, agoralaw37_ListsAll_R29, agoralaw37_ListsAll_W5, agoralaw37_ListsAll_B8, agoralaw37_ListsAll_R32, agoralaw37_ListsAll_L, agoralaw37_ListsAll_ks, mixed, texts, chains, listings, chainB, actB, agg, Listing.cells]
          refine exY_i false ⟨fun hu => exY_i false ⟨fun _ => by simpa [-getElem?_pos] using (hr2 hu).2, by simp [-getElem?_pos, (hr2 hu).1]⟩, fun _ => rfl, fun _ => ?_⟩
          have hea : evA now k a = some ⟨a.target, a.text, k, a.n⟩ := by
            unfold evA
            rw [if_pos ⟨h23, by omega⟩]
          refine loopM_intro (fun m e st => ∃ n : Nat, m = L.length - n ∧ n ≤ L.length ∧ st = s ++ [.box (seenM L (E0 ++ E1) ⟨a.target, a.text, k, a.n⟩ n)] ∧
            e = [(19, .c (I n)), (14, .box (actB a)), (13, .c (I i)), (11, .box (chainB cc)), (10, .c (I j)), (9, .psl s.length 0 L.length), (8, listings L), (7, .c (.bool true)), (0, chains cs), (1, .c (texts ks)), (2, .c (I now))])
            L.length _ ?_ ⟨0, rfl, Nat.zero_le _, by rw [seenM_0], rfl⟩ ?_
          · simp [-getElem?_pos, texts, chains, listings, chainB, actB]
          rintro m e st ⟨n, rfl, hnl2, rfl, rfl⟩
          by_cases hnn : n < L.length
          · obtain ⟨x, hx⟩ := get_of_lt hnn
            have hwn := wrap_succ hnn (by omega)
            have hg := seenM_get (E := E0 ++ E1) (y := ⟨a.target, a.text, k, a.n⟩) hx
            have hs := seenM_set (E := E0 ++ E1) (y := ⟨a.target, a.text, k, a.n⟩) hx
            have hsl := seenM_len L (E0 ++ E1) ⟨a.target, a.text, k, a.n⟩ n
            generalize seenM L (E0 ++ E1) ⟨a.target, a.text, k, a.n⟩ n = M at hg hs hsl
            generalize seenB (E0 ++ E1) x = sb at hg hs
            simp (config := { maxSteps := 10000000 }) [-getElem?_pos, List.lookup, agoralaw37_ListsAll_R0, agoralaw37_ListsAll_R1, agoralaw37_ListsAll_R2, agoralaw37_ListsAll_R3, agoralaw37_ListsAll_R4, agoralaw37_ListsAll_R5, agoralaw37_ListsAll_R6, agoralaw37_ListsAll_R7, agoralaw37_ListsAll_R9, agoralaw37_ListsAll_R10, agoralaw37_ListsAll_R11, agoralaw37_ListsAll_R13, agoralaw37_ListsAll_R14, agoralaw37_ListsAll_R15, agoralaw37_ListsAll_R16, agoralaw37_ListsAll_R17, agoralaw37_ListsAll_R19, agoralaw37_ListsAll_B5, agoralaw37_ListsAll_R18, agoralaw37_ListsAll_W1, agoralaw37_ListsAll_B4, agoralaw37_ListsAll_R20, agoralaw37_ListsAll_R21, agoralaw37_ListsAll_R22, agoralaw37_ListsAll_R23, agoralaw37_ListsAll_R24, agoralaw37_ListsAll_R26, agoralaw37_ListsAll_B7, agoralaw37_ListsAll_R25, agoralaw37_ListsAll_W2, agoralaw37_ListsAll_B6, agoralaw37_ListsAll_B3, agoralaw37_ListsAll_R12, agoralaw37_ListsAll_W3, agoralaw37_ListsAll_B2, agoralaw37_ListsAll_B1, agoralaw37_ListsAll_R8, agoralaw37_ListsAll_W4, agoralaw37_ListsAll_B0, agoralaw37_ListsAll_R27, agoralaw37_ListsAll_R28, agoralaw37_ListsAll_R30, agoralaw37_ListsAll_R31, agoralaw37_ListsAll_B9, agoralaw37_ListsAll_R29, agoralaw37_ListsAll_W5, agoralaw37_ListsAll_B8, agoralaw37_ListsAll_R32, agoralaw37_ListsAll_L, agoralaw37_ListsAll_ks, mixed, texts, chains, listings, hnn, hx, hk, chainB, actB, Listing.cells, hg]
            refine exY_i (listEq x ⟨a.target, a.text, k, a.n⟩) ⟨fun _ => rfl, wS_i (if_pos (by omega)) ?_⟩
            simp (config := { maxSteps := 10000000 }) [-getElem?_pos, List.lookup, agoralaw37_ListsAll_R0, agoralaw37_ListsAll_R1, agoralaw37_ListsAll_R2, agoralaw37_ListsAll_R3, agoralaw37_ListsAll_R4, agoralaw37_ListsAll_R5, agoralaw37_ListsAll_R6, agoralaw37_ListsAll_R7, agoralaw37_ListsAll_R9, agoralaw37_ListsAll_R10, agoralaw37_ListsAll_R11, agoralaw37_ListsAll_R13, agoralaw37_ListsAll_R14, agoralaw37_ListsAll_R15, agoralaw37_ListsAll_R16, agoralaw37_ListsAll_R17, agoralaw37_ListsAll_R19, agoralaw37_ListsAll_B5, agoralaw37_ListsAll_R18, agoralaw37_ListsAll_W1, agoralaw37_ListsAll_B4, agoralaw37_ListsAll_R20, agoralaw37_ListsAll_R21, agoralaw37_ListsAll_R22, agoralaw37_ListsAll_R23, agoralaw37_ListsAll_R24, agoralaw37_ListsAll_R26, agoralaw37_ListsAll_B7, agoralaw37_ListsAll_R25, agoralaw37_ListsAll_W2, agoralaw37_ListsAll_B6, agoralaw37_ListsAll_B3, agoralaw37_ListsAll_R12, agoralaw37_ListsAll_W3, agoralaw37_ListsAll_B2, agoralaw37_ListsAll_B1, agoralaw37_ListsAll_R8, agoralaw37_ListsAll_W4, agoralaw37_ListsAll_B0, agoralaw37_ListsAll_R27, agoralaw37_ListsAll_R28, agoralaw37_ListsAll_R30, agoralaw37_ListsAll_R31, agoralaw37_ListsAll_B9, agoralaw37_ListsAll_R29, agoralaw37_ListsAll_W5, agoralaw37_ListsAll_B8, agoralaw37_ListsAll_R32, agoralaw37_ListsAll_L, agoralaw37_ListsAll_ks, mixed]
            refine againM_i _ _ ?_ ?_ ⟨n + 1, rfl, hnn, ?_, rfl⟩
            · omega
            · simp [-getElem?_pos, hwn, texts, chains, listings, chainB, actB]
            · rw [← hs, List.set_eq_take_append_cons_drop, if_pos (by omega)]
          · have hne : n = L.length := by omega
            subst hne
            simp (config := { maxSteps := 10000000 }) [-getElem?_pos, List.lookup, agoralaw37_ListsAll_R0, agoralaw37_ListsAll_R1, agoralaw37_ListsAll_R2, agoralaw37_ListsAll_R3, agoralaw37_ListsAll_R4, agoralaw37_ListsAll_R5, agoralaw37_ListsAll_R6, agoralaw37_ListsAll_R7, agoralaw37_ListsAll_R9, agoralaw37_ListsAll_R10, agoralaw37_ListsAll_R11, agoralaw37_ListsAll_R13, agoralaw37_ListsAll_R14, agoralaw37_ListsAll_R15, agoralaw37_ListsAll_R16, agoralaw37_ListsAll_R17, agoralaw37_ListsAll_R19, agoralaw37_ListsAll_B5, agoralaw37_ListsAll_R18, agoralaw37_ListsAll_W1, agoralaw37_ListsAll_B4, agoralaw37_ListsAll_R20, agoralaw37_ListsAll_R21, agoralaw37_ListsAll_R22, agoralaw37_ListsAll_R23, agoralaw37_ListsAll_R24, agoralaw37_ListsAll_R26, agoralaw37_ListsAll_B7, agoralaw37_ListsAll_R25, agoralaw37_ListsAll_W2, agoralaw37_ListsAll_B6, agoralaw37_ListsAll_B3, agoralaw37_ListsAll_R12, agoralaw37_ListsAll_W3, agoralaw37_ListsAll_B2, agoralaw37_ListsAll_B1, agoralaw37_ListsAll_R8, agoralaw37_ListsAll_W4, agoralaw37_ListsAll_B0, agoralaw37_ListsAll_R27, agoralaw37_ListsAll_R28, agoralaw37_ListsAll_R30, agoralaw37_ListsAll_R31, agoralaw37_ListsAll_B9, agoralaw37_ListsAll_R29, agoralaw37_ListsAll_W5, agoralaw37_ListsAll_B8, agoralaw37_ListsAll_R32, agoralaw37_ListsAll_L, agoralaw37_ListsAll_ks, mixed, texts, chains, listings, chainB, actB]
            refine againM_i _ _ ?_ ?_ ⟨i + 1, rfl, hil, ?_, rfl⟩
            · omega
            · simp [-getElem?_pos, hwi, texts, chains, listings, chainB]
            · rw [seenM_all, hek, hea]; simp [-getElem?_pos]
    · have hie : i = cc.acts.length := by omega
      subst hie
      simp (config := { maxSteps := 10000000 }) [-getElem?_pos, List.lookup, agoralaw37_ListsAll_R0, agoralaw37_ListsAll_R1, agoralaw37_ListsAll_R2, agoralaw37_ListsAll_R3, agoralaw37_ListsAll_R4, agoralaw37_ListsAll_R5, agoralaw37_ListsAll_R6, agoralaw37_ListsAll_R7, agoralaw37_ListsAll_R9, agoralaw37_ListsAll_R10, agoralaw37_ListsAll_R11, agoralaw37_ListsAll_R13, agoralaw37_ListsAll_R14, agoralaw37_ListsAll_R15, agoralaw37_ListsAll_R16, agoralaw37_ListsAll_R17, agoralaw37_ListsAll_R19, agoralaw37_ListsAll_B5, agoralaw37_ListsAll_R18, agoralaw37_ListsAll_W1, agoralaw37_ListsAll_B4, agoralaw37_ListsAll_R20, agoralaw37_ListsAll_R21, agoralaw37_ListsAll_R22, agoralaw37_ListsAll_R23, agoralaw37_ListsAll_R24, agoralaw37_ListsAll_R26, agoralaw37_ListsAll_B7, agoralaw37_ListsAll_R25, agoralaw37_ListsAll_W2, agoralaw37_ListsAll_B6, agoralaw37_ListsAll_B3, agoralaw37_ListsAll_R12, agoralaw37_ListsAll_W3, agoralaw37_ListsAll_B2, agoralaw37_ListsAll_B1, agoralaw37_ListsAll_R8, agoralaw37_ListsAll_W4, agoralaw37_ListsAll_B0, agoralaw37_ListsAll_R27, agoralaw37_ListsAll_R28, agoralaw37_ListsAll_R30, agoralaw37_ListsAll_R31, agoralaw37_ListsAll_B9, agoralaw37_ListsAll_R29, agoralaw37_ListsAll_W5, agoralaw37_ListsAll_B8, agoralaw37_ListsAll_R32, agoralaw37_ListsAll_L, agoralaw37_ListsAll_ks, mixed, texts, chains, listings, chainB]
      refine againM_i _ _ ?_ ?_ ⟨j + 1, rfl, hjl, ?_, rfl⟩
      · omega
      · simp [-getElem?_pos, hwj, texts, chains, listings]
      · rw [hev]
  · have hje : j = ks.length := by omega
    subst hje
    simp (config := { maxSteps := 10000000 }) [-getElem?_pos, List.lookup, agoralaw37_ListsAll_R0, agoralaw37_ListsAll_R1, agoralaw37_ListsAll_R2, agoralaw37_ListsAll_R3, agoralaw37_ListsAll_R4, agoralaw37_ListsAll_R5, agoralaw37_ListsAll_R6, agoralaw37_ListsAll_R7, agoralaw37_ListsAll_R9, agoralaw37_ListsAll_R10, agoralaw37_ListsAll_R11, agoralaw37_ListsAll_R13, agoralaw37_ListsAll_R14, agoralaw37_ListsAll_R15, agoralaw37_ListsAll_R16, agoralaw37_ListsAll_R17, agoralaw37_ListsAll_R19, agoralaw37_ListsAll_B5, agoralaw37_ListsAll_R18, agoralaw37_ListsAll_W1, agoralaw37_ListsAll_B4, agoralaw37_ListsAll_R20, agoralaw37_ListsAll_R21, agoralaw37_ListsAll_R22, agoralaw37_ListsAll_R23, agoralaw37_ListsAll_R24, agoralaw37_ListsAll_R26, agoralaw37_ListsAll_B7, agoralaw37_ListsAll_R25, agoralaw37_ListsAll_W2, agoralaw37_ListsAll_B6, agoralaw37_ListsAll_B3, agoralaw37_ListsAll_R12, agoralaw37_ListsAll_W3, agoralaw37_ListsAll_B2, agoralaw37_ListsAll_B1, agoralaw37_ListsAll_R8, agoralaw37_ListsAll_W4, agoralaw37_ListsAll_B0, agoralaw37_ListsAll_R27, agoralaw37_ListsAll_R28, agoralaw37_ListsAll_R30, agoralaw37_ListsAll_R31, agoralaw37_ListsAll_B9, agoralaw37_ListsAll_R29, agoralaw37_ListsAll_W5, agoralaw37_ListsAll_B8, agoralaw37_ListsAll_R32, agoralaw37_ListsAll_L, agoralaw37_ListsAll_ks, mixed, texts, chains, listings]
    refine loopM_intro (fun m e st => ∃ n : Nat, m = L.length - n ∧ n ≤ L.length ∧ st = s ++ [.box (seenC L (evN cs now ks ks.length))] ∧
      e = [(20, .c (I n)), (9, .psl s.length 0 L.length), (8, listings L), (7, .c (.bool true)), (0, chains cs), (1, .c (texts ks)), (2, .c (I now))]) L.length _ ?_ ⟨0, rfl, Nat.zero_le _, rfl, rfl⟩ ?_
    · simp [-getElem?_pos, texts, chains, listings]
    rintro m e st ⟨n, rfl, hnl, rfl, rfl⟩
    by_cases hnn : n < L.length
    · obtain ⟨x, hx⟩ := get_of_lt hnn
      have hwn := wrap_succ hnn (by omega)
      have hg := seenC_get (E := evN cs now ks ks.length) hx
      rw [hall x (List.mem_of_getElem? hx)] at hg
      simp (config := { maxSteps := 10000000 }) [-getElem?_pos, List.lookup, agoralaw37_ListsAll_R0, agoralaw37_ListsAll_R1, agoralaw37_ListsAll_R2, agoralaw37_ListsAll_R3, agoralaw37_ListsAll_R4, agoralaw37_ListsAll_R5, agoralaw37_ListsAll_R6, agoralaw37_ListsAll_R7, agoralaw37_ListsAll_R9, agoralaw37_ListsAll_R10, agoralaw37_ListsAll_R11, agoralaw37_ListsAll_R13, agoralaw37_ListsAll_R14, agoralaw37_ListsAll_R15, agoralaw37_ListsAll_R16, agoralaw37_ListsAll_R17, agoralaw37_ListsAll_R19, agoralaw37_ListsAll_B5, agoralaw37_ListsAll_R18, agoralaw37_ListsAll_W1, agoralaw37_ListsAll_B4, agoralaw37_ListsAll_R20, agoralaw37_ListsAll_R21, agoralaw37_ListsAll_R22, agoralaw37_ListsAll_R23, agoralaw37_ListsAll_R24, agoralaw37_ListsAll_R26, agoralaw37_ListsAll_B7, agoralaw37_ListsAll_R25, agoralaw37_ListsAll_W2, agoralaw37_ListsAll_B6, agoralaw37_ListsAll_B3, agoralaw37_ListsAll_R12, agoralaw37_ListsAll_W3, agoralaw37_ListsAll_B2, agoralaw37_ListsAll_B1, agoralaw37_ListsAll_R8, agoralaw37_ListsAll_W4, agoralaw37_ListsAll_B0, agoralaw37_ListsAll_R27, agoralaw37_ListsAll_R28, agoralaw37_ListsAll_R30, agoralaw37_ListsAll_R31, agoralaw37_ListsAll_B9, agoralaw37_ListsAll_R29, agoralaw37_ListsAll_W5, agoralaw37_ListsAll_B8, agoralaw37_ListsAll_R32, agoralaw37_ListsAll_L, agoralaw37_ListsAll_ks, mixed, texts, chains, listings, hnn, hx, hg]
      refine againM_i _ _ ?_ ?_ ⟨n + 1, rfl, hnn, rfl, rfl⟩
      · omega
      · simp [-getElem?_pos, hwn, texts, chains, listings]
    · simp (config := { maxSteps := 10000000 }) [-getElem?_pos, List.lookup, agoralaw37_ListsAll_R0, agoralaw37_ListsAll_R1, agoralaw37_ListsAll_R2, agoralaw37_ListsAll_R3, agoralaw37_ListsAll_R4, agoralaw37_ListsAll_R5, agoralaw37_ListsAll_R6, agoralaw37_ListsAll_R7, agoralaw37_ListsAll_R9, agoralaw37_ListsAll_R10, agoralaw37_ListsAll_R11, agoralaw37_ListsAll_R13, agoralaw37_ListsAll_R14, agoralaw37_ListsAll_R15, agoralaw37_ListsAll_R16, agoralaw37_ListsAll_R17, agoralaw37_ListsAll_R19, agoralaw37_ListsAll_B5, agoralaw37_ListsAll_R18, agoralaw37_ListsAll_W1, agoralaw37_ListsAll_B4, agoralaw37_ListsAll_R20, agoralaw37_ListsAll_R21, agoralaw37_ListsAll_R22, agoralaw37_ListsAll_R23, agoralaw37_ListsAll_R24, agoralaw37_ListsAll_R26, agoralaw37_ListsAll_B7, agoralaw37_ListsAll_R25, agoralaw37_ListsAll_W2, agoralaw37_ListsAll_B6, agoralaw37_ListsAll_B3, agoralaw37_ListsAll_R12, agoralaw37_ListsAll_W3, agoralaw37_ListsAll_B2, agoralaw37_ListsAll_B1, agoralaw37_ListsAll_R8, agoralaw37_ListsAll_W4, agoralaw37_ListsAll_B0, agoralaw37_ListsAll_R27, agoralaw37_ListsAll_R28, agoralaw37_ListsAll_R30, agoralaw37_ListsAll_R31, agoralaw37_ListsAll_B9, agoralaw37_ListsAll_R29, agoralaw37_ListsAll_W5, agoralaw37_ListsAll_B8, agoralaw37_ListsAll_R32, agoralaw37_ListsAll_L, agoralaw37_ListsAll_ks, mixed, texts, chains, listings, hnn]
end Go.Proofs.YthkmfboffnhkaaaGreatDoor
