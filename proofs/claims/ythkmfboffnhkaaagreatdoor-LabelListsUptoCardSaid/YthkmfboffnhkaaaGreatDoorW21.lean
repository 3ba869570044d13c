/-
  Walks: lists.Of.
-/
import Derived.Test.YthkmfboffnhkaaaGreatDoorW20
set_option linter.all false
namespace Go.Proofs.YthkmfboffnhkaaaGreatDoor
open Go Go.L1
set_option maxRecDepth 100000
set_option maxHeartbeats 4000000

/-- The best entries, in a map. -/
def bestC (b : List (Str × Entry)) : List (List C × List C) := b.map fun p => ([.str p.1], p.2.cells)
theorem bestC_keys (b : List (Str × Entry)) : keysIn .string (bestC b) = true := by
  simp [-getElem?_pos, bestC, keysIn, keyIn1, keyIn]
theorem mfind_best (k : Str) : ∀ (b : List (Str × Entry)) (i : Nat), (getB k b = none ∧ mfind (.str k) (bestC b) i = none) ∨ ∃ e j, getB k b = some e ∧ mfind (.str k) (bestC b) i = some (i + j, e.cells) ∧ putB k = (fun x b => if b.length = 0 then putB k x b else putB k x b) ∧ ∀ x : Entry, bestC (putB k x b) = (bestC b).set j ([.str k], x.cells)
  | [], i => .inl ⟨rfl, rfl⟩
  | p :: r, i => by
    by_cases h : p.1 = k
    · right
      refine ⟨p.2, 0, by simp [-getElem?_pos, getB, h], by simp [-getElem?_pos, bestC, mfind, sameC, h], by funext x b; simp [-getElem?_pos], fun x => by simp [-getElem?_pos, putB, h, bestC]⟩
    · have h2 : sameC (.str k) [.str p.1] = false := by simp [-getElem?_pos, sameC]; exact fun he => h he.symm
      rcases mfind_best k r (i + 1) with ⟨h3, h4⟩ | ⟨e, j, h3, h4, h5, h6⟩
      · left
        refine ⟨by simp [-getElem?_pos, getB, h, h3], ?_⟩
        simp only [bestC, List.map_cons, mfind, h2, Bool.false_eq_true, if_false]
        exact h4
      · right
        refine ⟨e, j + 1, by simp [-getElem?_pos, getB, h, h3], ?_, h5, fun x => ?_⟩
        · simp only [bestC, List.map_cons, mfind, h2, Bool.false_eq_true, if_false]
          rw [show (r.map fun p => ([C.str p.1], p.2.cells)) = bestC r from rfl, h4]
          congr 2; omega
        · have := h6 x
          simp only [bestC] at this ⊢
          simp [-getElem?_pos, putB, h, this]
theorem putB_new {k : Str} (x : Entry) : ∀ {b : List (Str × Entry)}, getB k b = none → putB k x b = b ++ [(k, x)]
  | [], _ => rfl
  | p :: r, h => by
    simp only [getB] at h
    split at h
    · cases h
    · next hp => simp [-getElem?_pos, putB, hp, putB_new x h]
theorem mput_best (k : Str) (x : Entry) (b : List (Str × Entry)) : mput (.str k) x.cells (bestC b) = bestC (putB k x b) := by
  unfold mput
  rcases mfind_best k b 0 with ⟨h1, h2⟩ | ⟨e, j, h1, h2, _, h4⟩
  · rw [h2, putB_new x h1]; simp [-getElem?_pos, bestC]
  · rw [h2, h4]; simp [-getElem?_pos]
theorem find_best (k : Str) (b : List (Str × Entry)) : (getB k b = none ∧ mfind (.str k) (bestC b) 0 = none) ∨ ∃ e j, getB k b = some e ∧ mfind (.str k) (bestC b) 0 = some (j, e.cells) := by
  rcases mfind_best k b 0 with h | ⟨e, j, h1, h2, _⟩
  · exact .inl h
  · exact .inr ⟨e, 0 + j, h1, h2⟩
/-- In ascending entries a key leads to its own. -/
theorem find_ent {m : List (Nat × Entry)} (hs : m.Pairwise fun p q => p.1 < q.1) {q : Nat} {p : Nat × Entry} (hp : m[q]? = some p) : ∃ j, mfind (I p.1) (entC m) 0 = some (j, p.2.cells) := by
  rw [mfind_ent]
  have hq := lt_of_some hp
  have hf : m.findIdx? (fun x => x.1 == p.1) = some q := by
    rw [List.findIdx?_eq_some_iff_getElem]
    rw [List.getElem?_eq_getElem hq] at hp
    injection hp with hp
    refine ⟨hq, by rw [hp]; simp [-getElem?_pos], fun j hj => ?_⟩
    have := List.pairwise_iff_getElem.1 hs j q (by omega) hq hj
    rw [hp] at this
    simp [-getElem?_pos]; omega
  simp [-getElem?_pos, hf, hp]
theorem bestS_len (now : Int) (es : List Entry) : (bestS now es).length ≤ es.length := by
  have hp : ∀ (k : Str) (e : Entry) (b : List (Str × Entry)), (putB k e b).length ≤ b.length + 1 := by
    intro k e b
    induction b with
    | nil => simp [-getElem?_pos, putB]
    | cons p r ih => simp only [putB]; split <;> simp [-getElem?_pos] <;> omega
  have key : ∀ (l : List Entry) (b : List (Str × Entry)), (l.foldl (stepB now) b).length ≤ b.length + l.length := by
    intro l
    induction l with
    | nil => simp [-getElem?_pos]
    | cons e l ih =>
      intro b
      have h1 := ih (stepB now b e)
      have h2 : (stepB now b e).length ≤ b.length + 1 := by
        unfold stepB
        split
        · exact hp _ _ _
        · omega
      simp only [List.foldl_cons, List.length_cons]; omega
  have := key es []
  simpa [-getElem?_pos, bestS] using this
theorem entN_len (dg : Act → Str) (acts : List Act) (k : Str) : ∀ n, (entN dg acts k n).length ≤ n
  | 0 => by simp [-getElem?_pos, entN]
  | n + 1 => by
    have ih := entN_len dg acts k n
    have hl := fun p => (List.eraseP_sublist (p := p) (l := entN dg acts k n)).length_le
    simp only [entN]
    split
    · simp only [stepE]
      split
      · simp [-getElem?_pos]; omega
      · split
        · split
          · split
            · exact Nat.le_trans (hl _) (by omega)
            · omega
          · omega
        · omega
    · omega
theorem allS_len (dg : Act → Str) (cs : List Chain) (ks : List Str) (h : ∀ k ∈ ks, (findC cs k).acts.length ≤ 1000) : (allS dg cs ks).length ≤ 1000 * ks.length := by
  induction ks with
  | nil => simp [-getElem?_pos, allS]
  | cons k r ih =>
    have h1 := ih fun k hk => h k (List.mem_cons_of_mem _ hk)
    have h2 := h k (List.mem_cons_self ..)
    have h3 := entN_len dg (findC cs k).acts k (findC cs k).acts.length
    simp only [allS, List.flatMap_cons, List.length_append, List.length_map, entriesS, List.length_cons] at *
    omega
theorem ints_sorted {m : List (Nat × Entry)} (hs : m.Pairwise fun p q => p.1 < q.1) : (m.map fun p => (p.1 : Int)).mergeSort (fun x y => decide (x ≤ y)) = m.map fun p => (p.1 : Int) := by
  apply List.mergeSort_of_pairwise
  rw [List.pairwise_map]
  refine hs.imp ?_
  intro a b hab
  simp [-getElem?_pos]; omega
theorem get_mid {α : Type} (s x y : List α) (a b : α) : (s ++ a :: (x ++ b :: y))[s.length + 1 + x.length]? = some b := by
  rw [List.getElem?_append_right (by omega)]
  rw [show s.length + 1 + x.length - s.length = x.length + 1 by omega, List.getElem?_cons_succ, List.getElem?_append_right (by omega)]
  simp [-getElem?_pos]
theorem get_mid1 {α : Type} (s x : List α) (a b c : α) : (s ++ a :: (x ++ [b, c]))[s.length + (x.length + 1)]? = some b := by
  rw [List.getElem?_append_right (by omega)]
  rw [show s.length + (x.length + 1) - s.length = x.length + 1 by omega, List.getElem?_cons_succ, List.getElem?_append_right (by omega)]
  simp [-getElem?_pos]
theorem get_mid2 {α : Type} (s x : List α) (a b c : α) : (s ++ a :: (x ++ [b, c]))[s.length + (x.length + 1 + 1)]? = some c := by
  rw [List.getElem?_append_right (by omega)]
  rw [show s.length + (x.length + 1 + 1) - s.length = x.length + 1 + 1 by omega, List.getElem?_cons_succ, List.getElem?_append_right (by omega)]
  simp [-getElem?_pos]
theorem wf_small {n : Int} (h0 : 0 ≤ n) (h : n < 9223372036854775807) : (Lit.int .i64 n).wf = true := by
  simp [-getElem?_pos, Lit.wf, IntKind.min, IntKind.max, IntKind.signed, IntKind.bits]; omega
theorem get_at {α : Type} (s x : List α) (a : α) : (s ++ a :: x)[s.length]? = some a := by
  rw [List.getElem?_append_right (by omega)]; simp [-getElem?_pos]
theorem get_end2 {α : Type} (s x : List α) (a b : α) : (s ++ a :: (x ++ [b]))[s.length + (x.length + 1)]? = some b := by
  rw [List.getElem?_append_right (by omega)]
  rw [show s.length + (x.length + 1) - s.length = x.length + 1 by omega, List.getElem?_cons_succ, List.getElem?_append_right (by omega)]
  simp [-getElem?_pos]
theorem set_mid1 {α : Type} (s x : List α) (a b c b' : α) : (s ++ a :: (x ++ [b, c])).set (s.length + (x.length + 1)) b' = s ++ a :: (x ++ [b', c]) := by
  rw [List.set_append_right _ _ (by omega)]
  rw [show s.length + (x.length + 1) - s.length = x.length + 1 by omega, List.set_cons_succ, List.set_append_right _ _ (by omega)]
  simp [-getElem?_pos]
def listings (l : List Listing) : V := .c (.sl (l.map Listing.cells))
theorem of_ok (cs : List Chain) (ks : List Str) (now : Int) (hcs : cs.length ≤ 1073741824) (hc : ∀ k ∈ ks, ∀ a ∈ (findC cs k).acts, a.Fits) (hl : ∀ k ∈ ks, (findC cs k).acts.length ≤ 1000) (hks : ks.length ≤ 1000000) (s : List SO) :
    FnOK Tryz.prog GW 17 [chains cs, .c (texts ks), .c (.int .i64 now)] s (listings (ofS digestS cs ks now)) s := by
  refine lists_Of_pu { own := [(16, 30, 4)], frz := [(999, [6])] } (by simp [-getElem?_pos]) rfl ?_
  simp [-getElem?_pos, List.lookup, lists_Of_R0, lists_Of_R1, lists_Of_R2, lists_Of_R3, lists_Of_R4, lists_Of_R5, lists_Of_R6, lists_Of_R7, lists_Of_R8, lists_Of_R9, lists_Of_R10, lists_Of_R11, lists_Of_R12, lists_Of_B3, lists_Of_R13, lists_Of_W1, lists_Of_B2, lists_Of_B1, lists_Of_R14, lists_Of_W2, lists_Of_B0, lists_Of_R15, lists_Of_R16, lists_Of_R17, lists_Of_R18, lists_Of_R19, lists_Of_B5, lists_Of_R20, lists_Of_W3, lists_Of_B4, lists_Of_R21, lists_Of_L, lists_Of_ks, mixed, chains, texts]
  refine loopM_intro (fun m e st => ∃ (i : Nat) (ex : List SO), m = ks.length - i ∧ i ≤ ks.length ∧ st = s ++ .map false true (bestC (bestS now (allS digestS cs (ks.take i)))) :: ex ∧
    e = [(22, .c (I i)), (21, .c (I ks.length)), (20, .c (texts ks)), (7, .mref s.length), (0, chains cs), (2, .c (I now))]) ks.length _ ?_ ⟨0, [], rfl, Nat.zero_le _, by simp [-getElem?_pos, allS, bestS, bestC], rfl⟩ ?_
  · simp [-getElem?_pos, texts, chains]
  rintro m e st ⟨i, ex, rfl, hi, rfl, rfl⟩
  by_cases h : i < ks.length
  · obtain ⟨k, hk⟩ := get_of_lt h
    have hkm := List.mem_of_getElem? hk
    have hw := wrap_succ h (by omega)
    simp [-getElem?_pos, List.lookup, lists_Of_R0, lists_Of_R1, lists_Of_R2, lists_Of_R3, lists_Of_R4, lists_Of_R5, lists_Of_R6, lists_Of_R7, lists_Of_R8, lists_Of_R9, lists_Of_R10, lists_Of_R11, lists_Of_R12, lists_Of_B3, lists_Of_R13, lists_Of_W1, lists_Of_B2, lists_Of_B1, lists_Of_R14, lists_Of_W2, lists_Of_B0, lists_Of_R15, lists_Of_R16, lists_Of_R17, lists_Of_R18, lists_Of_R19, lists_Of_B5, lists_Of_R20, lists_Of_W3, lists_Of_B4, lists_Of_R21, lists_Of_L, lists_Of_ks, mixed, texts, chains, h, hk]
    refine callW2 (entries_ok cs k hcs (hc k hkm) (by have := hl k hkm; omega) _) rfl ?_
    simp [-getElem?_pos, List.lookup, lists_Of_R0, lists_Of_R1, lists_Of_R2, lists_Of_R3, lists_Of_R4, lists_Of_R5, lists_Of_R6, lists_Of_R7, lists_Of_R8, lists_Of_R9, lists_Of_R10, lists_Of_R11, lists_Of_R12, lists_Of_B3, lists_Of_R13, lists_Of_W1, lists_Of_B2, lists_Of_B1, lists_Of_R14, lists_Of_W2, lists_Of_B0, lists_Of_R15, lists_Of_R16, lists_Of_R17, lists_Of_R18, lists_Of_R19, lists_Of_B5, lists_Of_R20, lists_Of_W3, lists_Of_B4, lists_Of_R21, lists_Of_L, lists_Of_ks, mixed]
    refine callW2 (keys_of (F := 98) (by kernel_rfl) Tryz.keysI_in) rfl ?_
    simp [-getElem?_pos, List.lookup, lists_Of_R0, lists_Of_R1, lists_Of_R2, lists_Of_R3, lists_Of_R4, lists_Of_R5, lists_Of_R6, lists_Of_R7, lists_Of_R8, lists_Of_R9, lists_Of_R10, lists_Of_R11, lists_Of_R12, lists_Of_B3, lists_Of_R13, lists_Of_W1, lists_Of_B2, lists_Of_B1, lists_Of_R14, lists_Of_W2, lists_Of_B0, lists_Of_R15, lists_Of_R16, lists_Of_R17, lists_Of_R18, lists_Of_R19, lists_Of_B5, lists_Of_R20, lists_Of_W3, lists_Of_B4, lists_Of_R21, lists_Of_L, lists_Of_ks, mixed]
    have hsrt : (entriesS digestS cs k).Pairwise (fun p q => p.1 < q.1) := entN_sorted _
    have hmk : ∀ p ∈ entriesS digestS cs k, p.1 < 1000 := fun p hp => by
      have h1 := (entN_mem _ p hp).1
      have h2 := hl k hkm
      omega
    have hmlen : (entriesS digestS cs k).length ≤ 1000 := Nat.le_trans (entN_len _ _ _ _) (hl k hkm)
    have hbase : allS digestS cs (ks.take (i + 1)) = allS digestS cs (ks.take i) ++ (entriesS digestS cs k).map (·.2) := by
      rw [List.take_add_one, hk]; simp [-getElem?_pos, allS]
    generalize entriesS digestS cs k = m at *
    have hnd : (m.map fun p => (p.1 : Int)).Nodup := by
      rw [List.nodup_iff_pairwise_ne, List.pairwise_map]
      exact hsrt.imp (fun hab he => by omega)
    refine callW1 (sortedInts_ok (m.map fun p => (p.1 : Int)) (entC m) (by simp [-getElem?_pos, entC]) hnd (fun q hq => by
      obtain ⟨p, hp, rfl⟩ := List.mem_map.1 hq
      have := hmk p hp
      exact wf_small (by omega) (by omega)) (by simp [-getElem?_pos]; omega) (get_mid2 _ _ _ _ _) (get_mid1 _ _ _ _ _)) rfl ?_
    rw [ints_sorted hsrt]
    simp [-getElem?_pos, List.lookup, lists_Of_R0, lists_Of_R1, lists_Of_R2, lists_Of_R3, lists_Of_R4, lists_Of_R5, lists_Of_R6, lists_Of_R7, lists_Of_R8, lists_Of_R9, lists_Of_R10, lists_Of_R11, lists_Of_R12, lists_Of_B3, lists_Of_R13, lists_Of_W1, lists_Of_B2, lists_Of_B1, lists_Of_R14, lists_Of_W2, lists_Of_B0, lists_Of_R15, lists_Of_R16, lists_Of_R17, lists_Of_R18, lists_Of_R19, lists_Of_B5, lists_Of_R20, lists_Of_W3, lists_Of_B4, lists_Of_R21, lists_Of_L, lists_Of_ks, mixed]
    refine loopM_intro (fun n e st => ∃ q : Nat, n = m.length - q ∧ q ≤ m.length ∧
      st = s ++ .map false true (bestC (((m.take q).map (·.2)).foldl (stepB now) (bestS now (allS digestS cs (ks.take i))))) :: (ex ++ [.map false true (entC m), .box [.mref (s.length + (ex.length + 1))]]) ∧
      e = [(33, .c (I q)), (32, .c (I m.length)), (31, .c (.sl (m.map fun p => [I p.1]))), (22, .c (I i)), (21, .c (I ks.length)), (20, .c (texts ks)), (10, .mref (s.length + (ex.length + 1))), (7, .mref s.length), (0, chains cs), (2, .c (I now))])
      m.length _ ?_ ⟨0, rfl, Nat.zero_le _, by simp [-getElem?_pos], rfl⟩ ?_
    · simp [-getElem?_pos, texts, chains, Function.comp_def]
    rintro n e st ⟨q, rfl, hq, rfl, rfl⟩
    have hg1 := fun a => get_mid1 s ex a (.map false true (entC m)) (.box [.mref (s.length + (ex.length + 1))])
    by_cases hqm : q < m.length
    · obtain ⟨p, hp⟩ := get_of_lt hqm
      have hwq := wrap_succ hqm (by omega)
      obtain ⟨j, hj⟩ := find_ent hsrt hp
      have hnext : ((m.take (q + 1)).map (·.2)).foldl (stepB now) (bestS now (allS digestS cs (ks.take i))) = stepB now (((m.take q).map (·.2)).foldl (stepB now) (bestS now (allS digestS cs (ks.take i)))) p.2 := by
        rw [List.take_add_one, hp]; simp [-getElem?_pos]
      generalize ((m.take q).map (·.2)).foldl (stepB now) (bestS now (allS digestS cs (ks.take i))) = B at *
      simp (config := { maxSteps := 10000000 }) [-getElem?_pos, List.lookup, lists_Of_R0, lists_Of_R1, lists_Of_R2, lists_Of_R3, lists_Of_R4, lists_Of_R5, lists_Of_R6, lists_Of_R7, lists_Of_R8, lists_Of_R9, lists_Of_R10, lists_Of_R11, lists_Of_R12, lists_Of_B3, lists_Of_R13, lists_Of_W1, lists_Of_B2, lists_Of_B1, lists_Of_R14, lists_Of_W2, lists_Of_B0, lists_Of_R15, lists_Of_R16, lists_Of_R17, lists_Of_R18, lists_Of_R19, lists_Of_B5, lists_Of_R20, lists_Of_W3, lists_Of_B4, lists_Of_R21, lists_Of_L, lists_Of_ks, mixed, texts, chains, hqm, hp, hg1, hj, entC_keys, Entry.cells]
      rcases find_best p.2.l.actor B with ⟨hb1, hb2⟩ | ⟨o, j', hb1, hb2⟩
      · simp (config := { maxSteps := 10000000 }) [-getElem?_pos, List.lookup, lists_Of_R0, lists_Of_R1, lists_Of_R2, lists_Of_R3, lists_Of_R4, lists_Of_R5, lists_Of_R6, lists_Of_R7, lists_Of_R8, lists_Of_R9, lists_Of_R10, lists_Of_R11, lists_Of_R12, lists_Of_B3, lists_Of_R13, lists_Of_W1, lists_Of_B2, lists_Of_B1, lists_Of_R14, lists_Of_W2, lists_Of_B0, lists_Of_R15, lists_Of_R16, lists_Of_R17, lists_Of_R18, lists_Of_R19, lists_Of_B5, lists_Of_R20, lists_Of_W3, lists_Of_B4, lists_Of_R21, lists_Of_L, lists_Of_ks, mixed, hb2, bestC_keys]
        have hput := mput_best p.2.l.actor p.2 B
        simp only [Entry.cells] at hput
        refine exY_i true ⟨fun _ => exY_i true rfl, fun hu _ => againM_i _ _ ?_ ?_ ⟨q + 1, rfl, hqm, ?_, rfl⟩, fun hu => againM_i _ _ ?_ ?_ ⟨q + 1, rfl, hqm, ?_, rfl⟩⟩
        · omega
        · simp [-getElem?_pos, hwq, texts, chains]
        · rw [hput, hnext]; simp [-getElem?_pos, stepB, hu, winsO, hb1]
        · omega
        · simp [-getElem?_pos, hwq, texts, chains]
        · have hu' : ¬ now < p.2.l.until_ := fun h => by cases hu h
          rw [hnext]; simp [-getElem?_pos, stepB, hu']
      · simp (config := { maxSteps := 10000000 }) [-getElem?_pos, List.lookup, lists_Of_R0, lists_Of_R1, lists_Of_R2, lists_Of_R3, lists_Of_R4, lists_Of_R5, lists_Of_R6, lists_Of_R7, lists_Of_R8, lists_Of_R9, lists_Of_R10, lists_Of_R11, lists_Of_R12, lists_Of_B3, lists_Of_R13, lists_Of_W1, lists_Of_B2, lists_Of_B1, lists_Of_R14, lists_Of_W2, lists_Of_B0, lists_Of_R15, lists_Of_R16, lists_Of_R17, lists_Of_R18, lists_Of_R19, lists_Of_B5, lists_Of_R20, lists_Of_W3, lists_Of_B4, lists_Of_R21, lists_Of_L, lists_Of_ks, mixed, hb2, bestC_keys, Entry.cells]
        have hput := mput_best p.2.l.actor p.2 B
        simp only [Entry.cells] at hput
        refine exY_i (better p.2 o) ⟨fun _ => exY_i (better p.2 o) ⟨exY_i (decide (againstS p.2 o > 0)) ⟨fun _ => callW0 (against_ok p.2 o) rfl (by simp [-getElem?_pos, List.lookup, lists_Of_R0, lists_Of_R1, lists_Of_R2, lists_Of_R3, lists_Of_R4, lists_Of_R5, lists_Of_R6, lists_Of_R7, lists_Of_R8, lists_Of_R9, lists_Of_R10, lists_Of_R11, lists_Of_R12, lists_Of_B3, lists_Of_R13, lists_Of_W1, lists_Of_B2, lists_Of_B1, lists_Of_R14, lists_Of_W2, lists_Of_B0, lists_Of_R15, lists_Of_R16, lists_Of_R17, lists_Of_R18, lists_Of_R19, lists_Of_B5, lists_Of_R20, lists_Of_W3, lists_Of_B4, lists_Of_R21, lists_Of_L, lists_Of_ks]), ?_⟩, rfl⟩, fun hu hbt => againM_i _ _ ?_ ?_ ⟨q + 1, rfl, hqm, ?_, rfl⟩, fun hu => againM_i _ _ ?_ ?_ ⟨q + 1, rfl, hqm, ?_, rfl⟩⟩
        · rw [against_better]
          cases hbt : better p.2 o
          · simp [-getElem?_pos]
          · have hne : p.2 ≠ o := fun he => by rw [he, better_irrefl] at hbt; cases hbt
            simp [-getElem?_pos]
            refine Classical.byContradiction fun hcc => hne ?_
            obtain ⟨⟨a1, a2, a3, a4⟩, a5⟩ := o
            generalize p.2 = pe at *
            obtain ⟨⟨b1, b2, b3, b4⟩, b5⟩ := pe
            simp [-getElem?_pos] at hcc ⊢
            simp_all
            exact hne (by omega)
        · omega
        · simp [-getElem?_pos, hwq, texts, chains]
        · rw [hput, hnext]; simp [-getElem?_pos, stepB, hu, winsO, hb1, hbt]
        · omega
        · simp [-getElem?_pos, hwq, texts, chains]
        · rw [hnext]
          unfold stepB
          rw [hb1]
          by_cases hu' : now < p.2.l.until_
          · simp [-getElem?_pos, winsO, hu hu']
          · simp [-getElem?_pos, hu']
    · have he : q = m.length := by omega
      subst he
      simp (config := { maxSteps := 10000000 }) [-getElem?_pos, List.lookup, lists_Of_R0, lists_Of_R1, lists_Of_R2, lists_Of_R3, lists_Of_R4, lists_Of_R5, lists_Of_R6, lists_Of_R7, lists_Of_R8, lists_Of_R9, lists_Of_R10, lists_Of_R11, lists_Of_R12, lists_Of_B3, lists_Of_R13, lists_Of_W1, lists_Of_B2, lists_Of_B1, lists_Of_R14, lists_Of_W2, lists_Of_B0, lists_Of_R15, lists_Of_R16, lists_Of_R17, lists_Of_R18, lists_Of_R19, lists_Of_B5, lists_Of_R20, lists_Of_W3, lists_Of_B4, lists_Of_R21, lists_Of_L, lists_Of_ks, mixed, texts, chains]
      refine againM_i _ _ ?_ ?_ ⟨i + 1, ex ++ [.map false true (entC m), .box [.mref (s.length + (ex.length + 1))]], rfl, h, ?_, rfl⟩
      · omega
      · simp [-getElem?_pos, hw, texts, chains]
      · rw [hbase]; simp [-getElem?_pos, bestS]
  · have he : i = ks.length := by omega
    subst he
    simp [-getElem?_pos, List.lookup, lists_Of_R0, lists_Of_R1, lists_Of_R2, lists_Of_R3, lists_Of_R4, lists_Of_R5, lists_Of_R6, lists_Of_R7, lists_Of_R8, lists_Of_R9, lists_Of_R10, lists_Of_R11, lists_Of_R12, lists_Of_B3, lists_Of_R13, lists_Of_W1, lists_Of_B2, lists_Of_B1, lists_Of_R14, lists_Of_W2, lists_Of_B0, lists_Of_R15, lists_Of_R16, lists_Of_R17, lists_Of_R18, lists_Of_R19, lists_Of_B5, lists_Of_R20, lists_Of_W3, lists_Of_B4, lists_Of_R21, lists_Of_L, lists_Of_ks, mixed, texts, chains]
    refine callW2 (keys_of (F := 102) (by kernel_rfl) Tryz.keysS_in) rfl ?_
    simp [-getElem?_pos, List.lookup, lists_Of_R0, lists_Of_R1, lists_Of_R2, lists_Of_R3, lists_Of_R4, lists_Of_R5, lists_Of_R6, lists_Of_R7, lists_Of_R8, lists_Of_R9, lists_Of_R10, lists_Of_R11, lists_Of_R12, lists_Of_B3, lists_Of_R13, lists_Of_W1, lists_Of_B2, lists_Of_B1, lists_Of_R14, lists_Of_W2, lists_Of_B0, lists_Of_R15, lists_Of_R16, lists_Of_R17, lists_Of_R18, lists_Of_R19, lists_Of_B5, lists_Of_R20, lists_Of_W3, lists_Of_B4, lists_Of_R21, lists_Of_L, lists_Of_ks, mixed]
    have hbo := bestS_ok now (allS digestS cs ks)
    have hblen : (bestS now (allS digestS cs ks)).length ≤ 1000000000 := by
      have h1 := bestS_len now (allS digestS cs ks)
      have h2 := allS_len digestS cs ks hl
      omega
    have hof : ofS digestS cs ks now = outS (bestS now (allS digestS cs ks)) := rfl
    have hact : ∀ k ∈ (bestS now (allS digestS cs ks)).map (·.1), k.length ≤ 9223372036854775807 := by
      intro k hk
      obtain ⟨e, he⟩ := getB_of_mem hk
      obtain ⟨h1, h2, _⟩ := hbo.mem k e he
      obtain ⟨kk, hkk, p, hp, rfl⟩ := mem_allS.1 h1
      obtain ⟨a, ha, _, hpa⟩ := entriesS_at hp
      have := (hc kk hkk a (List.mem_of_getElem? ha)).target
      rw [hpa] at h2
      simp only [entryOf] at h2
      simp only [tooBig] at this
      rw [← h2]; omega
    rw [hof]
    generalize hB : bestS now (allS digestS cs ks) = B at *
    refine callW1 (sortedStrs_ok (B.map (·.1)) (bestC B) (by simp [-getElem?_pos, bestC]) hbo.nodup hact (by simpa [-getElem?_pos] using hblen) (get_mid2 _ _ _ _ _) (get_at _ _ _)) rfl ?_
    rw [show ((B.map (·.1)).mergeSort fun x y => decide (x ≤ y)) = sorted (B.map (·.1)) from rfl]
    simp [-getElem?_pos, List.lookup, lists_Of_R0, lists_Of_R1, lists_Of_R2, lists_Of_R3, lists_Of_R4, lists_Of_R5, lists_Of_R6, lists_Of_R7, lists_Of_R8, lists_Of_R9, lists_Of_R10, lists_Of_R11, lists_Of_R12, lists_Of_B3, lists_Of_R13, lists_Of_W1, lists_Of_B2, lists_Of_B1, lists_Of_R14, lists_Of_W2, lists_Of_B0, lists_Of_R15, lists_Of_R16, lists_Of_R17, lists_Of_R18, lists_Of_R19, lists_Of_B5, lists_Of_R20, lists_Of_W3, lists_Of_B4, lists_Of_R21, lists_Of_L, lists_Of_ks, mixed]
    have hSl : (sorted (B.map (·.1))).length = B.length := by rw [(sorted_perm _).length_eq, List.length_map]
    have hSm : ∀ k ∈ sorted (B.map (·.1)), ∃ e, getB k B = some e := fun k hk => getB_of_mem ((sorted_perm _).mem_iff.1 hk)
    have hout : outS B = (sorted (B.map (·.1))).map fun k => ((getB k B).map (·.l)).getD noListing := rfl
    rw [hout]
    generalize sorted (B.map (·.1)) = S at *
    refine loopM_intro (fun n e st => ∃ q ep : Nat, n = S.length - q ∧ q ≤ S.length ∧
      st = s ++ .map false true (bestC B) :: (ex ++ [.arr 30 4 ep ((S.take q).map fun k => (((getB k B).map (·.l)).getD noListing).cells), .box [.mref s.length]]) ∧
      e = [(79, .c (I q)), (78, .c (I S.length)), (77, .c (.sl (S.map fun k => [.str k]))), (16, .own (s.length + (ex.length + 1)) ep), (7, .mref s.length)]) S.length _ ?_ ⟨0, 0, rfl, Nat.zero_le _, by simp [-getElem?_pos], rfl⟩ ?_
    · simp [-getElem?_pos]
    rintro n e st ⟨q, ep, rfl, hq, rfl, rfl⟩
    have hg1 := fun a b => get_mid1 s ex a b (.box [.mref s.length])
    have hs1 := fun a b b' => set_mid1 s ex a b (.box [.mref s.length]) b'
    by_cases hqs : q < S.length
    · obtain ⟨k, hk⟩ := get_of_lt hqs
      have hwq := wrap_succ hqs (by omega)
      obtain ⟨e, he⟩ := hSm k (List.mem_of_getElem? hk)
      have hfd : ∃ j, mfind (.str k) (bestC B) 0 = some (j, e.cells) := by
        rcases find_best k B with ⟨h1, _⟩ | ⟨o, j, h1, h2⟩
        · rw [he] at h1; cases h1
        · rw [he] at h1; injection h1 with h1; subst h1; exact ⟨j, h2⟩
      obtain ⟨j, hj⟩ := hfd
      have hmin : min q S.length = q := by omega
      simp (config := { maxSteps := 10000000 }) [-getElem?_pos, List.lookup, lists_Of_R0, lists_Of_R1, lists_Of_R2, lists_Of_R3, lists_Of_R4, lists_Of_R5, lists_Of_R6, lists_Of_R7, lists_Of_R8, lists_Of_R9, lists_Of_R10, lists_Of_R11, lists_Of_R12, lists_Of_B3, lists_Of_R13, lists_Of_W1, lists_Of_B2, lists_Of_B1, lists_Of_R14, lists_Of_W2, lists_Of_B0, lists_Of_R15, lists_Of_R16, lists_Of_R17, lists_Of_R18, lists_Of_R19, lists_Of_B5, lists_Of_R20, lists_Of_W3, lists_Of_B4, lists_Of_R21, lists_Of_L, lists_Of_ks, mixed, hqs, hk, hj, bestC_keys, Entry.cells, hg1, hs1, hmin]
      refine ⟨by omega, by omega, againM_i _ _ ?_ ?_ ⟨q + 1, ep + 1, rfl, hqs, ?_, rfl⟩⟩
      · omega
      · simp [-getElem?_pos, hwq]
      · rw [List.take_add_one, hk]; simp [-getElem?_pos, he, Listing.cells]
    · have he : q = S.length := by omega
      subst he
      simp (config := { maxSteps := 10000000 }) [-getElem?_pos, List.lookup, lists_Of_R0, lists_Of_R1, lists_Of_R2, lists_Of_R3, lists_Of_R4, lists_Of_R5, lists_Of_R6, lists_Of_R7, lists_Of_R8, lists_Of_R9, lists_Of_R10, lists_Of_R11, lists_Of_R12, lists_Of_B3, lists_Of_R13, lists_Of_W1, lists_Of_B2, lists_Of_B1, lists_Of_R14, lists_Of_W2, lists_Of_B0, lists_Of_R15, lists_Of_R16, lists_Of_R17, lists_Of_R18, lists_Of_R19, lists_Of_B5, lists_Of_R20, lists_Of_W3, lists_Of_B4, lists_Of_R21, lists_Of_L, lists_Of_ks, mixed, hg1, hs1, listings]
end Go.Proofs.YthkmfboffnhkaaaGreatDoor
