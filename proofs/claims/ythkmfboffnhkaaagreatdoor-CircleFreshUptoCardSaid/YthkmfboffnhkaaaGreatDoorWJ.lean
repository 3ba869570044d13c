/-
  Walks: lists.Of.
  Walks: the laws' helpers.
  Walks: facts that the laws of the lists share.
-/
import Derived.Test.YthkmfboffnhkaaaGreatDoorWI
set_option linter.all false
namespace Go.Proofs.YthkmfboffnhkaaaGreatDoor
attribute [local simp] lists_Of_R0 lists_Of_R1 lists_Of_R2 lists_Of_R3 lists_Of_R4 lists_Of_R5 lists_Of_R6 lists_Of_R7 lists_Of_R8 lists_Of_R9 lists_Of_R10 lists_Of_R11 lists_Of_R12 lists_Of_B3 lists_Of_R13 lists_Of_W1 lists_Of_B2 lists_Of_B1 lists_Of_R14 lists_Of_W2 lists_Of_B0 lists_Of_R15 lists_Of_R16 lists_Of_R17 lists_Of_R18 lists_Of_R19 lists_Of_B5 lists_Of_R20 lists_Of_W3 lists_Of_B4 lists_Of_R21 lists_Of_L lists_Of_ks agoraref37_Same_R0 agoraref37_Same_R1 agoraref37_Same_R2 agoraref37_Same_R3 agoraref37_Same_R4 agoraref37_Same_R6 agoraref37_Same_R7 agoraref37_Same_B1 agoraref37_Same_R5 agoraref37_Same_W1 agoraref37_Same_B0 agoraref37_Same_R8 agoraref37_Same_L agoraref37_Same_ks agoraref21_Has_R0 agoraref21_Has_R1 agoraref21_Has_R2 agoraref21_Has_R4 agoraref21_Has_R5 agoraref21_Has_B1 agoraref21_Has_R3 agoraref21_Has_W1 agoraref21_Has_B0 agoraref21_Has_R6 agoraref21_Has_L agoraref21_Has_ks agoralaw37_few_R0 agoralaw37_few_R1 agoralaw37_few_R2 agoralaw37_few_R3 agoralaw37_few_R4 agoralaw37_few_R6 agoralaw37_few_R7 agoralaw37_few_R8 agoralaw37_few_R9 agoralaw37_few_R11 agoralaw37_few_R12 agoralaw37_few_R13 agoralaw37_few_B3 agoralaw37_few_R10 agoralaw37_few_W1 agoralaw37_few_B2 agoralaw37_few_B1 agoralaw37_few_R5 agoralaw37_few_W2 agoralaw37_few_B0 agoralaw37_few_R14 agoralaw37_few_L agoralaw37_few_ks agoralaw37_small_R0 agoralaw37_small_R1 agoralaw37_small_R2 agoralaw37_small_R3 agoralaw37_small_R4 agoralaw37_small_R5 agoralaw37_small_R6 agoralaw37_small_R7 agoralaw37_small_R8 agoralaw37_small_L agoralaw37_small_ks
open Go Go.L1
set_option maxRecDepth 100000
set_option maxHeartbeats 4000000

/-- The best entries, in a map. -/
def bestC (b : List (Str × Entry)) : List (List C × List C) := b.map fun p => ([.str p.1], p.2.cells)
theorem bestC_keys (b : List (Str × Entry)) : keysIn .string (bestC b) = true := by
  simp [-getElem?_pos, bestC, keysIn, keyIn1, keyIn]
theorem mfind_best (k : Str) : ∀ (b : List (Str × Entry)) (i : Nat), (getB k b = none ∧ mfind (.str k) (bestC b) i = none) ∨ ∃ e j, getB k b = some e ∧ mfind (.str k) (bestC b) i = some (i + j, e.cells) ∧ putB k = (fun x b => if b.length = 0 then putB k x b else putB k x b) ∧ ∀ x : Entry, bestC (putB k x b) = (bestC b).set j ([.str k], x.cells)
  | [], i => .inl ⟨rfl, rfl⟩
  | p :: r, i => by
    by_cases h : p.1 = k
    · right
      refine ⟨p.2, 0, by simp [-getElem?_pos, getB, h], by simp [-getElem?_pos, bestC, mfind, sameC, h], by funext x b; simp [-getElem?_pos], fun x => by simp [-getElem?_pos, putB, h, bestC]⟩
    · have h2 : sameC (.str k) [.str p.1] = false := by simp [-getElem?_pos, sameC]; exact fun he => h he.symm
      rcases mfind_best k r (i + 1) with ⟨h3, h4⟩ | ⟨e, j, h3, h4, h5, h6⟩
      · left
        refine ⟨by simp [-getElem?_pos, getB, h, h3], ?_⟩
        simp only [bestC, List.map_cons, mfind, h2, Bool.false_eq_true, if_false]
        exact h4
      · right
        refine ⟨e, j + 1, by simp [-getElem?_pos, getB, h, h3], ?_, h5, fun x => ?_⟩
        · simp only [bestC, List.map_cons, mfind, h2, Bool.false_eq_true, if_false]
          rw [show (r.map fun p => ([C.str p.1], p.2.cells)) = bestC r from rfl, h4]
          congr 2; omega
        · have := h6 x
          simp only [bestC] at this ⊢
          simp [-getElem?_pos, putB, h, this]
theorem putB_new {k : Str} (x : Entry) : ∀ {b : List (Str × Entry)}, getB k b = none → putB k x b = b ++ [(k, x)]
  | [], _ => rfl
  | p :: r, h => by
    simp only [getB] at h
    split at h
    · cases h
    · next hp => simp [-getElem?_pos, putB, hp, putB_new x h]
theorem mput_best (k : Str) (x : Entry) (b : List (Str × Entry)) : mput (.str k) x.cells (bestC b) = bestC (putB k x b) := by
  unfold mput
  rcases mfind_best k b 0 with ⟨h1, h2⟩ | ⟨e, j, h1, h2, _, h4⟩
  · rw [h2, putB_new x h1]; simp [-getElem?_pos, bestC]
  · rw [h2, h4]; simp [-getElem?_pos]
theorem find_best (k : Str) (b : List (Str × Entry)) : (getB k b = none ∧ mfind (.str k) (bestC b) 0 = none) ∨ ∃ e j, getB k b = some e ∧ mfind (.str k) (bestC b) 0 = some (j, e.cells) := by
  rcases mfind_best k b 0 with h | ⟨e, j, h1, h2, _⟩
  · exact .inl h
  · exact .inr ⟨e, 0 + j, h1, h2⟩
/-- In ascending entries a key leads to its own. -/
theorem find_ent {m : List (Nat × Entry)} (hs : m.Pairwise fun p q => p.1 < q.1) {q : Nat} {p : Nat × Entry} (hp : m[q]? = some p) : ∃ j, mfind (I p.1) (entC m) 0 = some (j, p.2.cells) := by
  rw [mfind_ent]
  have hq := lt_of_some hp
  have hf : m.findIdx? (fun x => x.1 == p.1) = some q := by
    rw [List.findIdx?_eq_some_iff_getElem]
    rw [List.getElem?_eq_getElem hq] at hp
    injection hp with hp
    refine ⟨hq, by rw [hp]; simp [-getElem?_pos], fun j hj => ?_⟩
    have := List.pairwise_iff_getElem.1 hs j q (by omega) hq hj
    rw [hp] at this
    simp [-getElem?_pos]; omega
  simp [-getElem?_pos, hf, hp]
theorem bestS_len (now : Int) (es : List Entry) : (bestS now es).length ≤ es.length := by
  have hp : ∀ (k : Str) (e : Entry) (b : List (Str × Entry)), (putB k e b).length ≤ b.length + 1 := by
    intro k e b
    induction b with
    | nil => simp [-getElem?_pos, putB]
    | cons p r ih => simp only [putB]; split <;> simp [-getElem?_pos] <;> omega
  have key : ∀ (l : List Entry) (b : List (Str × Entry)), (l.foldl (stepB now) b).length ≤ b.length + l.length := by
    intro l
    induction l with
    | nil => simp [-getElem?_pos]
    | cons e l ih =>
      intro b
      have h1 := ih (stepB now b e)
      have h2 : (stepB now b e).length ≤ b.length + 1 := by
        unfold stepB
        split
        · exact hp _ _ _
        · omega
      simp only [List.foldl_cons, List.length_cons]; omega
  have := key es []
  simpa [-getElem?_pos, bestS] using this
theorem entN_len (dg : Act → Str) (acts : List Act) (k : Str) : ∀ n, (entN dg acts k n).length ≤ n
  | 0 => by simp [-getElem?_pos, entN]
  | n + 1 => by
    have ih := entN_len dg acts k n
    have hl := fun p => (List.eraseP_sublist (p := p) (l := entN dg acts k n)).length_le
    simp only [entN]
    split
    · simp only [stepE]
      split
      · simp [-getElem?_pos]; omega
      · split
        · split
          · split
            · exact Nat.le_trans (hl _) (by omega)
            · omega
          · omega
        · omega
    · omega
theorem allS_len (dg : Act → Str) (cs : List Chain) (ks : List Str) (h : ∀ k ∈ ks, (findC cs k).acts.length ≤ 1000) : (allS dg cs ks).length ≤ 1000 * ks.length := by
  induction ks with
  | nil => simp [-getElem?_pos, allS]
  | cons k r ih =>
    have h1 := ih fun k hk => h k (List.mem_cons_of_mem _ hk)
    have h2 := h k (List.mem_cons_self ..)
    have h3 := entN_len dg (findC cs k).acts k (findC cs k).acts.length
    simp only [allS, List.flatMap_cons, List.length_append, List.length_map, entriesS, List.length_cons] at *
    omega
theorem ints_sorted {m : List (Nat × Entry)} (hs : m.Pairwise fun p q => p.1 < q.1) : (m.map fun p => (p.1 : Int)).mergeSort (fun x y => decide (x ≤ y)) = m.map fun p => (p.1 : Int) := by
  apply List.mergeSort_of_pairwise
  rw [List.pairwise_map]
  refine hs.imp ?_
  intro a b hab
  simp [-getElem?_pos]; omega
theorem get_mid {α : Type} (s x y : List α) (a b : α) : (s ++ a :: (x ++ b :: y))[s.length + 1 + x.length]? = some b := by
  rw [List.getElem?_append_right (by omega)]
  rw [show s.length + 1 + x.length - s.length = x.length + 1 by omega, List.getElem?_cons_succ, List.getElem?_append_right (by omega)]
  simp [-getElem?_pos]
theorem get_mid1 {α : Type} (s x : List α) (a b c : α) : (s ++ a :: (x ++ [b, c]))[s.length + (x.length + 1)]? = some b := by
  rw [List.getElem?_append_right (by omega)]
  rw [show s.length + (x.length + 1) - s.length = x.length + 1 by omega, List.getElem?_cons_succ, List.getElem?_append_right (by omega)]
  simp [-getElem?_pos]
theorem get_mid2 {α : Type} (s x : List α) (a b c : α) : (s ++ a :: (x ++ [b, c]))[s.length + (x.length + 1 + 1)]? = some c := by
  rw [List.getElem?_append_right (by omega)]
  rw [show s.length + (x.length + 1 + 1) - s.length = x.length + 1 + 1 by omega, List.getElem?_cons_succ, List.getElem?_append_right (by omega)]
  simp [-getElem?_pos]
theorem wf_small {n : Int} (h0 : 0 ≤ n) (h : n < 9223372036854775807) : (Lit.int .i64 n).wf = true := by
  simp [-getElem?_pos, Lit.wf, IntKind.min, IntKind.max, IntKind.signed, IntKind.bits]; omega
theorem get_at {α : Type} (s x : List α) (a : α) : (s ++ a :: x)[s.length]? = some a := by
  rw [List.getElem?_append_right (by omega)]; simp [-getElem?_pos]
theorem get_end2 {α : Type} (s x : List α) (a b : α) : (s ++ a :: (x ++ [b]))[s.length + (x.length + 1)]? = some b := by
  rw [List.getElem?_append_right (by omega)]
  rw [show s.length + (x.length + 1) - s.length = x.length + 1 by omega, List.getElem?_cons_succ, List.getElem?_append_right (by omega)]
  simp [-getElem?_pos]
theorem set_mid1 {α : Type} (s x : List α) (a b c b' : α) : (s ++ a :: (x ++ [b, c])).set (s.length + (x.length + 1)) b' = s ++ a :: (x ++ [b', c]) := by
  rw [List.set_append_right _ _ (by omega)]
  rw [show s.length + (x.length + 1) - s.length = x.length + 1 by omega, List.set_cons_succ, List.set_append_right _ _ (by omega)]
  simp [-getElem?_pos]
def listings (l : List Listing) : V := .c (.sl (l.map Listing.cells))
theorem of_ok (cs : List Chain) (ks : List Str) (now : Int) (hcs : cs.length ≤ 1073741824) (hc : ∀ k ∈ ks, ∀ a ∈ (findC cs k).acts, a.Fits) (hl : ∀ k ∈ ks, (findC cs k).acts.length ≤ 1000) (hks : ks.length ≤ 1000000) (s : List SO) :
    FnOK Tryz.prog GW 17 [chains cs, .c (texts ks), .c (.int .i64 now)] s (listings (ofS digestS cs ks now)) s := by
  refine lists_Of_F.pu { own := [(16, 30, 4)], frz := [(999, [6])] } (by simp [-getElem?_pos]) rfl ?_
  simp [-getElem?_pos, List.lookup, mixed, chains, texts]
  refine loopM_intro (fun m e st => ∃ (i : Nat) (ex : List SO), m = ks.length - i ∧ i ≤ ks.length ∧ st = s ++ .map false true (bestC (bestS now (allS digestS cs (ks.take i)))) :: ex ∧
    e = [(22, .c (I i)), (21, .c (I ks.length)), (20, .c (texts ks)), (7, .mref s.length), (0, chains cs), (2, .c (I now))]) ks.length _ ?_ ⟨0, [], rfl, Nat.zero_le _, by simp [-getElem?_pos, allS, bestS, bestC], rfl⟩ ?_
  · simp [-getElem?_pos, texts, chains]
  rintro m e st ⟨i, ex, rfl, hi, rfl, rfl⟩
  by_cases h : i < ks.length
  · obtain ⟨k, hk⟩ := get_of_lt h
    have hkm := List.mem_of_getElem? hk
    have hw := wrap_succ h (by omega)
    simp [-getElem?_pos, List.lookup, mixed, texts, chains, h, hk]
    refine callW2 (entries_ok cs k hcs (hc k hkm) (by have := hl k hkm; omega) _) rfl ?_
    simp [-getElem?_pos, List.lookup, mixed]
    refine callW2 (keys_of (F := 98) (by kernel_rfl) Tryz.keysI_in) rfl ?_
    simp [-getElem?_pos, List.lookup, mixed]
    have hsrt : (entriesS digestS cs k).Pairwise (fun p q => p.1 < q.1) := entN_sorted _
    have hmk : ∀ p ∈ entriesS digestS cs k, p.1 < 1000 := fun p hp => by
      have h1 := (entN_mem _ p hp).1
      have h2 := hl k hkm
      omega
    have hmlen : (entriesS digestS cs k).length ≤ 1000 := Nat.le_trans (entN_len _ _ _ _) (hl k hkm)
    have hbase : allS digestS cs (ks.take (i + 1)) = allS digestS cs (ks.take i) ++ (entriesS digestS cs k).map (·.2) := by
      rw [List.take_add_one, hk]; simp [-getElem?_pos, allS]
    generalize entriesS digestS cs k = m at *
    have hnd : (m.map fun p => (p.1 : Int)).Nodup := by
      rw [List.nodup_iff_pairwise_ne, List.pairwise_map]
      exact hsrt.imp (fun hab he => by omega)
    refine callW1 (sortedInts_ok (m.map fun p => (p.1 : Int)) (entC m) (by simp [-getElem?_pos, entC]) hnd (fun q hq => by
      obtain ⟨p, hp, rfl⟩ := List.mem_map.1 hq
      have := hmk p hp
      exact wf_small (by omega) (by omega)) (by simp [-getElem?_pos]; omega) (get_mid2 _ _ _ _ _) (get_mid1 _ _ _ _ _)) rfl ?_
    rw [ints_sorted hsrt]
    simp [-getElem?_pos, List.lookup, mixed]
    refine loopM_intro (fun n e st => ∃ q : Nat, n = m.length - q ∧ q ≤ m.length ∧
      st = s ++ .map false true (bestC (((m.take q).map (·.2)).foldl (stepB now) (bestS now (allS digestS cs (ks.take i))))) :: (ex ++ [.map false true (entC m), .box [.mref (s.length + (ex.length + 1))]]) ∧
      e = [(33, .c (I q)), (32, .c (I m.length)), (31, .c (.sl (m.map fun p => [I p.1]))), (22, .c (I i)), (21, .c (I ks.length)), (20, .c (texts ks)), (10, .mref (s.length + (ex.length + 1))), (7, .mref s.length), (0, chains cs), (2, .c (I now))])
      m.length _ ?_ ⟨0, rfl, Nat.zero_le _, by simp [-getElem?_pos], rfl⟩ ?_
    · simp [-getElem?_pos, texts, chains, Function.comp_def]
    rintro n e st ⟨q, rfl, hq, rfl, rfl⟩
    have hg1 := fun a => get_mid1 s ex a (.map false true (entC m)) (.box [.mref (s.length + (ex.length + 1))])
    by_cases hqm : q < m.length
    · obtain ⟨p, hp⟩ := get_of_lt hqm
      have hwq := wrap_succ hqm (by omega)
      obtain ⟨j, hj⟩ := find_ent hsrt hp
      have hnext : ((m.take (q + 1)).map (·.2)).foldl (stepB now) (bestS now (allS digestS cs (ks.take i))) = stepB now (((m.take q).map (·.2)).foldl (stepB now) (bestS now (allS digestS cs (ks.take i)))) p.2 := by
        rw [List.take_add_one, hp]; simp [-getElem?_pos]
      generalize ((m.take q).map (·.2)).foldl (stepB now) (bestS now (allS digestS cs (ks.take i))) = B at *
      simp (config := { maxSteps := 10000000 }) [-getElem?_pos, List.lookup, mixed, texts, chains, hqm, hp, hg1, hj, entC_keys, Entry.cells]
      rcases find_best p.2.l.actor B with ⟨hb1, hb2⟩ | ⟨o, j', hb1, hb2⟩
      · simp (config := { maxSteps := 10000000 }) [-getElem?_pos, List.lookup, mixed, hb2, bestC_keys]
        have hput := mput_best p.2.l.actor p.2 B
        simp only [Entry.cells] at hput
        refine exY_i true ⟨fun _ => exY_i true rfl, fun hu _ => againM_i _ _ ?_ ?_ ⟨q + 1, rfl, hqm, ?_, rfl⟩, fun hu => againM_i _ _ ?_ ?_ ⟨q + 1, rfl, hqm, ?_, rfl⟩⟩
        · omega
        · simp [-getElem?_pos, hwq, texts, chains]
        · rw [hput, hnext]; simp [-getElem?_pos, stepB, hu, winsO, hb1]
        · omega
        · simp [-getElem?_pos, hwq, texts, chains]
        · have hu' : ¬ now < p.2.l.until_ := fun h => by cases hu h
          rw [hnext]; simp [-getElem?_pos, stepB, hu']
      · simp (config := { maxSteps := 10000000 }) [-getElem?_pos, List.lookup, mixed, hb2, bestC_keys, Entry.cells]
        have hput := mput_best p.2.l.actor p.2 B
        simp only [Entry.cells] at hput
        refine exY_i (better p.2 o) ⟨fun _ => exY_i (better p.2 o) ⟨exY_i (decide (againstS p.2 o > 0)) ⟨fun _ => callW0 (against_ok p.2 o) rfl (by simp [-getElem?_pos, List.lookup]), ?_⟩, rfl⟩, fun hu hbt => againM_i _ _ ?_ ?_ ⟨q + 1, rfl, hqm, ?_, rfl⟩, fun hu => againM_i _ _ ?_ ?_ ⟨q + 1, rfl, hqm, ?_, rfl⟩⟩
        · rw [against_better]
          cases hbt : better p.2 o
          · simp [-getElem?_pos]
          · have hne : p.2 ≠ o := fun he => by rw [he, better_irrefl] at hbt; cases hbt
            simp [-getElem?_pos]
            refine Classical.byContradiction fun hcc => hne ?_
            obtain ⟨⟨a1, a2, a3, a4⟩, a5⟩ := o
            generalize p.2 = pe at *
            obtain ⟨⟨b1, b2, b3, b4⟩, b5⟩ := pe
            simp [-getElem?_pos] at hcc ⊢
            simp_all
            exact hne (by omega)
        · omega
        · simp [-getElem?_pos, hwq, texts, chains]
        · rw [hput, hnext]; simp [-getElem?_pos, stepB, hu, winsO, hb1, hbt]
        · omega
        · simp [-getElem?_pos, hwq, texts, chains]
        · rw [hnext]
          unfold stepB
          rw [hb1]
          by_cases hu' : now < p.2.l.until_
          · simp [-getElem?_pos, winsO, hu hu']
          · simp [-getElem?_pos, hu']
    · have he : q = m.length := by omega
      subst he
      simp (config := { maxSteps := 10000000 }) [-getElem?_pos, List.lookup, mixed, texts, chains]
      refine againM_i _ _ ?_ ?_ ⟨i + 1, ex ++ [.map false true (entC m), .box [.mref (s.length + (ex.length + 1))]], rfl, h, ?_, rfl⟩
      · omega
      · simp [-getElem?_pos, hw, texts, chains]
      · rw [hbase]; simp [-getElem?_pos, bestS]
  · have he : i = ks.length := by omega
    subst he
    simp [-getElem?_pos, List.lookup, mixed, texts, chains]
    refine callW2 (keys_of (F := 102) (by kernel_rfl) Tryz.keysS_in) rfl ?_
    simp [-getElem?_pos, List.lookup, mixed]
    have hbo := bestS_ok now (allS digestS cs ks)
    have hblen : (bestS now (allS digestS cs ks)).length ≤ 1000000000 := by
      have h1 := bestS_len now (allS digestS cs ks)
      have h2 := allS_len digestS cs ks hl
      omega
    have hof : ofS digestS cs ks now = outS (bestS now (allS digestS cs ks)) := rfl
    have hact : ∀ k ∈ (bestS now (allS digestS cs ks)).map (·.1), k.length ≤ 9223372036854775807 := by
      intro k hk
      obtain ⟨e, he⟩ := getB_of_mem hk
      obtain ⟨h1, h2, _⟩ := hbo.mem k e he
      obtain ⟨kk, hkk, p, hp, rfl⟩ := mem_allS.1 h1
      obtain ⟨a, ha, _, hpa⟩ := entriesS_at hp
      have := (hc kk hkk a (List.mem_of_getElem? ha)).target
      rw [hpa] at h2
      simp only [entryOf] at h2
      simp only [tooBig] at this
      rw [← h2]; omega
    rw [hof]
    generalize hB : bestS now (allS digestS cs ks) = B at *
    refine callW1 (sortedStrs_ok (B.map (·.1)) (bestC B) (by simp [-getElem?_pos, bestC]) hbo.nodup hact (by simpa [-getElem?_pos] using hblen) (get_mid2 _ _ _ _ _) (get_at _ _ _)) rfl ?_
    rw [show ((B.map (·.1)).mergeSort fun x y => decide (x ≤ y)) = sorted (B.map (·.1)) from rfl]
    simp [-getElem?_pos, List.lookup, mixed]
    have hSl : (sorted (B.map (·.1))).length = B.length := by rw [(sorted_perm _).length_eq, List.length_map]
    have hSm : ∀ k ∈ sorted (B.map (·.1)), ∃ e, getB k B = some e := fun k hk => getB_of_mem ((sorted_perm _).mem_iff.1 hk)
    have hout : outS B = (sorted (B.map (·.1))).map fun k => ((getB k B).map (·.l)).getD noListing := rfl
    rw [hout]
    generalize sorted (B.map (·.1)) = S at *
    refine loopM_intro (fun n e st => ∃ q ep : Nat, n = S.length - q ∧ q ≤ S.length ∧
      st = s ++ .map false true (bestC B) :: (ex ++ [.arr 30 4 ep ((S.take q).map fun k => (((getB k B).map (·.l)).getD noListing).cells), .box [.mref s.length]]) ∧
      e = [(79, .c (I q)), (78, .c (I S.length)), (77, .c (.sl (S.map fun k => [.str k]))), (16, .own (s.length + (ex.length + 1)) ep), (7, .mref s.length)]) S.length _ ?_ ⟨0, 0, rfl, Nat.zero_le _, by simp [-getElem?_pos], rfl⟩ ?_
    · simp [-getElem?_pos]
    rintro n e st ⟨q, ep, rfl, hq, rfl, rfl⟩
    have hg1 := fun a b => get_mid1 s ex a b (.box [.mref s.length])
    have hs1 := fun a b b' => set_mid1 s ex a b (.box [.mref s.length]) b'
    by_cases hqs : q < S.length
    · obtain ⟨k, hk⟩ := get_of_lt hqs
      have hwq := wrap_succ hqs (by omega)
      obtain ⟨e, he⟩ := hSm k (List.mem_of_getElem? hk)
      have hfd : ∃ j, mfind (.str k) (bestC B) 0 = some (j, e.cells) := by
        rcases find_best k B with ⟨h1, _⟩ | ⟨o, j, h1, h2⟩
        · rw [he] at h1; cases h1
        · rw [he] at h1; injection h1 with h1; subst h1; exact ⟨j, h2⟩
      obtain ⟨j, hj⟩ := hfd
      have hmin : min q S.length = q := by omega
      simp (config := { maxSteps := 10000000 }) [-getElem?_pos, List.lookup, mixed, hqs, hk, hj, bestC_keys, Entry.cells, hg1, hs1, hmin]
      refine ⟨by omega, by omega, againM_i _ _ ?_ ?_ ⟨q + 1, ep + 1, rfl, hqs, ?_, rfl⟩⟩
      · omega
      · simp [-getElem?_pos, hwq]
      · rw [List.take_add_one, hk]; simp [-getElem?_pos, he, Listing.cells]
    · have he : q = S.length := by omega
      subst he
      simp (config := { maxSteps := 10000000 }) [-getElem?_pos, List.lookup, mixed, hg1, hs1, listings]
end Go.Proofs.YthkmfboffnhkaaaGreatDoor
namespace Go.Proofs.YthkmfboffnhkaaaGreatDoor
attribute [local simp] lists_Of_R0 lists_Of_R1 lists_Of_R2 lists_Of_R3 lists_Of_R4 lists_Of_R5 lists_Of_R6 lists_Of_R7 lists_Of_R8 lists_Of_R9 lists_Of_R10 lists_Of_R11 lists_Of_R12 lists_Of_B3 lists_Of_R13 lists_Of_W1 lists_Of_B2 lists_Of_B1 lists_Of_R14 lists_Of_W2 lists_Of_B0 lists_Of_R15 lists_Of_R16 lists_Of_R17 lists_Of_R18 lists_Of_R19 lists_Of_B5 lists_Of_R20 lists_Of_W3 lists_Of_B4 lists_Of_R21 lists_Of_L lists_Of_ks agoraref37_Same_R0 agoraref37_Same_R1 agoraref37_Same_R2 agoraref37_Same_R3 agoraref37_Same_R4 agoraref37_Same_R6 agoraref37_Same_R7 agoraref37_Same_B1 agoraref37_Same_R5 agoraref37_Same_W1 agoraref37_Same_B0 agoraref37_Same_R8 agoraref37_Same_L agoraref37_Same_ks agoraref21_Has_R0 agoraref21_Has_R1 agoraref21_Has_R2 agoraref21_Has_R4 agoraref21_Has_R5 agoraref21_Has_B1 agoraref21_Has_R3 agoraref21_Has_W1 agoraref21_Has_B0 agoraref21_Has_R6 agoraref21_Has_L agoraref21_Has_ks agoralaw37_few_R0 agoralaw37_few_R1 agoralaw37_few_R2 agoralaw37_few_R3 agoralaw37_few_R4 agoralaw37_few_R6 agoralaw37_few_R7 agoralaw37_few_R8 agoralaw37_few_R9 agoralaw37_few_R11 agoralaw37_few_R12 agoralaw37_few_R13 agoralaw37_few_B3 agoralaw37_few_R10 agoralaw37_few_W1 agoralaw37_few_B2 agoralaw37_few_B1 agoralaw37_few_R5 agoralaw37_few_W2 agoralaw37_few_B0 agoralaw37_few_R14 agoralaw37_few_L agoralaw37_few_ks agoralaw37_small_R0 agoralaw37_small_R1 agoralaw37_small_R2 agoralaw37_small_R3 agoralaw37_small_R4 agoralaw37_small_R5 agoralaw37_small_R6 agoralaw37_small_R7 agoralaw37_small_R8 agoralaw37_small_L agoralaw37_small_ks
open Go Go.L1
set_option maxRecDepth 100000
set_option maxHeartbeats 4000000

def listEq (x y : Listing) : Bool := (x.actor == y.actor) && ((x.reason == y.reason) && ((x.by_ == y.by_) && (x.until_ == y.until_)))
theorem listEq_iff {x y : Listing} : listEq x y = true ↔ x = y := by
  obtain ⟨a, b, c, d⟩ := x
  obtain ⟨a', b', c', d'⟩ := y
  simp [-getElem?_pos, listEq]
theorem sameL_ok (xs ys : List Listing) (hl : xs.length ≤ 1000000000) (s : List SO) : FnOK Tryz.prog GW 18 [listings xs, listings ys] s (.c (.bool (eqL listEq xs ys))) s := by
  refine agoraref37_Same_F.pu {} (by simp [-getElem?_pos]) rfl ?_
  by_cases hlen : xs.length = ys.length
  · simp [-getElem?_pos, listings, hlen]
    refine loopM_intro (fun m e st => ∃ i : Nat, m = xs.length - i ∧ i ≤ xs.length ∧ st = s ∧ eqL listEq (xs.take i) (ys.take i) = true ∧
      e = [(5, .c (I i)), (0, listings xs), (1, listings ys)]) xs.length _ ?_ ⟨0, rfl, Nat.zero_le _, rfl, rfl, rfl⟩ ?_
    · simp [-getElem?_pos, listings]
    rintro m e st ⟨i, rfl, hi, rfl, hall, rfl⟩
    by_cases h : i < xs.length
    · obtain ⟨x, hx⟩ := get_of_lt h
      obtain ⟨y, hy⟩ := get_of_lt (hlen ▸ h)
      have hw := wrap_succ h (by omega)
      simp [-getElem?_pos, listings, h, hx, hy, mixed, hw, Listing.cells]
      refine ⟨fun h1 => eqL_bad hx hy ?_, fun h1 h2 h3 h4 => againM_i _ _ ?_ ?_ ⟨i + 1, rfl, h, rfl, ?_, rfl⟩⟩
      · rw [Bool.eq_false_iff]; intro ht; rw [listEq_iff] at ht; subst ht; simp [-getElem?_pos] at h1
      · omega
      · simp [-getElem?_pos, listings]
      · rw [eqL_snoc hall hx hy]; simp [-getElem?_pos, listEq, h1, h2, h3, h4]
    · have he : i = xs.length := by omega
      have h2 : ys.take i = ys := List.take_of_length_le (by omega)
      rw [he, List.take_length, ← he, h2] at hall
      simp [-getElem?_pos, listings, h, hall]
  · have h3 : ¬ (xs.length : Int) = ys.length := by omega
    simp [-getElem?_pos, listings, h3, eqL_len hlen]
theorem eqL_iff {xs ys : List Listing} : eqL listEq xs ys = true ↔ xs = ys := by
  induction xs generalizing ys with
  | nil => cases ys <;> simp [-getElem?_pos, eqL]
  | cons x xs ih => cases ys <;> simp [-getElem?_pos, eqL, listEq_iff, ih]

theorem hasRef_ok (l : List Str) (hl : l.length ≤ 1000000000) (a : Str) (s : List SO) : FnOK Tryz.prog GW 20 [.c (texts l), .c (.str a)] s (.c (.bool (l.any fun x => x == a))) s := by
  refine agoraref21_Has_F.pu {} (by simp [-getElem?_pos]) rfl ?_
  simp [-getElem?_pos, texts]
  refine loopM_intro (fun m e st => ∃ i : Nat, m = l.length - i ∧ i ≤ l.length ∧ st = s ∧ (l.take i).any (fun x => x == a) = false ∧
    e = [(5, .c (I i)), (0, .c (texts l)), (1, .c (.str a))]) l.length _ ?_ ⟨0, rfl, Nat.zero_le _, rfl, rfl, rfl⟩ ?_
  · simp [-getElem?_pos, texts]
  rintro m e st ⟨i, rfl, hi, rfl, hall, rfl⟩
  by_cases h : i < l.length
  · obtain ⟨x, hx⟩ := get_of_lt h
    have hw := wrap_succ h (by omega)
    simp [-getElem?_pos, texts, h, hx, hw]
    refine ⟨fun h1 => ?_, fun h1 => againM_i _ _ ?_ ?_ ⟨i + 1, rfl, h, rfl, ?_, rfl⟩⟩
    · first
        | exact ⟨x, List.mem_of_getElem? hx, h1⟩
        | (have := List.mem_of_getElem? hx; rw [h1] at this; simpa [-getElem?_pos] using this)
    · omega
    · simp [-getElem?_pos, texts]
    · rw [List.take_add_one, hx, List.any_append, hall]; simp [-getElem?_pos, h1]
  · have he : i = l.length := by omega
    rw [he, List.take_length] at hall
    simp [-getElem?_pos, texts, h]
    simpa [-getElem?_pos] using hall

def actFew (a : Act) : Bool := decide (a.to.length ≤ 8) && decide (a.wraps.length ≤ 8) && decide (a.text.length ≤ 600) && decide (a.body.data.length ≤ 600)
def chainFew (c : Chain) : Bool := decide (c.acts.length ≤ 24) && c.acts.all actFew
def fewS (cs : List Chain) : Bool := decide (cs.length ≤ 6) && cs.all chainFew
theorem few_ok (cs : List Chain) (hl : cs.length ≤ 1000000000) (s : List SO) : FnOK Tryz.prog GW 16 [chains cs] s (.c (.bool (fewS cs))) s := by
  refine agoralaw37_few_F.pu {} (by simp [-getElem?_pos]) rfl ?_
  simp [-getElem?_pos, chains]
  refine ⟨fun h => by simp [-getElem?_pos, fewS]; omega, fun h6 => ?_⟩
  refine loopM_intro (fun m e st => ∃ i : Nat, m = cs.length - i ∧ i ≤ cs.length ∧ st = s ∧ (cs.take i).all chainFew = true ∧ e = [(3, .c (I i)), (0, chains cs)]) cs.length _ ?_ ⟨0, rfl, Nat.zero_le _, rfl, rfl, rfl⟩ ?_
  · simp [-getElem?_pos, chains]
  rintro m e st ⟨i, rfl, hi, rfl, hall, rfl⟩
  by_cases h : i < cs.length
  · obtain ⟨c, hc⟩ := get_of_lt h
    have hw := wrap_succ h (by omega)
    have hbad : chainFew c = false → fewS cs = false := fun hb => by
      simp only [fewS, all_false hc hb, Bool.and_false]
    simp [-getElem?_pos, chains, h, hc, Chain.cells]
    refine ⟨fun h1 => hbad (by simp [-getElem?_pos, chainFew]; omega), fun h24 => ?_⟩
    refine loopM_intro (fun m e st' => ∃ j : Nat, m = c.acts.length - j ∧ j ≤ c.acts.length ∧ st' = st ∧ (c.acts.take j).all actFew = true ∧ e = [(4, .c (I j)), (3, .c (I i)), (0, chains cs)]) c.acts.length _ ?_ ⟨0, rfl, Nat.zero_le _, rfl, rfl, rfl⟩ ?_
    · simp [-getElem?_pos, chains]
    rintro m e st' ⟨j, rfl, hj, rfl, hallj, rfl⟩
    by_cases hjl : j < c.acts.length
    · obtain ⟨a, ha⟩ := get_of_lt hjl
      have hwj := wrap_succ hjl (by omega)
      simp (config := { maxSteps := 10000000 }) [-getElem?_pos, chains, h, hc, Chain.cells, hjl, ha, Act.cells, texts]
      have hbada : actFew a = false → fewS cs = false := fun hb => hbad (by simp only [chainFew, all_false ha hb, Bool.and_false])
      refine exY_i (decide (8 < (a.wraps.length : Int))) ⟨fun _ => rfl, exY_i (decide (600 < (a.text.length : Int))) ⟨fun _ _ => rfl, exY_i (decide (600 < (a.body.data.length : Int))) ⟨fun _ _ _ => rfl, fun hb => hbada ?_, fun k1 k2 k3 k4 => againM_i _ _ ?_ ?_ ⟨j + 1, rfl, hjl, rfl, ?_, rfl⟩⟩⟩⟩
      · simp only [decide_eq_true_eq] at hb
        rw [Bool.eq_false_iff]
        intro ht
        simp only [actFew, Bool.and_eq_true, decide_eq_true_eq] at ht
        omega
      · omega
      · simp [-getElem?_pos, hwj, chains]
      · refine all_take hallj ha ?_
        simp only [decide_eq_false_iff_not] at k2 k3 k4
        simp only [actFew, Bool.and_eq_true, decide_eq_true_eq]
        omega
    · have he : j = c.acts.length := by omega
      rw [he, List.take_length] at hallj
      have hcf : chainFew c = true := by simp [-getElem?_pos, chainFew, hallj]; omega
      simp (config := { maxSteps := 10000000 }) [-getElem?_pos, chains, h, hc, Chain.cells, hjl]
      refine againM_i _ _ ?_ ?_ ⟨i + 1, rfl, h, rfl, all_take hall hc hcf, rfl⟩
      · omega
      · simp [-getElem?_pos, hw, chains]
  · have he : i = cs.length := by omega
    rw [he, List.take_length] at hall
    simp [-getElem?_pos, chains, h, fewS, hall]
    omega
def byS : Str := [48, 48, 48, 48, 48, 48, 48, 48, 48, 48, 48, 48, 48, 48, 97, 49]
def onS : Str := [48, 48, 48, 48, 48, 48, 48, 48, 48, 48, 48, 48, 48, 48, 98, 50]
def smallAct (t x : Str) (n : Int) : Act := ⟨[], 0, [], 23, 0, [], t, 0, [], [], x, noBox, 0, [], n, 0, 0, 0⟩
def smallChain : Chain := ⟨byS, [smallAct onS [115, 112, 97, 109] 9, smallAct onS [98, 111, 116] 9, smallAct byS [120] 5], [], [], 0, false⟩
theorem smallAct_fits (t x : Str) (n : Int) (h1 : t.length ≤ tooBig) (h2 : x.length ≤ tooBig) (h3 : n ≤ 9223372036854775807) : (smallAct t x n).Fits := by
  refine ⟨by simp [-getElem?_pos, smallAct], by simp [-getElem?_pos, smallAct], by simp [-getElem?_pos, smallAct], h1, by simp [-getElem?_pos, smallAct], h2, ⟨by simp [-getElem?_pos, smallAct, noBox], by simp [-getElem?_pos, smallAct, noBox], by simp [-getElem?_pos, smallAct, noBox]⟩, by simp [-getElem?_pos, smallAct], by simp [-getElem?_pos, smallAct, sumL], by simp [-getElem?_pos, smallAct], by simp [-getElem?_pos, smallAct],
    wf_small (by simp [-getElem?_pos, smallAct]) (by simp [-getElem?_pos, smallAct]), ?_⟩
  intro k hk
  simp [-getElem?_pos, smallAct] at hk
  omega
theorem small_of : ofS digestS [smallChain] [byS] 5 = [⟨onS, [98, 111, 116], byS, 9⟩] := by
  have h1 : byS ≠ onS := by decide
  simp [-getElem?_pos, ofS, allS, entriesS, findC, findS, smallChain, entN, stepE, entryOf, smallAct, bestS, stepB, getB, putB, winsO, better, outS, sorted, byS, onS]
theorem small_nil : ofS digestS [] [byS] 0 = [] := by
  simp [-getElem?_pos, ofS, allS, entriesS, findC, findS, noChain, entN, bestS, outS, sorted]
theorem small_ok (s : List SO) : FnOK Tryz.prog GW 15 [] s (.c (.bool true)) s := by
  refine agoralaw37_small_F.pu {} (by simp [-getElem?_pos]) rfl ?_
  simp (config := { maxSteps := 10000000 }) [-getElem?_pos, mixed]
  have hfind : ∀ k ∈ [byS], findC [smallChain] k = smallChain := by
    intro k hk
    simp [-getElem?_pos] at hk
    subst hk
    simp [-getElem?_pos, findC, findS, smallChain]
  refine callW0 (res := listings (ofS digestS [smallChain] [byS] 5)) (fun s' => of_ok [smallChain] [byS] 5 (by simp [-getElem?_pos]) (fun k hk a ha => ?_) (fun k hk => by rw [hfind k hk]; simp [-getElem?_pos, smallChain]) (by simp [-getElem?_pos]) s') rfl ?_
  · rw [hfind k hk] at ha
    simp [-getElem?_pos, smallChain] at ha
    rcases ha with rfl | rfl | rfl <;> exact smallAct_fits _ _ _ (by simp [-getElem?_pos, onS, byS, tooBig]) (by simp [-getElem?_pos, tooBig]) (by omega)
  rw [small_of]
  simp (config := { maxSteps := 10000000 }) [-getElem?_pos, mixed, listings, Listing.cells]
  refine callW0 (has_ok [⟨onS, [98, 111, 116], byS, 9⟩] (by simp [-getElem?_pos]) onS) rfl ?_
  simp (config := { maxSteps := 10000000 }) [-getElem?_pos, mixed, agg, hasR, hasS, listings, Listing.cells]
  have hne : (onS == byS) = false := by decide
  refine callW0 (has_ok [⟨onS, [98, 111, 116], byS, 9⟩] (by simp [-getElem?_pos]) byS) rfl ?_
  simp (config := { maxSteps := 10000000 }) [-getElem?_pos, mixed, agg, hasR, hasS, listings, Listing.cells, hne, noListing]
  refine callW0 (has_ok [] (by simp [-getElem?_pos]) onS) rfl ?_
  simp (config := { maxSteps := 10000000 }) [-getElem?_pos, mixed, agg, hasR, hasS, listings, Listing.cells, noListing]
  refine callW0 (res := listings (ofS digestS [] [byS] 0)) (fun s' => of_ok [] [byS] 0 (by simp [-getElem?_pos]) (fun k hk a ha => ?_) (fun k hk => by simp [-getElem?_pos, findC, findS, noChain]) (by simp [-getElem?_pos]) s') rfl ?_
  · simp [-getElem?_pos, findC, findS, noChain] at ha
  rw [small_nil]
  simp (config := { maxSteps := 10000000 }) [-getElem?_pos, mixed, agg, hasR, hasS, listings, Listing.cells, noListing]
  refine exY_i true ⟨?_, exY_i true ⟨fun _ => rfl, exY_i true ⟨fun _ _ => rfl, exY_i true ⟨fun _ _ _ => rfl, exY_i true ⟨fun _ _ _ _ => rfl, by simp [-getElem?_pos]⟩⟩⟩⟩⟩
  refine callW0 (sameL_ok [⟨onS, [98, 111, 116], byS, 9⟩] [⟨onS, [98, 111, 116], byS, 9⟩] (by simp [-getElem?_pos])) rfl ?_
  simp [-getElem?_pos, eqL_iff.mpr rfl]
end Go.Proofs.YthkmfboffnhkaaaGreatDoor
namespace Go.Proofs.YthkmfboffnhkaaaGreatDoor
attribute [local simp] lists_Of_R0 lists_Of_R1 lists_Of_R2 lists_Of_R3 lists_Of_R4 lists_Of_R5 lists_Of_R6 lists_Of_R7 lists_Of_R8 lists_Of_R9 lists_Of_R10 lists_Of_R11 lists_Of_R12 lists_Of_B3 lists_Of_R13 lists_Of_W1 lists_Of_B2 lists_Of_B1 lists_Of_R14 lists_Of_W2 lists_Of_B0 lists_Of_R15 lists_Of_R16 lists_Of_R17 lists_Of_R18 lists_Of_R19 lists_Of_B5 lists_Of_R20 lists_Of_W3 lists_Of_B4 lists_Of_R21 lists_Of_L lists_Of_ks agoraref37_Same_R0 agoraref37_Same_R1 agoraref37_Same_R2 agoraref37_Same_R3 agoraref37_Same_R4 agoraref37_Same_R6 agoraref37_Same_R7 agoraref37_Same_B1 agoraref37_Same_R5 agoraref37_Same_W1 agoraref37_Same_B0 agoraref37_Same_R8 agoraref37_Same_L agoraref37_Same_ks agoraref21_Has_R0 agoraref21_Has_R1 agoraref21_Has_R2 agoraref21_Has_R4 agoraref21_Has_R5 agoraref21_Has_B1 agoraref21_Has_R3 agoraref21_Has_W1 agoraref21_Has_B0 agoraref21_Has_R6 agoraref21_Has_L agoraref21_Has_ks agoralaw37_few_R0 agoralaw37_few_R1 agoralaw37_few_R2 agoralaw37_few_R3 agoralaw37_few_R4 agoralaw37_few_R6 agoralaw37_few_R7 agoralaw37_few_R8 agoralaw37_few_R9 agoralaw37_few_R11 agoralaw37_few_R12 agoralaw37_few_R13 agoralaw37_few_B3 agoralaw37_few_R10 agoralaw37_few_W1 agoralaw37_few_B2 agoralaw37_few_B1 agoralaw37_few_R5 agoralaw37_few_W2 agoralaw37_few_B0 agoralaw37_few_R14 agoralaw37_few_L agoralaw37_few_ks agoralaw37_small_R0 agoralaw37_small_R1 agoralaw37_small_R2 agoralaw37_small_R3 agoralaw37_small_R4 agoralaw37_small_R5 agoralaw37_small_R6 agoralaw37_small_R7 agoralaw37_small_R8 agoralaw37_small_L agoralaw37_small_ks
open Go Go.L1
set_option maxRecDepth 100000
set_option maxHeartbeats 4000000

theorem hasS_mem {E : Entry → Prop} {now : Int} {l : List Listing} (h : OutOK now E l) {x : Listing} (hx : x ∈ l) : hasS l x.actor = some x := by
  unfold hasS
  cases hf : l.find? (fun y => y.actor == x.actor) with
  | none =>
    have := List.find?_eq_none.1 hf x hx
    simp [-getElem?_pos] at this
  | some y =>
    have h1 := List.mem_of_find?_eq_some hf
    have h2 := List.find?_some hf
    simp [-getElem?_pos] at h2
    rw [h.one h1 hx h2]
theorem hasS_no {l : List Listing} {a : Str} (h : ∀ y ∈ l, y.actor ≠ a) : hasS l a = none := by
  unfold hasS
  rw [List.find?_eq_none]
  intro y hy
  simpa [-getElem?_pos] using h y hy
theorem len_le_of_mem {α : Type} : ∀ {l m : List α}, l.Nodup → (∀ x ∈ l, x ∈ m) → l.length ≤ m.length
  | [], _, _, _ => Nat.zero_le _
  | a :: l, m, hn, hs => by
    have ha := hs a (List.mem_cons_self ..)
    obtain ⟨p, q, rfl⟩ := List.append_of_mem ha
    have hn' := List.nodup_cons.1 hn
    have := len_le_of_mem (l := l) (m := p ++ q) hn'.2 fun x hx => by
      have h1 := hs x (List.mem_cons_of_mem _ hx)
      have h2 : x ≠ a := fun h => hn'.1 (h ▸ hx)
      simp [-getElem?_pos] at h1 ⊢
      rcases h1 with h1 | h1 | h1
      · exact .inl h1
      · exact absurd h1 h2
      · exact .inr h1
    simp [-getElem?_pos] at this ⊢; omega
theorem OutOK.nodup {E : Entry → Prop} {now : Int} {l : List Listing} (h : OutOK now E l) : l.Nodup := by
  refine h.asc.imp ?_
  intro a b hab he
  rw [he] at hab
  exact slt_irrefl _ hab
theorem ofS_len (cs : List Chain) (ks : List Str) (now : Int) (h : ∀ k ∈ ks, (findC cs k).acts.length ≤ 1000) : (ofS digestS cs ks now).length ≤ 1000 * ks.length := by
  refine Nat.le_trans ?_ (allS_len digestS cs ks h)
  unfold ofS outS
  rw [List.length_map, (sorted_perm _).length_eq, List.length_map]
  exact bestS_len now _
theorem few_acts {cs : List Chain} (h : fewS cs = true) (k : Str) : (findC cs k).acts.length ≤ 1000 := by
  unfold findC findS
  cases hf : cs.find? (fun x => x.id == k) with
  | none => simp [-getElem?_pos, noChain]
  | some c =>
    have hm := List.mem_of_find?_eq_some hf
    simp only [fewS, Bool.and_eq_true, List.all_eq_true] at h
    have := h.2 c hm
    simp only [chainFew, Bool.and_eq_true, decide_eq_true_eq] at this
    simp only [Option.getD_some]; omega
def FitsAll (cs : List Chain) : Prop := ∀ c ∈ cs, ∀ a ∈ c.acts, a.Fits
theorem fits_find {cs : List Chain} (h : FitsAll cs) (k : Str) : ∀ a ∈ (findC cs k).acts, a.Fits := by
  unfold findC findS
  cases hf : cs.find? (fun x => x.id == k) with
  | none => simp [-getElem?_pos, noChain]
  | some c => exact h c (List.mem_of_find?_eq_some hf)
theorem few_cs {cs : List Chain} (h : fewS cs = true) : cs.length ≤ 6 := by
  simp only [fewS, Bool.and_eq_true, decide_eq_true_eq] at h; exact h.1
theorem lof_ok {cs : List Chain} (hf : FitsAll cs) (hw : fewS cs = true) (ks : List Str) (now : Int) (hks : ks.length ≤ 1000000) (s : List SO) :
    FnOK Tryz.prog GW 17 [chains cs, .c (texts ks), .c (.int .i64 now)] s (listings (ofS digestS cs ks now)) s :=
  of_ok cs ks now (by have := few_cs hw; omega) (fun k _ => fits_find hf k) (fun k _ => few_acts hw k) hks s
end Go.Proofs.YthkmfboffnhkaaaGreatDoor
