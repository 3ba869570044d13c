/-
  Walks: which entry is better; a keeper's entries.
-/
import Derived.Test.YthkmfboffnhkaaaGreatDoorW17
import Derived.Sort.Walk0
set_option linter.all false
namespace Go.Proofs.YthkmfboffnhkaaaGreatDoor
attribute [local simp] cmp_isNaN_string_R0 cmp_isNaN_string_R1 cmp_isNaN_string_L cmp_isNaN_string_ks cmp_isNaN_int_R0 cmp_isNaN_int_R1 cmp_isNaN_int_L cmp_isNaN_int_ks cmp_Compare_int_R0 cmp_Compare_int_R1 cmp_Compare_int_R2 cmp_Compare_int_R3 cmp_Compare_int_R4 cmp_Compare_int_R5 cmp_Compare_int_R6 cmp_Compare_int_R7 cmp_Compare_int_R8 cmp_Compare_int_R9 cmp_Compare_int_R10 cmp_Compare_int_R11 cmp_Compare_int_R12 cmp_Compare_int_R13 cmp_Compare_int_L cmp_Compare_int_ks cmp_Compare_string_R0 cmp_Compare_string_R1 cmp_Compare_string_R2 cmp_Compare_string_R3 cmp_Compare_string_R4 cmp_Compare_string_R5 cmp_Compare_string_R6 cmp_Compare_string_R7 cmp_Compare_string_R8 cmp_Compare_string_R9 cmp_Compare_string_R10 cmp_Compare_string_R11 cmp_Compare_string_R12 cmp_Compare_string_R13 cmp_Compare_string_L cmp_Compare_string_ks cmp_Or_int_R0 cmp_Or_int_R1 cmp_Or_int_R2 cmp_Or_int_R3 cmp_Or_int_R4 cmp_Or_int_R5 cmp_Or_int_R6 cmp_Or_int_B1 cmp_Or_int_R7 cmp_Or_int_W1 cmp_Or_int_B0 cmp_Or_int_R8 cmp_Or_int_L cmp_Or_int_ks lists_entry_against_R0 lists_entry_against_R1 lists_entry_against_L lists_entry_against_ks lists_entries_R0 lists_entries_R1 lists_entries_R2 lists_entries_R3 lists_entries_R4 lists_entries_R5 lists_entries_R6 lists_entries_R7 lists_entries_R8 lists_entries_R9 lists_entries_R10 lists_entries_R11 lists_entries_R12 lists_entries_B2 lists_entries_B1 lists_entries_R13 lists_entries_W1 lists_entries_B0 lists_entries_R14 lists_entries_L lists_entries_ks
open Go Go.L1
set_option maxRecDepth 100000
set_option maxHeartbeats 4000000

theorem isNaNS_ok (a : List UInt8) (s : List SO) : FnOK Tryz.prog GW 133 [.c (.str a)] s (.c (.bool false)) s := by
  refine cmp_isNaN_string_F.pu {} (by simp [-getElem?_pos]) rfl ?_
  simp [-getElem?_pos]
theorem isNaNI_ok (a : Int) (s : List SO) : FnOK Tryz.prog GW 136 [.c (.int .i64 a)] s (.c (.bool false)) s := by
  refine cmp_isNaN_int_F.pu {} (by simp [-getElem?_pos]) rfl ?_
  simp [-getElem?_pos]
def cmpI (a b : Int) : Int := if a < b then -1 else if b < a then 1 else 0
theorem cmpI_ok (a b : Int) (s : List SO) : FnOK Tryz.prog GW 100 [.c (.int .i64 a), .c (.int .i64 b)] s (.c (.int .i64 (cmpI a b))) s := by
  refine cmp_Compare_int_F.pu {} (by simp [-getElem?_pos]) rfl ?_
  simp [-getElem?_pos]
  refine callW0 (isNaNI_ok _) rfl ?_
  simp [-getElem?_pos]
  refine callW0 (isNaNI_ok _) rfl ?_
  simp [-getElem?_pos]
  refine ⟨fun h => by simp [-getElem?_pos, cmpI, h], fun h => ⟨fun h1 => by simp [-getElem?_pos, cmpI, Int.not_lt.2 h, h1], fun h1 => by simp [-getElem?_pos, cmpI, Int.not_lt.2 h, Int.not_lt.2 h1]⟩⟩
def cmpS (a b : List UInt8) : Int := if Op.bytesLess a b then -1 else if Op.bytesLess a b || a == b then 0 else 1
theorem cmpS_ok (a b : List UInt8) (s : List SO) : FnOK Tryz.prog GW 95 [.c (.str a), .c (.str b)] s (.c (.int .i64 (cmpS a b))) s := by
  refine cmp_Compare_string_F.pu {} (by simp [-getElem?_pos]) rfl ?_
  simp [-getElem?_pos]
  refine callW0 (isNaNS_ok _) rfl ?_
  simp [-getElem?_pos]
  refine callW0 (isNaNS_ok _) rfl ?_
  simp [-getElem?_pos]
  cases h : Op.bytesLess a b
  · by_cases h1 : a = b
    · subst h1; simp [-getElem?_pos, cmpS, h]
    · simp [-getElem?_pos, cmpS, h, h1]
  · simp [-getElem?_pos, cmpS, h]
def orI : List Int → Int
  | [] => 0
  | x :: r => if x = 0 then orI r else x
theorem or_ok (a b c : Int) (s : List SO) : FnOK Tryz.prog GW 99 [.c (.sl [[I a], [I b], [I c]])] s (.c (.int .i64 (orI [a, b, c]))) s := by
  refine cmp_Or_int_F.pu {} (by simp [-getElem?_pos]) rfl ?_
  simp [-getElem?_pos]
  refine loopM_intro (fun m e st => ∃ i : Nat, m = 3 - i ∧ i ≤ 3 ∧ st = s ∧ orI [a, b, c] = orI ([a, b, c].drop i) ∧ e = [(8, .c (I i)), (7, .c (I 3)), (6, .c (.sl [[I a], [I b], [I c]])), (3, .c (I 0))]) 3 _ ?_ ⟨0, rfl, by omega, rfl, rfl, rfl⟩ ?_
  · simp [-getElem?_pos]
  rintro m e st ⟨i, rfl, hi, rfl, hor, rfl⟩
  rcases (by omega : i = 0 ∨ i = 1 ∨ i = 2 ∨ i = 3) with rfl | rfl | rfl | rfl
  · have hw : IntKind.i64.wrap 1 = 1 := by decide
    simp [-getElem?_pos, hw]
    refine ⟨fun h => ?_, fun h => againM_i _ _ ?_ ?_ ⟨1, rfl, by omega, rfl, ?_, rfl⟩⟩
    · simp [-getElem?_pos, orI, h]
    · omega
    · simp [-getElem?_pos]
    · simp [-getElem?_pos, orI, h]
  · have hw : IntKind.i64.wrap 2 = 2 := by decide
    simp [-getElem?_pos, hw]
    refine ⟨fun h => ?_, fun h => againM_i _ _ ?_ ?_ ⟨2, rfl, by omega, rfl, ?_, rfl⟩⟩
    · rw [hor]; simp [-getElem?_pos, orI, h]
    · omega
    · simp [-getElem?_pos]
    · rw [hor]; simp [-getElem?_pos, orI, h]
  · have hw : IntKind.i64.wrap 3 = 3 := by decide
    simp [-getElem?_pos, hw]
    refine ⟨fun h => ?_, fun h => againM_i _ _ ?_ ?_ ⟨3, rfl, by omega, rfl, ?_, rfl⟩⟩
    · rw [hor]; simp [-getElem?_pos, orI, h]
    · omega
    · simp [-getElem?_pos]
    · rw [hor]; simp [-getElem?_pos, orI, h]
  · have h0 : orI [a, b, c] = 0 := by rw [hor]; rfl
    simp [-getElem?_pos, h0]

def Entry.cells (e : Entry) : List C := [.str e.l.actor, .str e.l.reason, .str e.l.by_, I e.l.until_, I e.at_]
def againstS (a b : Entry) : Int := orI [cmpI a.l.until_ b.l.until_, cmpS b.l.by_ a.l.by_, cmpI a.at_ b.at_]
theorem against_ok (a b : Entry) (s : List SO) : FnOK Tryz.prog GW 57 [agg a.cells, agg b.cells] s (.c (.int .i64 (againstS a b))) s := by
  refine lists_entry_against_F.pu {} (by simp [-getElem?_pos]) rfl ?_
  simp [-getElem?_pos, agg, Entry.cells, mixed]
  refine callW0 (cmpI_ok _ _) rfl ?_
  simp [-getElem?_pos]
  refine callW0 (cmpS_ok _ _) rfl ?_
  simp [-getElem?_pos]
  refine callW0 (cmpI_ok _ _) rfl ?_
  simp [-getElem?_pos]
  refine callW0 (or_ok _ _ _) rfl ?_
  simp [-getElem?_pos, againstS]
theorem against_better (a b : Entry) : decide (againstS a b > 0) = better a b := by
  have hl : ∀ x y : List UInt8, Op.bytesLess x y = decide (x < y) := bytesLess_eq
  rw [Bool.eq_iff_iff, better_iff, decide_eq_true_eq]
  simp only [againstS, orI, cmpI, cmpS, hl]
  rcases Int.lt_trichotomy a.l.until_ b.l.until_ with h | h | h
  · simp [-getElem?_pos, h]; omega
  · have h1 : ¬ a.l.until_ < b.l.until_ := by omega
    have h2 : ¬ b.l.until_ < a.l.until_ := by omega
    simp only [h1, h2, if_false]
    rcases slt_tri a.l.by_ b.l.by_ with k | k | k
    · have k1 : ¬ b.l.by_ < a.l.by_ := fun h => slt_irrefl _ (slt_trans k h)
      have k2 : ¬ b.l.by_ = a.l.by_ := fun h => k1 (by rw [h] at k; exact absurd k (slt_irrefl _))
      simp [-getElem?_pos, h, k, k1, k2]
    · rcases Nat.lt_trichotomy a.at_ b.at_ with q | q | q
      · have q1 : (a.at_ : Int) < b.at_ := by omega
        have q2 : ¬ b.at_ < a.at_ := by omega
        simp [-getElem?_pos, h, k, slt_irrefl, q1, q2]
      · simp [-getElem?_pos, h, k, slt_irrefl, q]
      · have q1 : ¬ (a.at_ : Int) < b.at_ := by omega
        have q2 : (b.at_ : Int) < a.at_ := by omega
        simp [-getElem?_pos, h, k, slt_irrefl, q1, q2, q]
    · have k1 : ¬ a.l.by_ < b.l.by_ := fun h => slt_irrefl _ (slt_trans k h)
      have k2 : ¬ a.l.by_ = b.l.by_ := fun h => by rw [h] at k; exact slt_irrefl _ k
      simp [-getElem?_pos, h, k, k1, k2]
  · have h1 : ¬ a.l.until_ < b.l.until_ := by omega
    simp [-getElem?_pos, h, h1]

theorem endsX_i {cx : Cx} {rs : List ResultVar} {res : V} {st : List SO} {e : Env} (hres : resAll cx.P e rs = some res) (hok : StOk st) (hr : RefsLt st.length res) (hn : cx.n0 ≤ st.length) : EndsX cx rs res st .ret e st :=
  ⟨.inr rfl, e, [], by simpa [-getElem?_pos] using WeakE.refl, hres, hok, hr, hn⟩
theorem refsLt_mono {n m : Nat} (h : n ≤ m) {v : V} (hv : RefsLt n v) : RefsLt m v := by
  induction hv with
  | undef => exact .undef
  | c x => exact .c x
  | agg cs _ ih => exact .agg cs ih
  | tup cs _ ih => exact .tup cs ih
  | ptr id off hl => exact .ptr id off (by omega)
  | ep c o => exact .ep c o
  | own id e hl => exact .own id e (by omega)
  | odp id e hl => exact .odp id e (by omega)
  | psl id off len hl => exact .psl id off len (by omega)
  | mref id hl => exact .mref id (by omega)
  | clo f caps _ ih => exact .clo f caps ih
  | gp g => exact .gp g
  | gv g => exact .gv g
  | anyb => exact .anyb
theorem stOk_snoc {st : List SO} {o : SO} (h : StOk st) (ho : ObjRefs (st.length + 1) o) : StOk (st ++ [o]) := by
  intro x hx
  rw [List.length_append, List.length_singleton]
  rcases List.mem_append.1 hx with hx | hx
  · have := h x hx
    cases x with
    | box cs => exact fun v hv => refsLt_mono (by omega) (this v hv)
    | tbox T cs => exact fun v hv => refsLt_mono (by omega) (this v hv)
    | _ => trivial
  · simp [-getElem?_pos] at hx; subst hx; exact ho
/-- Entries in a map. -/
def entC (m : List (Nat × Entry)) : List (List C × List C) := m.map fun p => ([I p.1], p.2.cells)
theorem entC_keys (m : List (Nat × Entry)) : keysIn (.int .i64) (entC m) = true := by
  simp [-getElem?_pos, entC, keysIn, keyIn1, keyIn]
theorem mfind_ent (k : Nat) : ∀ (m : List (Nat × Entry)) (i : Nat), mfind (I k) (entC m) i = ((m.findIdx? fun p => p.1 == k).bind fun j => (m[j]?).map fun p => (i + j, p.2.cells))
  | [], i => by simp [-getElem?_pos, entC, mfind]
  | p :: r, i => by
    have ih := mfind_ent k r (i + 1)
    simp only [entC, List.map_cons, mfind, List.findIdx?_cons]
    by_cases h : p.1 = k
    · simp [-getElem?_pos, h, sameC]
    · have h1 : sameC (I k) [I p.1] = false := by simp [-getElem?_pos, sameC]; omega
      have h2 : (p.1 == k) = false := by simpa [-getElem?_pos] using h
      simp only [h1, h2, Bool.false_eq_true, if_false]
      rw [show (r.map fun p => ([I p.1], p.2.cells)) = entC r from rfl, ih]
      cases r.findIdx? (fun p => p.1 == k) <;> simp [-getElem?_pos]
      next j => cases r[j]? <;> simp [-getElem?_pos]; omega
theorem eraseIdx_map' {α β : Type} (f : α → β) : ∀ (l : List α) (i : Nat), (l.map f).eraseIdx i = (l.eraseIdx i).map f
  | [], _ => by simp [-getElem?_pos]
  | _ :: _, 0 => rfl
  | _ :: l, i + 1 => by simp [-getElem?_pos, eraseIdx_map' f l i]
theorem mdel_ent (k : Nat) (m : List (Nat × Entry)) : mdel (I k) (entC m) = entC (m.eraseP fun p => p.1 == k) := by
  unfold mdel
  rw [mfind_ent]
  have key : ∀ (m : List (Nat × Entry)), (match ((m.findIdx? fun p => p.1 == k).bind fun j => (m[j]?).map fun p => (0 + j, p.2.cells)) with
      | some p => (entC m).eraseIdx p.1
      | none => entC m) = entC (m.eraseP fun p => p.1 == k) := by
    intro m
    rw [List.eraseP_eq_eraseIdx]
    cases hf : m.findIdx? (fun p => p.1 == k) with
    | none => simp [-getElem?_pos]
    | some j =>
      obtain ⟨hlt, _⟩ := List.findIdx?_eq_some_iff_getElem.1 hf
      simp [-getElem?_pos, List.getElem?_eq_getElem hlt, entC, eraseIdx_map']
  exact key m
theorem mput_ent {k : Nat} {m : List (Nat × Entry)} (e : Entry) (h : ∀ p ∈ m, p.1 < k) : mput (I k) e.cells (entC m) = entC (m ++ [(k, e)]) := by
  unfold mput
  rw [mfind_ent]
  have : m.findIdx? (fun p => p.1 == k) = none := by
    rw [List.findIdx?_eq_none_iff]
    intro p hp
    have := h p hp
    simp [-getElem?_pos]; omega
  simp [-getElem?_pos, this, entC]
theorem entries_ok (cs : List Chain) (k : List UInt8) (hcs : cs.length ≤ 1073741824) (hc : ∀ a ∈ (findC cs k).acts, a.Fits) (hl : (findC cs k).acts.length ≤ 1073741824) (s : List SO) :
    FnOK Tryz.prog GW 54 [chains cs, .c (.str k)] s (.mref s.length) (s ++ [.map false true (entC (entriesS digestS cs k))]) := by
  refine lists_entries_F.full {} (by simp [-getElem?_pos]) fun hst => ?_
  simp [-getElem?_pos, mixed, chains]
  refine callW0 (res := findR cs k) (find_ok cs hcs k) rfl ?_
  simp [-getElem?_pos, mixed, findR, agg, Chain.cells]
  generalize hcc : findC cs k = cc at hc hl
  refine loopM_intro (fun m e st => ∃ i : Nat, m = cc.acts.length - i ∧ i ≤ cc.acts.length ∧ st = s ++ [.map false true (entC (entN digestS cc.acts k i))] ∧
    e = [(22, .c (I i)), (21, .c (I cc.acts.length)), (20, .c (.sl (cc.acts.map Act.cells))), (7, .mref s.length),
      (5, .box [.c (.str cc.id), .c (.sl (cc.acts.map Act.cells)), .c (.sl (cc.keys.map KeyAt.cells)), .c (.str cc.prev), .c (I cc.gen), .c (.bool cc.fork)]), (1, .c (.str k))]) cc.acts.length _ ?_ ⟨0, rfl, Nat.zero_le _, by simp [-getElem?_pos, entN, entC], rfl⟩ ?_
  · simp [-getElem?_pos]
  rintro m e st ⟨i, rfl, hi, rfl, rfl⟩
  by_cases h : i < cc.acts.length
  · obtain ⟨a, ha⟩ := get_of_lt h
    have hw := wrap_succ h (by omega)
    have haf := hc a (List.mem_of_getElem? ha)
    have hstep : entN digestS cc.acts k (i + 1) = stepE digestS cc.acts k i a (entN digestS cc.acts k i) := by simp only [entN, ha]
    have hlt : ∀ p ∈ entN digestS cc.acts k i, p.1 < i := fun p hp => (entN_mem i p hp).1
    generalize entN digestS cc.acts k i = m at hstep hlt
    by_cases h23 : a.kind = 23
    · simp (config := { maxSteps := 10000000 }) [-getElem?_pos, mixed, h, ha, Act.cells, h23, entC_keys, hw]
      have hput := mput_ent (k := i) (entryOf k a i) hlt
      simp only [entryOf, Entry.cells] at hput
      refine againM_i _ _ ?_ ?_ ⟨i + 1, rfl, h, ?_, rfl⟩
      · omega
      · simp [-getElem?_pos]
      · rw [hput, hstep]; simp [-getElem?_pos, stepE, h23, entryOf]
    · by_cases h6 : a.kind = 6
      · simp (config := { maxSteps := 10000000 }) [-getElem?_pos, mixed, h, ha, Act.cells, h23, h6, entC_keys, hw]
        refine callW0 (res := indexR cc a.object) (fun s' => index_ok cc hc hl a.object s') rfl ?_
        simp (config := { maxSteps := 10000000 }) [-getElem?_pos, mixed, h, ha, Act.cells, h23, h6, entC_keys, hw, indexR]
        refine exY_i (decide ((indexS digestS cc.acts a.object).getD 0 < i)) ⟨fun _ => rfl, fun h1 h2 => againM_i _ _ ?_ ?_ ⟨i + 1, rfl, h, ?_, rfl⟩, fun h1 => againM_i _ _ ?_ ?_ ⟨i + 1, rfl, h, ?_, rfl⟩⟩
        · omega
        · simp [-getElem?_pos]
        · rw [mdel_ent, hstep]
          obtain ⟨q, hq⟩ := Option.isSome_iff_exists.1 h1
          rw [hq] at h2
          simp [-getElem?_pos] at h2
          simp [-getElem?_pos, stepE, h6, hq, h2]
        · omega
        · simp [-getElem?_pos]
        · rw [hstep]
          cases hq : indexS digestS cc.acts a.object with
          | none => simp [-getElem?_pos, stepE, h6, hq]
          | some q =>
            have h3 := h1 (by rw [hq]; rfl)
            rw [hq] at h3
            simp [-getElem?_pos] at h3
            have h4 : ¬ q < i := by omega
            simp [-getElem?_pos, stepE, h6, hq, h4]
      · simp (config := { maxSteps := 10000000 }) [-getElem?_pos, mixed, h, ha, Act.cells, h23, h6, entC_keys, hw]
        refine againM_i _ _ ?_ ?_ ⟨i + 1, rfl, h, ?_, rfl⟩
        · omega
        · simp [-getElem?_pos]
        · rw [hstep]; simp [-getElem?_pos, stepE, h23, h6]
  · have he : i = cc.acts.length := by omega
    subst he
    have hres : entriesS digestS cs k = entN digestS cc.acts k cc.acts.length := by unfold entriesS; rw [hcc]
    rw [hres]
    simp (config := { maxSteps := 10000000 }) [-getElem?_pos, mixed]
    exact endsX_i (by simp [-getElem?_pos]) (stOk_snoc hst trivial) (.mref _ (by simp [-getElem?_pos])) (by simp [-getElem?_pos])
end Go.Proofs.YthkmfboffnhkaaaGreatDoor
