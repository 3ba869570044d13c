/-
  The plain law of labels: what label.Valid and label.Of compute, in plain Lean, and what is said of it.
-/
import Derived.Test.YthkmfboffnhkaaaGreatDoorPL
set_option linter.all false
namespace Go.Proofs.YthkmfboffnhkaaaGreatDoor

/-! ### What activities put in by their places, and undos take out -/
section
variable {α : Type} {dg : Act → Str} {acts : List Act} {sel : Act → Option α}
def stepP (dg : Act → Str) (acts : List Act) (sel : Act → Option α) (i : Nat) (a : Act) (m : List (Nat × α)) : List (Nat × α) :=
  match sel a with
  | some v => m ++ [(i, v)]
  | none => if a.kind = 6 then
    match indexS dg acts a.object with
    | some j => if j < i then m.eraseP (fun p => p.1 == j) else m
    | none => m
  else m
def placeN (dg : Act → Str) (acts : List Act) (sel : Act → Option α) : Nat → List (Nat × α)
  | 0 => []
  | n + 1 => match acts[n]? with
    | some a => stepP dg acts sel n a (placeN dg acts sel n)
    | none => placeN dg acts sel n
theorem stepP_mem {i : Nat} {a : Act} {m : List (Nat × α)} {p : Nat × α} (h : p ∈ stepP dg acts sel i a m) : p ∈ m ∨ ∃ v, sel a = some v ∧ p = (i, v) := by
  unfold stepP at h
  split at h
  · next v hv =>
    rcases List.mem_append.1 h with h | h
    · exact .inl h
    · simp at h; exact .inr ⟨v, hv, h⟩
  · split at h
    · split at h
      · split at h
        · exact .inl (List.mem_of_mem_eraseP h)
        · exact .inl h
      · exact .inl h
    · exact .inl h
theorem placeN_mem : ∀ (n : Nat) (p : Nat × α), p ∈ placeN dg acts sel n → p.1 < n ∧ ∃ a, acts[p.1]? = some a ∧ sel a = some p.2
  | 0, p, h => by simp [placeN] at h
  | n + 1, p, h => by
    simp only [placeN] at h
    cases ha : acts[n]? with
    | none =>
      rw [ha] at h
      obtain ⟨h1, h2⟩ := placeN_mem n p h
      exact ⟨by omega, h2⟩
    | some a =>
      rw [ha] at h
      rcases stepP_mem h with h | ⟨v, hv, rfl⟩
      · obtain ⟨h1, h2⟩ := placeN_mem n p h
        exact ⟨by omega, h2⟩
      · exact ⟨Nat.lt_succ_self n, a, ha, hv⟩
theorem placeN_keep {i : Nat} {a : Act} {v : α} (hi : acts[i]? = some a) (hv : sel a = some v) : ∀ (n : Nat), i < n → (∀ b ∈ acts, b.kind ≠ 6) → (i, v) ∈ placeN dg acts sel n
  | 0, h, _ => by omega
  | n + 1, h, hu => by
    simp only [placeN]
    by_cases hin : i = n
    · subst hin
      rw [hi]
      simp [stepP, hv]
    · have ih := placeN_keep hi hv n (by omega) hu
      cases hn : acts[n]? with
      | none => exact ih
      | some b =>
        have hb := hu b (List.mem_of_getElem? hn)
        simp only [stepP]
        split
        · exact List.mem_append_left _ ih
        · rw [if_neg hb]; exact ih
theorem placeN_len : ∀ n, (placeN dg acts sel n).length ≤ n
  | 0 => by simp [placeN]
  | n + 1 => by
    have ih := placeN_len n
    simp only [placeN]
    split
    · simp only [stepP]
      split
      · simp; omega
      · split
        · split
          · split
            · have := List.length_eraseP_le (p := fun p : Nat × α => p.1 == ‹Nat›) (l := placeN dg acts sel n); omega
            · omega
          · omega
        · omega
    · omega
end

/-! ### Ascending lists without repetitions -/
def dedupA : List Str → List Str
  | [] => []
  | [x] => [x]
  | x :: y :: r => if x = y then dedupA (y :: r) else x :: dedupA (y :: r)
theorem dedupA_mem : ∀ (l : List Str) (x : Str), x ∈ dedupA l ↔ x ∈ l
  | [], _ => by simp [dedupA]
  | [_], _ => by simp [dedupA]
  | x :: y :: r, z => by
    have ih := dedupA_mem (y :: r) z
    simp only [dedupA]
    split
    · next h => subst h; rw [ih]; simp
    · rw [List.mem_cons, ih]; simp
theorem dedupA_lt : ∀ (l : List Str), l.Pairwise (· ≤ ·) → (dedupA l).Pairwise (· < ·)
  | [], _ => by simp [dedupA]
  | [_], _ => by simp [dedupA]
  | x :: y :: r, h => by
    obtain ⟨h1, h2⟩ := List.pairwise_cons.1 h
    have ih := dedupA_lt (y :: r) h2
    simp only [dedupA]
    split
    · exact ih
    · next hne =>
      refine List.pairwise_cons.2 ⟨fun z hz => ?_, ih⟩
      have hz' := (dedupA_mem _ _).1 hz
      have hxy : x < y := by
        rcases slt_tri x y with h3 | h3 | h3
        · exact h3
        · exact absurd h3 hne
        · exact absurd h3 (List.not_lt.2 (h1 y (List.mem_cons_self ..)))
      rcases List.mem_cons.1 hz' with rfl | hz'
      · exact hxy
      · have := (List.pairwise_cons.1 h2).1 z hz'
        rcases slt_tri x z with h3 | h3 | h3
        · exact h3
        · subst h3; exact absurd hxy (List.not_lt.2 this)
        · exact absurd (slt_trans h3 hxy) (List.not_lt.2 this)
theorem dedupA_len : ∀ (l : List Str), (dedupA l).length ≤ l.length
  | [] => by simp [dedupA]
  | [_] => by simp [dedupA]
  | x :: y :: r => by
    have ih := dedupA_len (y :: r)
    simp only [dedupA]
    split
    · simp at ih ⊢; omega
    · simp at ih ⊢; omega
theorem sorted_le (l : List Str) : (sorted l).Pairwise (· ≤ ·) := by
  have h1 : (sorted l).Pairwise (fun x y => decide (x ≤ y) = true) := List.pairwise_mergeSort (fun a b c hab hbc => by simpa using List.le_trans (by simpa using hab) (by simpa using hbc))
    (fun a b => by simp only [Bool.or_eq_true, decide_eq_true_eq]; exact List.le_total a b) l
  exact h1.imp (by simp)
def ascS (l : List Str) : List Str := dedupA (sorted l)
theorem ascS_lt (l : List Str) : (ascS l).Pairwise (· < ·) := dedupA_lt _ (sorted_le l)
theorem ascS_mem (l : List Str) (x : Str) : x ∈ ascS l ↔ x ∈ l := by
  unfold ascS; rw [dedupA_mem, (sorted_perm l).mem_iff]
theorem ascS_len (l : List Str) : (ascS l).length ≤ l.length := by
  have := dedupA_len (sorted l); rw [(sorted_perm l).length_eq] at this; exact this
theorem nodup_of_lt {l : List Str} (h : l.Pairwise (· < ·)) : l.Nodup := h.imp fun {a b} hab he => by subst he; exact slt_irrefl _ hab
theorem lt_ext {l l' : List Str} (h : l.Pairwise (· < ·)) (h' : l'.Pairwise (· < ·)) (hm : ∀ x, x ∈ l ↔ x ∈ l') : l = l' :=
  asc_ext (fun a b : Str => a < b) slt_irrefl (fun _ _ h k => slt_irrefl _ (slt_trans h k)) l l' h h' hm

/-! ### Labels -/
def selL (target : Str) (a : Act) : Option Str := if a.kind = 17 then (if a.object = target ∨ a.target = target then some a.text else none) else none
noncomputable def givenN (dg : Act → Str) (acts : List Act) (target : Str) (n : Nat) : List (Nat × Str) := placeN dg acts (selL target) n
noncomputable def validA (dg : Act → Str) (acts : List Act) (target : Str) : List Str := ascS ((givenN dg acts target acts.length).map (·.2))
noncomputable def validS (dg : Act → Str) (cs : List Chain) (by_ target : Str) : List Str := if target = [] then [] else validA dg (findC cs by_).acts target
theorem selL_some {target : Str} {a : Act} {v : Str} (h : selL target a = some v) : a.kind = 17 ∧ (a.object = target ∨ a.target = target) ∧ v = a.text := by
  unfold selL at h
  split at h
  · next h1 =>
    split at h
    · next h2 => injection h with h; exact ⟨h1, h2, h.symm⟩
    · cases h
  · cases h
theorem validS_lt (dg : Act → Str) (cs : List Chain) (b t : Str) : (validS dg cs b t).Pairwise (· < ·) := by
  unfold validS
  split
  · simp
  · exact ascS_lt _
theorem validS_mem {dg : Act → Str} {cs : List Chain} {b t x : Str} (h : x ∈ validS dg cs b t) : ∃ a ∈ (findC cs b).acts, a.kind = 17 ∧ a.text = x ∧ (a.object = t ∨ a.target = t) := by
  unfold validS at h
  split at h
  · simp at h
  · unfold validA at h
    rw [ascS_mem] at h
    obtain ⟨p, hp, rfl⟩ := List.mem_map.1 h
    obtain ⟨_, a, ha, hs⟩ := placeN_mem _ p hp
    obtain ⟨h1, h2, h3⟩ := selL_some hs
    exact ⟨a, List.mem_of_getElem? ha, h1, h3.symm, h2⟩
theorem validS_all {dg : Act → Str} {cs : List Chain} {b t : Str} (ht : t ≠ []) (hu : ∀ a ∈ (findC cs b).acts, a.kind ≠ 6) {a : Act} (ha : a ∈ (findC cs b).acts) (hk : a.kind = 17) (ho : a.object = t ∨ a.target = t) :
    a.text ∈ validS dg cs b t := by
  unfold validS
  rw [if_neg ht]
  unfold validA
  rw [ascS_mem]
  obtain ⟨i, hi⟩ := List.mem_iff_getElem?.1 ha
  have hil : i < (findC cs b).acts.length := by
    rcases Nat.lt_or_ge i (findC cs b).acts.length with h | h
    · exact h
    · rw [List.getElem?_eq_none h] at hi; cases hi
  exact List.mem_map.2 ⟨(i, a.text), placeN_keep hi (by simp [selL, hk, ho]) _ hil hu, rfl⟩
theorem validS_len (dg : Act → Str) (cs : List Chain) (b t : Str) : (validS dg cs b t).length ≤ (findC cs b).acts.length := by
  unfold validS
  split
  · simp
  · unfold validA
    refine Nat.le_trans (ascS_len _) ?_
    rw [List.length_map]
    exact placeN_len _

/-! ### Counts -/
/-- A list's elements, each where it first occurs. -/
def distS (l : List Str) : List Str := l.foldl (fun D x => if x ∈ D then D else D ++ [x]) []
theorem distS_snoc (l : List Str) (x : Str) : distS (l ++ [x]) = if x ∈ distS l then distS l else distS l ++ [x] := by
  unfold distS; rw [List.foldl_append]; rfl
theorem distS_ok : ∀ (n : Nat) (l : List Str), l.length = n → (distS l).Nodup ∧ ∀ x, x ∈ distS l ↔ x ∈ l
  | 0, l, h => by rw [List.length_eq_zero_iff.1 h]; simp [distS]
  | n + 1, l, h => by
    obtain ⟨m, y, rfl⟩ : ∃ m y, l = m ++ [y] := by
      rcases List.eq_nil_or_concat l with h1 | ⟨m, y, h1⟩
      · subst h1; simp at h
      · exact ⟨m, y, by simpa using h1⟩
    obtain ⟨h1, h2⟩ := distS_ok n m (by simpa using h)
    rw [distS_snoc]
    split
    · next hm =>
      refine ⟨h1, fun x => ?_⟩
      rw [h2, List.mem_append, List.mem_singleton]
      exact ⟨.inl, fun h => h.elim id fun h => by subst h; exact (h2 _).1 hm⟩
    · next hm =>
      refine ⟨?_, fun x => by rw [List.mem_append, h2, List.mem_append]⟩
      rw [List.nodup_append]
      exact ⟨h1, by simp, fun a ha b hb => by simp at hb; subst hb; exact fun h => hm (h ▸ ha)⟩
theorem distS_nodup (l : List Str) : (distS l).Nodup := (distS_ok _ l rfl).1
theorem distS_mem (l : List Str) (x : Str) : x ∈ distS l ↔ x ∈ l := (distS_ok _ l rfl).2 x
theorem distS_len (l : List Str) : (distS l).length ≤ l.length := by
  have key : ∀ (n : Nat) (l : List Str), l.length = n → (distS l).length ≤ n := by
    intro n
    induction n with
    | zero => intro l h; rw [List.length_eq_zero_iff.1 h]; simp [distS]
    | succ n ih =>
      intro l h
      obtain ⟨m, y, rfl⟩ : ∃ m y, l = m ++ [y] := by
        rcases List.eq_nil_or_concat l with h1 | ⟨m, y, h1⟩
        · subst h1; simp at h
        · exact ⟨m, y, by simpa using h1⟩
      have := ih m (by simpa using h)
      rw [distS_snoc]
      split
      · omega
      · simp; omega
  exact key _ l rfl
theorem distS_perm {l l' : List Str} (h : ∀ x, x ∈ l ↔ x ∈ l') : (distS l).Perm (distS l') :=
  (List.perm_ext_iff_of_nodup (distS_nodup l) (distS_nodup l')).2 fun x => by rw [distS_mem, distS_mem]; exact h x

def incM (k : Str) : List (Str × Nat) → List (Str × Nat)
  | [] => [(k, 1)]
  | p :: r => if p.1 = k then (k, p.2 + 1) :: r else p :: incM k r
def getM (k : Str) : List (Str × Nat) → Nat
  | [] => 0
  | p :: r => if p.1 = k then p.2 else getM k r
def cntM (ns : List Str) : List (Str × Nat) := ns.foldl (fun m k => incM k m) []
theorem keys_incM (k : Str) (x : Str) : ∀ m : List (Str × Nat), x ∈ (incM k m).map (·.1) ↔ x = k ∨ x ∈ m.map (·.1)
  | [] => by simp [incM]
  | p :: r => by
    simp only [incM]
    split
    · next h => subst h; simp
    · simp only [List.map_cons, List.mem_cons, keys_incM k x r]
      constructor
      · rintro (h | h | h)
        · exact .inr (.inl h)
        · exact .inl h
        · exact .inr (.inr h)
      · rintro (h | h | h)
        · exact .inr (.inl h)
        · exact .inl h
        · exact .inr (.inr h)
theorem nodup_incM (k : Str) : ∀ m : List (Str × Nat), (m.map (·.1)).Nodup → ((incM k m).map (·.1)).Nodup
  | [], _ => by simp [incM]
  | p :: r, h => by
    simp only [List.map_cons, List.nodup_cons] at h
    simp only [incM]
    split
    · next hp => subst hp; simpa using h
    · next hp =>
      simp only [List.map_cons, List.nodup_cons]
      refine ⟨fun hm => ?_, nodup_incM k r h.2⟩
      rcases (keys_incM k p.1 r).1 hm with h1 | h1
      · exact hp h1
      · exact h.1 h1
theorem get_incM (k x : Str) : ∀ m : List (Str × Nat), getM x (incM k m) = getM x m + if x = k then 1 else 0
  | [] => by
    by_cases h : x = k
    · simp [incM, getM, h]
    · simp [incM, getM, h, Ne.symm h]
  | p :: r => by
    simp only [incM]
    split
    · next hp =>
      subst hp
      by_cases h : x = p.1
      · simp [getM, h]
      · simp [getM, h, Ne.symm h]
    · next hp =>
      simp only [getM]
      by_cases h : p.1 = x
      · have : ¬ x = k := fun h1 => hp (h.trans h1)
        simp [h, this]
      · rw [if_neg h, if_neg h, get_incM k x r]
theorem cntM_ok (ns : List Str) : ((cntM ns).map (·.1)).Nodup ∧ (∀ x, x ∈ (cntM ns).map (·.1) ↔ x ∈ ns) ∧ ∀ x, getM x (cntM ns) = ns.count x := by
  have key : ∀ (l ns : List Str) (m : List (Str × Nat)), (m.map (·.1)).Nodup → (∀ x, x ∈ m.map (·.1) ↔ x ∈ ns) → (∀ x, getM x m = ns.count x) →
      ((l.foldl (fun m k => incM k m) m).map (·.1)).Nodup ∧ (∀ x, x ∈ (l.foldl (fun m k => incM k m) m).map (·.1) ↔ x ∈ ns ++ l) ∧ ∀ x, getM x (l.foldl (fun m k => incM k m) m) = (ns ++ l).count x := by
    intro l
    induction l with
    | nil => intro ns m h1 h2 h3; simpa using ⟨h1, by simpa using h2, h3⟩
    | cons k l ih =>
      intro ns m h1 h2 h3
      have := ih (ns ++ [k]) (incM k m) (nodup_incM k m h1) (fun x => by rw [keys_incM, h2]; simp [or_comm]) (fun x => by
        rw [get_incM, h3, List.count_append]
        congr 1
        by_cases hx : x = k
        · subst hx; simp
        · rw [if_neg hx, List.count_eq_zero_of_not_mem (by simpa using hx)])
      simpa using this
  have := key ns [] [] (by simp) (by simp) (by simp [getM])
  simpa [cntM] using this
structure Cnt where
  name : Str
  n : Nat
def countsS (ns : List Str) : List Cnt := (sorted ((cntM ns).map (·.1))).map fun k => ⟨k, ns.count k⟩
theorem countsS_perm {ns ns' : List Str} (h : ns.Perm ns') : countsS ns = countsS ns' := by
  unfold countsS
  have e : sorted ((cntM ns).map (·.1)) = sorted ((cntM ns').map (·.1)) := by
    refine lt_ext (sorted_lt (cntM_ok ns).1) (sorted_lt (cntM_ok ns').1) fun x => ?_
    rw [(sorted_perm _).mem_iff, (sorted_perm _).mem_iff, (cntM_ok ns).2.1, (cntM_ok ns').2.1, h.mem_iff]
  rw [e]
  refine List.map_congr_left fun k _ => ?_
  rw [h.count_eq]
theorem countsS_lt (ns : List Str) : (countsS ns).Pairwise (fun x y => x.name < y.name) := by
  unfold countsS
  rw [List.pairwise_map]
  exact sorted_lt (cntM_ok ns).1
theorem countsS_mem (ns : List Str) (x : Cnt) : x ∈ countsS ns ↔ x.name ∈ ns ∧ x.n = ns.count x.name := by
  unfold countsS
  rw [List.mem_map]
  constructor
  · rintro ⟨k, hk, rfl⟩
    exact ⟨((cntM_ok ns).2.1 k).1 ((sorted_perm _).mem_iff.1 hk), rfl⟩
  · rintro ⟨h1, h2⟩
    exact ⟨x.name, (sorted_perm _).mem_iff.2 (((cntM_ok ns).2.1 _).2 h1), by cases x; simp at h2; rw [h2]⟩
theorem count_flatMap_of {f : Str → List Str} (hf : ∀ b, (f b).Nodup) (x : Str) : ∀ D : List Str, (D.flatMap f).count x = D.countP fun b => decide (x ∈ f b)
  | [] => by simp
  | b :: D => by
    rw [List.flatMap_cons, List.count_append, count_flatMap_of hf x D, List.countP_cons]
    have : (f b).count x = if x ∈ f b then 1 else 0 := by
      split
      · next h => exact Nat.le_antisymm (List.nodup_iff_count.1 (hf b) x) (List.one_le_count_iff.2 h)
      · next h => exact List.count_eq_zero_of_not_mem h
    rw [this]
    by_cases h : x ∈ f b <;> simp [h] <;> omega
/-- What label.Of gives. -/
noncomputable def namesS (dg : Act → Str) (cs : List Chain) (ks : List Str) (t : Str) : List Str := (distS ks).flatMap fun b => validS dg cs b t
noncomputable def ofLS (dg : Act → Str) (cs : List Chain) (ks : List Str) (t : Str) : List Cnt := countsS (namesS dg cs ks t)
section
variable {dg : Act → Str} {cs : List Chain} {t : Str}
theorem ofLS_congr {ks ks' : List Str} (h : ∀ k, k ∈ ks ↔ k ∈ ks') : ofLS dg cs ks t = ofLS dg cs ks' t :=
  countsS_perm ((distS_perm h).flatMap_right _)
theorem names_count (ks : List Str) (x : Str) : (namesS dg cs ks t).count x = (distS ks).countP fun b => decide (x ∈ validS dg cs b t) :=
  count_flatMap_of (fun b => nodup_of_lt (validS_lt dg cs b t)) x _
/-- A further labeller. -/
theorem ofLS_more {ks : List Str} {more : Str} {x : Cnt} (h : x ∈ ofLS dg cs ks t) : ∃ y ∈ ofLS dg cs (more :: ks) t, y.name = x.name ∧ x.n ≤ y.n ∧ y.n ≤ x.n + 1 := by
  obtain ⟨h1, h2⟩ := (countsS_mem _ _).1 h
  have hm : x.name ∈ namesS dg cs (more :: ks) t := by
    unfold namesS at h1 ⊢
    obtain ⟨b, hb, hx⟩ := List.mem_flatMap.1 h1
    exact List.mem_flatMap.2 ⟨b, (distS_mem _ _).2 (List.mem_cons_of_mem _ ((distS_mem _ _).1 hb)), hx⟩
  refine ⟨⟨x.name, (namesS dg cs (more :: ks) t).count x.name⟩, (countsS_mem _ _).2 ⟨hm, rfl⟩, rfl, ?_⟩
  simp only [h2, names_count]
  by_cases hk : more ∈ ks
  · have : (distS (more :: ks)).Perm (distS ks) := distS_perm fun x => by
      rw [List.mem_cons]
      exact ⟨fun h => h.elim (fun h => h ▸ hk) id, .inr⟩
    rw [this.countP_eq]; omega
  · have : (distS (more :: ks)).Perm (more :: distS ks) := by
      refine (List.perm_ext_iff_of_nodup (distS_nodup _) (List.nodup_cons.2 ⟨fun h => hk ((distS_mem _ _).1 h), distS_nodup _⟩)).2 fun y => ?_
      rw [distS_mem, List.mem_cons, List.mem_cons, distS_mem]
    rw [this.countP_eq, List.countP_cons]
    split <;> omega
/-- The counts' sum. -/
theorem sum_flatMap_count (ns : List Str) : ∀ (l : List Str), l.Nodup → (∀ x ∈ ns, x ∈ l) → (l.map fun x => ns.count x).sum = ns.length
  | [], _, h => by
    cases ns with
    | nil => rfl
    | cons x r => have := h x (List.mem_cons_self ..); simp at this
  | y :: l, hn, h => by
    obtain ⟨h1, h2⟩ := List.nodup_cons.1 hn
    have ih := sum_flatMap_count (ns.filter fun x => decide (x ≠ y)) l h2 (fun x hx => by
      obtain ⟨hx1, hx2⟩ := List.mem_filter.1 hx
      rcases List.mem_cons.1 (h x hx1) with h3 | h3
      · simp at hx2; exact absurd h3 hx2
      · exact h3)
    have e : (l.map fun x => ns.count x) = l.map fun x => (ns.filter fun x => decide (x ≠ y)).count x := by
      refine List.map_congr_left fun x hx => ?_
      have hxy : x ≠ y := fun h => h1 (h ▸ hx)
      rw [List.count_filter (by simpa using hxy)]
    rw [List.map_cons, List.sum_cons, e, ih, List.count_eq_countP, List.countP_eq_length_filter]
    have := List.length_eq_countP_add_countP (l := ns) (p := fun x => x == y)
    rw [List.countP_eq_length_filter, List.countP_eq_length_filter] at this
    have e2 : (fun x : Str => decide (x ≠ y)) = fun a => decide ¬(a == y) = true := by
      funext x; simp
    rw [e2]
    exact this.symm
theorem ofLS_sum (ks : List Str) : ((ofLS dg cs ks t).map (·.n)).sum = ((distS ks).map fun b => (validS dg cs b t).length).sum := by
  unfold ofLS countsS
  rw [List.map_map]
  have h := sum_flatMap_count (namesS dg cs ks t) (sorted ((cntM (namesS dg cs ks t)).map (·.1))) (nodup_of_lt (sorted_lt (cntM_ok _).1)) (fun x hx => (sorted_perm _).mem_iff.2 (((cntM_ok _).2.1 x).2 hx))
  refine Eq.trans ?_ (h.trans ?_)
  · rfl
  · unfold namesS
    rw [List.length_flatMap]
end
end Go.Proofs.YthkmfboffnhkaaaGreatDoor
