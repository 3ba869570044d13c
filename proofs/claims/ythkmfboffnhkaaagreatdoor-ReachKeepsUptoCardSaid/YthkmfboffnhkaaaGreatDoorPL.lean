/-
  The plain law of shared block lists: what lists.Of computes, in plain Lean, and what is said of it.
  The plain law of labels: what label.Valid and label.Of compute, in plain Lean, and what is said of it.
  The plain law of relations and circles: what relation.Of and the functions of circle compute, in plain Lean, and what is said of it.
  The plain law of reach: who may read a text, and what is said of it.
-/
import Derived.Test.YthkmfboffnhkaaaGreatDoorSP
set_option linter.all false
namespace Go.Proofs.YthkmfboffnhkaaaGreatDoor

abbrev Str := List UInt8
theorem slt_irrefl (a : Str) : ¬ a < a := List.lt_irrefl a
theorem slt_trans {a b c : Str} (h : a < b) (k : b < c) : a < c := List.lt_trans h k
theorem slt_tri (a b : Str) : a < b ∨ a = b ∨ b < a := by
  rcases Classical.em (a < b) with h | h
  · exact .inl h
  · rcases Classical.em (b < a) with k | k
    · exact .inr (.inr k)
    · exact .inr (.inl (List.le_antisymm (List.not_lt.1 k) (List.not_lt.1 h)))

structure Entry where
  l : Listing
  at_ : Nat

def entryOf (keeper : Str) (a : Act) (i : Nat) : Entry := ⟨⟨a.target, a.text, keeper, a.n⟩, i⟩
def indexS (dg : Act → Str) (acts : List Act) (d : Str) : Option Nat := acts.findIdx? (fun x => dg x == d)
def stepE (dg : Act → Str) (acts : List Act) (keeper : Str) (i : Nat) (a : Act) (m : List (Nat × Entry)) : List (Nat × Entry) :=
  if a.kind = 23 then m ++ [(i, entryOf keeper a i)] else if a.kind = 6 then
    match indexS dg acts a.object with
    | some j => if j < i then m.eraseP (fun p => p.1 == j) else m
    | none => m
  else m
/-- What a keeper lists after the first n activities. -/
def entN (dg : Act → Str) (acts : List Act) (keeper : Str) : Nat → List (Nat × Entry)
  | 0 => []
  | n + 1 => match acts[n]? with
    | some a => stepE dg acts keeper n a (entN dg acts keeper n)
    | none => entN dg acts keeper n

section
variable {dg : Act → Str} {acts : List Act} {keeper : Str}
theorem stepE_mem {i : Nat} {a : Act} {m : List (Nat × Entry)} {p : Nat × Entry} (h : p ∈ stepE dg acts keeper i a m) : p ∈ m ∨ (a.kind = 23 ∧ p = (i, entryOf keeper a i)) := by
  unfold stepE at h
  split at h
  · next hk => rcases List.mem_append.1 h with h | h
               · exact .inl h
               · simp at h; exact .inr ⟨hk, h⟩
  · split at h
    · split at h
      · split at h
        · exact .inl (List.mem_of_mem_eraseP h)
        · exact .inl h
      · exact .inl h
    · exact .inl h
theorem entN_mem : ∀ (n : Nat) (p : Nat × Entry), p ∈ entN dg acts keeper n → p.1 < n ∧ ∃ a, acts[p.1]? = some a ∧ a.kind = 23 ∧ p.2 = entryOf keeper a p.1
  | 0, p, h => by simp [entN] at h
  | n + 1, p, h => by
    simp only [entN] at h
    cases ha : acts[n]? with
    | none =>
      rw [ha] at h
      obtain ⟨h1, h2⟩ := entN_mem n p h
      exact ⟨by omega, h2⟩
    | some a =>
      rw [ha] at h
      rcases stepE_mem h with h | ⟨hk, rfl⟩
      · obtain ⟨h1, h2⟩ := entN_mem n p h
        exact ⟨by omega, h2⟩
      · exact ⟨Nat.lt_succ_self n, a, ha, hk, rfl⟩
theorem entN_sorted : ∀ (n : Nat), (entN dg acts keeper n).Pairwise (fun p q => p.1 < q.1)
  | 0 => by simp [entN]
  | n + 1 => by
    have ih := entN_sorted n
    simp only [entN]
    cases ha : acts[n]? with
    | none => exact ih
    | some a =>
      simp only [stepE]
      split
      · rw [List.pairwise_append]
        refine ⟨ih, by simp, fun p hp q hq => ?_⟩
        simp at hq
        subst hq
        exact (entN_mem n p hp).1
      · split
        · split
          · split
            · exact ih.sublist (List.eraseP_sublist)
            · exact ih
          · exact ih
        · exact ih
theorem entN_keep {i : Nat} {a : Act} (hi : acts[i]? = some a) (hk : a.kind = 23) : ∀ (n : Nat), i < n → (∀ j b, i < j → j < n → acts[j]? = some b → b.kind ≠ 6) → (i, entryOf keeper a i) ∈ entN dg acts keeper n
  | 0, h, _ => by omega
  | n + 1, h, hu => by
    simp only [entN]
    by_cases hin : i = n
    · subst hin
      rw [hi]
      simp [stepE, hk]
    · have ih := entN_keep hi hk n (by omega) (fun j b h1 h2 => hu j b h1 (by omega))
      cases hn : acts[n]? with
      | none => exact ih
      | some b =>
        have hb := hu n b (by omega) (by omega) hn
        simp only [stepE]
        split
        · exact List.mem_append_left _ ih
        · first | exact ih | (rw [if_neg hb]; exact ih)
end

/-- Of two entries for one actor the better one. -/
def better (a b : Entry) : Bool := decide (b.l.until_ < a.l.until_) || (decide (a.l.until_ = b.l.until_) && (decide (a.l.by_ < b.l.by_) || (decide (a.l.by_ = b.l.by_) && decide (b.at_ < a.at_))))
theorem better_iff {a b : Entry} : better a b = true ↔ b.l.until_ < a.l.until_ ∨ a.l.until_ = b.l.until_ ∧ (a.l.by_ < b.l.by_ ∨ a.l.by_ = b.l.by_ ∧ b.at_ < a.at_) := by
  simp [better]
theorem better_trans {a b c : Entry} (h : better a b = true) (k : better b c = true) : better a c = true := by
  rw [better_iff] at *
  rcases h with h | ⟨h1, h2⟩
  · rcases k with k | ⟨k1, k2⟩
    · exact .inl (by omega)
    · exact .inl (by omega)
  · rcases k with k | ⟨k1, k2⟩
    · exact .inl (by omega)
    · refine .inr ⟨by omega, ?_⟩
      rcases h2 with h2 | ⟨h2, h3⟩
      · rcases k2 with k2 | ⟨k2, k3⟩
        · exact .inl (slt_trans h2 k2)
        · exact .inl (k2 ▸ h2)
      · rcases k2 with k2 | ⟨k2, k3⟩
        · exact .inl (h2 ▸ k2)
        · exact .inr ⟨h2.trans k2, by omega⟩
theorem better_tot {a b : Entry} (h : better a b = false) (k : better b a = false) : a.l.until_ = b.l.until_ ∧ a.l.by_ = b.l.by_ ∧ a.at_ = b.at_ := by
  have h' : ¬ better a b = true := by simp [h]
  have k' : ¬ better b a = true := by simp [k]
  rw [better_iff] at h' k'
  have hu : a.l.until_ = b.l.until_ := by
    rcases Int.lt_trichotomy a.l.until_ b.l.until_ with h1 | h1 | h1
    · exact absurd (.inl h1) k'
    · exact h1
    · exact absurd (.inl h1) h'
  have hb : a.l.by_ = b.l.by_ := by
    rcases slt_tri a.l.by_ b.l.by_ with h1 | h1 | h1
    · exact absurd (.inr ⟨hu, .inl h1⟩) h'
    · exact h1
    · exact absurd (.inr ⟨hu.symm, .inl h1⟩) k'
  refine ⟨hu, hb, ?_⟩
  rcases Nat.lt_trichotomy a.at_ b.at_ with h1 | h1 | h1
  · exact absurd (.inr ⟨hu.symm, .inr ⟨hb.symm, h1⟩⟩) k'
  · exact h1
  · exact absurd (.inr ⟨hu, .inr ⟨hb, h1⟩⟩) h'
theorem better_irrefl (a : Entry) : better a a = false := by
  cases h : better a a with
  | false => rfl
  | true =>
    rw [better_iff] at h
    rcases h with h | ⟨_, h | ⟨_, h⟩⟩
    · omega
    · exact absurd h (slt_irrefl _)
    · omega

/-! ### Maps by actor -/
def getB (k : Str) : List (Str × Entry) → Option Entry
  | [] => none
  | p :: r => if p.1 = k then some p.2 else getB k r
def putB (k : Str) (e : Entry) : List (Str × Entry) → List (Str × Entry)
  | [] => [(k, e)]
  | p :: r => if p.1 = k then (k, e) :: r else p :: putB k e r
theorem get_putB (k : Str) (e : Entry) (k' : Str) : ∀ b, getB k' (putB k e b) = if k' = k then some e else getB k' b
  | [] => by
    by_cases h : k' = k
    · simp [putB, getB, h]
    · simp [putB, getB, h, Ne.symm h]
  | p :: r => by
    simp only [putB]
    split
    · next hp =>
      subst hp
      by_cases h : k' = p.1
      · simp [getB, h]
      · simp [getB, h, Ne.symm h]
    · next hp =>
      simp only [getB]
      by_cases h : p.1 = k'
      · rw [if_pos h, if_pos h, if_neg (fun hk => hp (h.trans hk))]
      · rw [if_neg h, if_neg h, get_putB k e k' r]
theorem keys_putB (k : Str) (e : Entry) (k' : Str) : ∀ b : List (Str × Entry), k' ∈ (putB k e b).map (·.1) ↔ k' = k ∨ k' ∈ b.map (·.1)
  | [] => by simp [putB]
  | p :: r => by
    simp only [putB]
    split
    · next hp => subst hp; simp
    · simp only [List.map_cons, List.mem_cons, keys_putB k e k' r]
      constructor
      · rintro (h | h | h)
        · exact .inr (.inl h)
        · exact .inl h
        · exact .inr (.inr h)
      · rintro (h | h | h)
        · exact .inr (.inl h)
        · exact .inl h
        · exact .inr (.inr h)
theorem nodup_putB (k : Str) (e : Entry) : ∀ b : List (Str × Entry), (b.map (·.1)).Nodup → ((putB k e b).map (·.1)).Nodup
  | [], _ => by simp [putB]
  | p :: r, h => by
    simp only [List.map_cons, List.nodup_cons] at h
    simp only [putB]
    split
    · next hp => subst hp; simpa using h
    · next hp =>
      simp only [List.map_cons, List.nodup_cons]
      refine ⟨fun hm => ?_, nodup_putB k e r h.2⟩
      rcases (keys_putB k e p.1 r).1 hm with h1 | h1
      · exact hp h1
      · exact h.1 h1
theorem getB_some {k : Str} {e : Entry} : ∀ {b : List (Str × Entry)}, getB k b = some e → k ∈ b.map (·.1)
  | [], h => by simp [getB] at h
  | p :: r, h => by
    simp only [getB] at h
    split at h
    · next hp => simp [hp]
    · simp [getB_some h]
theorem getB_of_mem {k : Str} : ∀ {b : List (Str × Entry)}, k ∈ b.map (·.1) → ∃ e, getB k b = some e
  | [], h => by simp at h
  | p :: r, h => by
    simp only [getB]
    split
    · exact ⟨_, rfl⟩
    · next hp =>
      simp only [List.map_cons, List.mem_cons] at h
      rcases h with h | h
      · exact absurd h.symm hp
      · exact getB_of_mem h

def winsO (e : Entry) : Option Entry → Bool
  | none => true
  | some o => better e o
def stepB (now : Int) (b : List (Str × Entry)) (e : Entry) : List (Str × Entry) :=
  if decide (now < e.l.until_) && winsO e (getB e.l.actor b) then putB e.l.actor e b else b
def bestS (now : Int) (es : List Entry) : List (Str × Entry) := es.foldl (stepB now) []

structure BestOK (now : Int) (es : List Entry) (b : List (Str × Entry)) : Prop where
  nodup : (b.map (·.1)).Nodup
  mem : ∀ k e, getB k b = some e → e ∈ es ∧ e.l.actor = k ∧ now < e.l.until_ ∧ ∀ e' ∈ es, e'.l.actor = k → now < e'.l.until_ → better e' e = false
  has : ∀ e ∈ es, now < e.l.until_ → ∃ e', getB e.l.actor b = some e'
theorem stepB_ok {now : Int} {es : List Entry} {b : List (Str × Entry)} (h : BestOK now es b) (e : Entry) : BestOK now (es ++ [e]) (stepB now b e) := by
  unfold stepB
  split
  · next hc =>
    simp only [Bool.and_eq_true, decide_eq_true_eq] at hc
    obtain ⟨hu, hb⟩ := hc
    refine ⟨nodup_putB _ _ _ h.nodup, fun k x hx => ?_, fun x hx hux => ?_⟩
    · rw [get_putB] at hx
      split at hx
      · next hk =>
        injection hx with hx
        subst hx hk
        refine ⟨by simp, rfl, hu, fun e' he' ha hu' => ?_⟩
        rcases List.mem_append.1 he' with he' | he'
        · obtain ⟨o, ho⟩ := h.has e' he' hu'
          rw [ha] at ho
          rw [ho] at hb
          simp only [winsO] at hb
          have h2 := (h.mem _ _ ho).2.2.2 e' he' ha hu'
          cases h3 : better e' e with
          | false => rfl
          | true => rw [better_trans h3 hb] at h2; cases h2
        · simp at he'; subst he'; exact better_irrefl _
      · next hk =>
        obtain ⟨h1, h2, h3, h4⟩ := h.mem k x hx
        refine ⟨List.mem_append_left _ h1, h2, h3, fun e' he' ha hu' => ?_⟩
        rcases List.mem_append.1 he' with he' | he'
        · exact h4 e' he' ha hu'
        · simp at he'; subst he'; exact absurd ha.symm hk
    · rw [get_putB]
      split
      · exact ⟨_, rfl⟩
      · next hk =>
        rcases List.mem_append.1 hx with hx | hx
        · exact h.has x hx hux
        · simp at hx; subst hx; exact absurd rfl hk
  · next hc =>
    refine ⟨h.nodup, fun k x hx => ?_, fun x hx hux => ?_⟩
    · obtain ⟨h1, h2, h3, h4⟩ := h.mem k x hx
      refine ⟨List.mem_append_left _ h1, h2, h3, fun e' he' ha hu' => ?_⟩
      rcases List.mem_append.1 he' with he' | he'
      · exact h4 e' he' ha hu'
      · simp at he'; subst he'
        rw [ha, hx] at hc
        simpa [hu', winsO] using hc
    · rcases List.mem_append.1 hx with hx | hx
      · exact h.has x hx hux
      · simp at hx; subst hx
        cases hg : getB x.l.actor b with
        | some o => exact ⟨o, rfl⟩
        | none => rw [hg] at hc; simp [hux, winsO] at hc
theorem bestS_ok (now : Int) (es : List Entry) : BestOK now es (bestS now es) := by
  have key : ∀ (l es : List Entry) (b : List (Str × Entry)), BestOK now es b → BestOK now (es ++ l) (l.foldl (stepB now) b) := by
    intro l
    induction l with
    | nil => intro es b h; simpa using h
    | cons e l ih =>
      intro es b h
      have := ih (es ++ [e]) _ (stepB_ok h e)
      simpa using this
  exact key es [] [] ⟨by simp, by simp [getB], by simp⟩

/-! ### What lists.Of gives -/
def sorted (l : List Str) : List Str := l.mergeSort (fun x y => decide (x ≤ y))
theorem sorted_perm (l : List Str) : (sorted l).Perm l := List.mergeSort_perm _ _
theorem sorted_lt {l : List Str} (h : l.Nodup) : (sorted l).Pairwise (· < ·) := by
  have h1 : (sorted l).Pairwise (fun x y => decide (x ≤ y) = true) := List.pairwise_mergeSort (fun a b c hab hbc => by simpa using List.le_trans (by simpa using hab) (by simpa using hbc))
    (fun a b => by simp only [Bool.or_eq_true, decide_eq_true_eq]; exact List.le_total a b) l
  have h2 : (sorted l).Nodup := (sorted_perm l).nodup_iff.2 h
  refine (h1.and h2).imp ?_
  rintro a b ⟨hab, hne⟩
  simp only [decide_eq_true_eq] at hab
  rcases slt_tri a b with h3 | h3 | h3
  · exact h3
  · exact absurd h3 hne
  · exact absurd h3 (List.not_lt.2 hab)
def outS (b : List (Str × Entry)) : List Listing := (sorted (b.map (·.1))).map fun k => ((getB k b).map (·.l)).getD noListing

/-- An entry is a best one. -/
def Best (now : Int) (E : Entry → Prop) (e : Entry) : Prop := E e ∧ now < e.l.until_ ∧ ∀ e', E e' → e'.l.actor = e.l.actor → now < e'.l.until_ → better e' e = false
structure OutOK (now : Int) (E : Entry → Prop) (l : List Listing) : Prop where
  asc : l.Pairwise (fun x y => x.actor < y.actor)
  mem : ∀ x, x ∈ l → ∃ e, Best now E e ∧ e.l = x
  has : ∀ e, E e → now < e.l.until_ → ∃ x ∈ l, x.actor = e.l.actor
theorem outS_ok (now : Int) (es : List Entry) : OutOK now (· ∈ es) (outS (bestS now es)) := by
  have hb := bestS_ok now es
  have hget : ∀ k ∈ sorted ((bestS now es).map (·.1)), ∃ e, getB k (bestS now es) = some e ∧ e.l.actor = k := fun k hk => by
    obtain ⟨e, he⟩ := getB_of_mem ((sorted_perm _).mem_iff.1 hk)
    exact ⟨e, he, (hb.mem k e he).2.1⟩
  refine ⟨?_, fun x hx => ?_, fun e he hu => ?_⟩
  · unfold outS
    rw [List.pairwise_map]
    refine List.Pairwise.imp_of_mem ?_ (sorted_lt hb.nodup)
    intro a b ha hb' hab
    obtain ⟨e1, h1, h2⟩ := hget a ha
    obtain ⟨e2, h3, h4⟩ := hget b hb'
    simp only [h1, h3, Option.map_some, Option.getD_some, h2, h4]
    exact hab
  · obtain ⟨k, hk, rfl⟩ := List.mem_map.1 hx
    obtain ⟨e, h1, h2⟩ := hget k hk
    obtain ⟨h3, _, h4, h5⟩ := hb.mem k e h1
    exact ⟨e, ⟨h3, h4, fun e' he' ha hu => h5 e' he' (ha.trans h2) hu⟩, by simp [h1]⟩
  · obtain ⟨e', he'⟩ := hb.has e he hu
    refine ⟨e'.l, List.mem_map.2 ⟨e.l.actor, (sorted_perm _).mem_iff.2 (getB_some he'), by simp [he']⟩, (hb.mem _ _ he').2.1⟩

/-- Lists that ascend and have the same members are the same. -/
theorem asc_ext {α : Type} (r : α → α → Prop) (irr : ∀ a, ¬ r a a) (asy : ∀ a b, r a b → ¬ r b a) : ∀ (l l' : List α), l.Pairwise r → l'.Pairwise r → (∀ x, x ∈ l ↔ x ∈ l') → l = l'
  | [], [], _, _, _ => rfl
  | [], y :: l', _, _, h => by have := (h y).2 (by simp); simp at this
  | x :: l, [], _, _, h => by have := (h x).1 (by simp); simp at this
  | x :: l, y :: l', h1, h2, h => by
    obtain ⟨a1, a2⟩ := List.pairwise_cons.1 h1
    obtain ⟨b1, b2⟩ := List.pairwise_cons.1 h2
    have hxy : x = y := by
      rcases List.mem_cons.1 ((h x).1 (by simp)) with h3 | h3
      · exact h3
      · rcases List.mem_cons.1 ((h y).2 (by simp)) with h4 | h4
        · exact h4.symm
        · exact absurd (b1 x h3) (asy _ _ (a1 y h4))
    subst hxy
    congr 1
    refine asc_ext r irr asy l l' a2 b2 fun z => ⟨fun hz => ?_, fun hz => ?_⟩
    · rcases List.mem_cons.1 ((h z).1 (List.mem_cons_of_mem _ hz)) with h3 | h3
      · subst h3; exact absurd (a1 z hz) (irr z)
      · exact h3
    · rcases List.mem_cons.1 ((h z).2 (List.mem_cons_of_mem _ hz)) with h3 | h3
      · subst h3; exact absurd (b1 z hz) (irr z)
      · exact h3

/-- Entries of one place are one. -/
def OneAt (E : Entry → Prop) : Prop := ∀ a b, E a → E b → a.l.by_ = b.l.by_ → a.at_ = b.at_ → a = b
theorem best_one {now : Int} {E : Entry → Prop} (h1 : OneAt E) {a b : Entry} (ha : Best now E a) (hb : Best now E b) (h : a.l.actor = b.l.actor) : a = b := by
  have k1 := hb.2.2 a ha.1 h ha.2.1
  have k2 := ha.2.2 b hb.1 h.symm hb.2.1
  obtain ⟨_, h3, h4⟩ := better_tot k1 k2
  exact h1 a b ha.1 hb.1 h3 h4
theorem OutOK.mem_iff {now : Int} {E : Entry → Prop} {l : List Listing} (h : OutOK now E l) (h1 : OneAt E) (x : Listing) : x ∈ l ↔ ∃ e, Best now E e ∧ e.l = x := by
  refine ⟨h.mem x, ?_⟩
  rintro ⟨e, he, rfl⟩
  obtain ⟨y, hy, hya⟩ := h.has e he.1 he.2.1
  obtain ⟨e', he', rfl⟩ := h.mem y hy
  rw [best_one h1 he he' hya.symm]
  exact hy
theorem OutOK.ext {now : Int} {E E' : Entry → Prop} {l l' : List Listing} (h : OutOK now E l) (h' : OutOK now E' l') (h1 : OneAt E) (he : ∀ e, E e ↔ E' e) : l = l' := by
  have hE : E = E' := funext fun e => propext (he e)
  subst hE
  refine asc_ext (fun x y : Listing => x.actor < y.actor) (fun a => slt_irrefl _) (fun a b h k => slt_irrefl _ (slt_trans h k)) l l' h.asc h'.asc fun x => ?_
  rw [h.mem_iff h1, h'.mem_iff h1]
/-- The listing for an actor is one. -/
theorem OutOK.one {now : Int} {E : Entry → Prop} {l : List Listing} (h : OutOK now E l) {x y : Listing} (hx : x ∈ l) (hy : y ∈ l) (ha : x.actor = y.actor) : x = y := by
  have key : ∀ (l : List Listing), l.Pairwise (fun x y => x.actor < y.actor) → x ∈ l → y ∈ l → x = y := by
    intro l
    induction l with
    | nil => intro _ hx; simp at hx
    | cons z l ih =>
      intro hp hx hy
      obtain ⟨h1, h2⟩ := List.pairwise_cons.1 hp
      rcases List.mem_cons.1 hx with h3 | h3 <;> rcases List.mem_cons.1 hy with h4 | h4
      · rw [h3, h4]
      · subst h3; have := h1 y h4; rw [ha] at this; exact absurd this (slt_irrefl _)
      · subst h4; have := h1 x h3; rw [ha] at this; exact absurd this (slt_irrefl _)
      · exact ih h2 h3 h4
  exact key l h.asc hx hy

/-! ### Keepers -/
def noChain : Chain := ⟨[], [], [], [], 0, false⟩
def findS (l : List Chain) (a : Str) : Option Chain := l.find? fun x => x.id == a
def findC (l : List Chain) (a : Str) : Chain := (findS l a).getD noChain
def entriesS (dg : Act → Str) (cs : List Chain) (k : Str) : List (Nat × Entry) := entN dg (findC cs k).acts k (findC cs k).acts.length
def allS (dg : Act → Str) (cs : List Chain) (ks : List Str) : List Entry := ks.flatMap fun k => (entriesS dg cs k).map (·.2)
/-- What lists.Of gives. -/
def ofS (dg : Act → Str) (cs : List Chain) (ks : List Str) (now : Int) : List Listing := outS (bestS now (allS dg cs ks))
section
variable {dg : Act → Str} {cs : List Chain}
theorem mem_allS {ks : List Str} {e : Entry} : e ∈ allS dg cs ks ↔ ∃ k ∈ ks, ∃ p ∈ entriesS dg cs k, p.2 = e := by
  simp [allS]
theorem entriesS_at {k : Str} {p : Nat × Entry} (h : p ∈ entriesS dg cs k) : ∃ a, (findC cs k).acts[p.1]? = some a ∧ a.kind = 23 ∧ p.2 = entryOf k a p.1 := (entN_mem _ p h).2
theorem allS_one (ks : List Str) : OneAt (· ∈ allS dg cs ks) := by
  intro a b ha hb hby hat
  obtain ⟨k, _, p, hp, rfl⟩ := mem_allS.1 ha
  obtain ⟨k', _, p', hp', rfl⟩ := mem_allS.1 hb
  obtain ⟨x, h1, _, h2⟩ := entriesS_at hp
  obtain ⟨x', h1', _, h2'⟩ := entriesS_at hp'
  rw [h2, h2'] at hby hat ⊢
  simp only [entryOf] at hby hat
  subst hby
  rw [hat, h1'] at h1
  injection h1 with h1
  rw [h1, hat]
theorem entry_by {k : Str} {p : Nat × Entry} (h : p ∈ entriesS dg cs k) : p.2.l.by_ = k := by
  obtain ⟨x, _, _, h2⟩ := entriesS_at h
  rw [h2]; rfl
theorem ofS_ok (ks : List Str) (now : Int) : OutOK now (· ∈ allS dg cs ks) (ofS dg cs ks now) := outS_ok _ _
theorem ofS_congr {ks ks' : List Str} (now : Int) (h : ∀ k, k ∈ ks ↔ k ∈ ks') : ofS dg cs ks now = ofS dg cs ks' now := by
  refine (ofS_ok ks now).ext (ofS_ok ks' now) (allS_one ks) fun e => ?_
  simp only [mem_allS]
  constructor
  · rintro ⟨k, hk, h1⟩; exact ⟨k, (h k).1 hk, h1⟩
  · rintro ⟨k, hk, h1⟩; exact ⟨k, (h k).2 hk, h1⟩
/-- A listing is also that of its keeper alone. -/
theorem ofS_own {ks : List Str} {now : Int} {x : Listing} (h : x ∈ ofS dg cs ks now) : x.by_ ∈ ks ∧ now < x.until_ ∧ x ∈ ofS dg cs [x.by_] now := by
  obtain ⟨e, he, rfl⟩ := (ofS_ok ks now).mem x h
  obtain ⟨k, hk, p, hp, rfl⟩ := mem_allS.1 he.1
  have hby := entry_by hp
  rw [hby]
  refine ⟨hk, he.2.1, ((ofS_ok [k] now).mem_iff (allS_one [k]) _).2 ⟨p.2, ⟨mem_allS.2 ⟨k, by simp, p, hp, rfl⟩, he.2.1, fun e' he' ha hu => ?_⟩, rfl⟩⟩
  refine he.2.2 e' ?_ ha hu
  obtain ⟨k', hk', h2⟩ := mem_allS.1 he'
  simp at hk'
  subst hk'
  exact mem_allS.2 ⟨k', hk, h2⟩
/-- What one keeper lists, several do at least as well. -/
theorem ofS_more {ks : List Str} {k : Str} (hk : k ∈ ks) {now : Int} {y : Listing} (h : y ∈ ofS dg cs [k] now) :
    ∃ x ∈ ofS dg cs ks now, x.actor = y.actor ∧ (y.until_ < x.until_ ∨ x.until_ = y.until_ ∧ ¬ k < x.by_) := by
  obtain ⟨e, he, rfl⟩ := (ofS_ok [k] now).mem y h
  have hin : e ∈ allS dg cs ks := by
    obtain ⟨k', hk', h2⟩ := mem_allS.1 he.1
    simp at hk'
    subst hk'
    exact mem_allS.2 ⟨k', hk, h2⟩
  have hby : e.l.by_ = k := by
    obtain ⟨k', hk', p, hp, rfl⟩ := mem_allS.1 he.1
    simp at hk'
    subst hk'
    exact entry_by hp
  obtain ⟨x, hx, hxa⟩ := (ofS_ok ks now).has e hin he.2.1
  obtain ⟨e', he', rfl⟩ := (ofS_ok ks now).mem x hx
  refine ⟨e'.l, hx, hxa, ?_⟩
  have hb := he'.2.2 e hin hxa.symm he.2.1
  have hb' : ¬ better e e' = true := by simp [hb]
  rw [better_iff] at hb'
  rcases Int.lt_trichotomy e.l.until_ e'.l.until_ with h1 | h1 | h1
  · exact .inl h1
  · exact .inr ⟨h1.symm, fun h2 => hb' (.inr ⟨h1, .inl (hby ▸ h2)⟩)⟩
  · exact absurd (.inl h1) hb'
/-- Later. -/
theorem ofS_later {ks : List Str} {now later : Int} (hl : now ≤ later) {x : Listing} (h : x ∈ ofS dg cs ks now) :
    (later < x.until_ → x ∈ ofS dg cs ks later) ∧ (¬ later < x.until_ → ∀ y ∈ ofS dg cs ks later, y.actor ≠ x.actor) := by
  obtain ⟨e, he, rfl⟩ := (ofS_ok ks now).mem x h
  refine ⟨fun hu => ((ofS_ok ks later).mem_iff (allS_one ks) _).2 ⟨e, ⟨he.1, hu, fun e' h1 h2 h3 => he.2.2 e' h1 h2 (by omega)⟩, rfl⟩, fun hu y hy hya => ?_⟩
  obtain ⟨e', he', rfl⟩ := (ofS_ok ks later).mem y hy
  have hb := he.2.2 e' he'.1 hya (by have := he'.2.1; omega)
  have hb' : ¬ better e' e = true := by simp [hb]
  rw [better_iff] at hb'
  exact hb' (.inl (by have := he'.2.1; omega))
theorem ofS_earlier {ks : List Str} {now later : Int} (hl : now ≤ later) {y : Listing} (h : y ∈ ofS dg cs ks later) : y ∈ ofS dg cs ks now := by
  obtain ⟨e, he, rfl⟩ := (ofS_ok ks later).mem y h
  have hu := he.2.1
  refine ((ofS_ok ks now).mem_iff (allS_one ks) _).2 ⟨e, ⟨he.1, by omega, fun e' h1 h2 h3 => ?_⟩, rfl⟩
  by_cases h4 : later < e'.l.until_
  · exact he.2.2 e' h1 h2 h4
  · cases hb : better e' e with
    | false => rfl
    | true =>
      rw [better_iff] at hb
      rcases hb with hb | ⟨hb, _⟩ <;> omega
/-- An entry that no undo follows is reflected. -/
theorem ofS_reflects {ks : List Str} {k : Str} (hk : k ∈ ks) {now : Int} {i : Nat} {a : Act} (hi : (findC cs k).acts[i]? = some a) (ha : a.kind = 23) (hu : now < a.n)
    (hno : ∀ j b, i < j → (findC cs k).acts[j]? = some b → b.kind ≠ 6) : ∃ x ∈ ofS dg cs ks now, x.actor = a.target ∧ a.n ≤ x.until_ := by
  have hin : entryOf k a i ∈ allS dg cs ks := mem_allS.2 ⟨k, hk, (i, entryOf k a i), entN_keep hi ha _ (by
    rcases Nat.lt_or_ge i (findC cs k).acts.length with h | h
    · exact h
    · rw [List.getElem?_eq_none h] at hi; cases hi) (fun j b h1 _ h3 => hno j b h1 h3), rfl⟩
  obtain ⟨x, hx, hxa⟩ := (ofS_ok ks now).has _ hin hu
  obtain ⟨e', he', rfl⟩ := (ofS_ok ks now).mem x hx
  refine ⟨e'.l, hx, hxa, ?_⟩
  have hb := he'.2.2 _ hin hxa.symm hu
  have hb' : ¬ better (entryOf k a i) e' = true := by simp [hb]
  rw [better_iff] at hb'
  simp only [entryOf] at hb'
  rcases Int.lt_or_le e'.l.until_ a.n with h1 | h1
  · exact absurd (.inl h1) hb'
  · exact h1
/-- Every listing is an entry's. -/
theorem ofS_from {ks : List Str} {now : Int} {x : Listing} (h : x ∈ ofS dg cs ks now) :
    ∃ k ∈ ks, ∃ (i : Nat) (a : Act), (findC cs k).acts[i]? = some a ∧ a.kind = 23 ∧ now < a.n ∧ x = ⟨a.target, a.text, k, a.n⟩ := by
  obtain ⟨e, he, rfl⟩ := (ofS_ok ks now).mem x h
  obtain ⟨k, hk, p, hp, rfl⟩ := mem_allS.1 he.1
  obtain ⟨a, h1, h2, h3⟩ := entriesS_at hp
  refine ⟨k, hk, p.1, a, h1, h2, ?_, by rw [h3]; rfl⟩
  have := he.2.1
  rw [h3] at this
  exact this
end
end Go.Proofs.YthkmfboffnhkaaaGreatDoor
namespace Go.Proofs.YthkmfboffnhkaaaGreatDoor

/-! ### What activities put in by their places, and undos take out -/
section
variable {α : Type} {dg : Act → Str} {acts : List Act} {sel : Act → Option α}
def stepP (dg : Act → Str) (acts : List Act) (sel : Act → Option α) (i : Nat) (a : Act) (m : List (Nat × α)) : List (Nat × α) :=
  match sel a with
  | some v => m ++ [(i, v)]
  | none => if a.kind = 6 then
    match indexS dg acts a.object with
    | some j => if j < i then m.eraseP (fun p => p.1 == j) else m
    | none => m
  else m
def placeN (dg : Act → Str) (acts : List Act) (sel : Act → Option α) : Nat → List (Nat × α)
  | 0 => []
  | n + 1 => match acts[n]? with
    | some a => stepP dg acts sel n a (placeN dg acts sel n)
    | none => placeN dg acts sel n
theorem stepP_mem {i : Nat} {a : Act} {m : List (Nat × α)} {p : Nat × α} (h : p ∈ stepP dg acts sel i a m) : p ∈ m ∨ ∃ v, sel a = some v ∧ p = (i, v) := by
  unfold stepP at h
  split at h
  · next v hv =>
    rcases List.mem_append.1 h with h | h
    · exact .inl h
    · simp at h; exact .inr ⟨v, hv, h⟩
  · split at h
    · split at h
      · split at h
        · exact .inl (List.mem_of_mem_eraseP h)
        · exact .inl h
      · exact .inl h
    · exact .inl h
theorem placeN_mem : ∀ (n : Nat) (p : Nat × α), p ∈ placeN dg acts sel n → p.1 < n ∧ ∃ a, acts[p.1]? = some a ∧ sel a = some p.2
  | 0, p, h => by simp [placeN] at h
  | n + 1, p, h => by
    simp only [placeN] at h
    cases ha : acts[n]? with
    | none =>
      rw [ha] at h
      obtain ⟨h1, h2⟩ := placeN_mem n p h
      exact ⟨by omega, h2⟩
    | some a =>
      rw [ha] at h
      rcases stepP_mem h with h | ⟨v, hv, rfl⟩
      · obtain ⟨h1, h2⟩ := placeN_mem n p h
        exact ⟨by omega, h2⟩
      · exact ⟨Nat.lt_succ_self n, a, ha, hv⟩
theorem placeN_keep {i : Nat} {a : Act} {v : α} (hi : acts[i]? = some a) (hv : sel a = some v) : ∀ (n : Nat), i < n → (∀ b ∈ acts, b.kind ≠ 6) → (i, v) ∈ placeN dg acts sel n
  | 0, h, _ => by omega
  | n + 1, h, hu => by
    simp only [placeN]
    by_cases hin : i = n
    · subst hin
      rw [hi]
      simp [stepP, hv]
    · have ih := placeN_keep hi hv n (by omega) hu
      cases hn : acts[n]? with
      | none => exact ih
      | some b =>
        have hb := hu b (List.mem_of_getElem? hn)
        simp only [stepP]
        split
        · exact List.mem_append_left _ ih
        · rw [if_neg hb]; exact ih
theorem placeN_len : ∀ n, (placeN dg acts sel n).length ≤ n
  | 0 => by simp [placeN]
  | n + 1 => by
    have ih := placeN_len n
    simp only [placeN]
    split
    · simp only [stepP]
      split
      · simp; omega
      · split
        · split
          · split
            · have := List.length_eraseP_le (p := fun p : Nat × α => p.1 == ‹Nat›) (l := placeN dg acts sel n); omega
            · omega
          · omega
        · omega
    · omega
end

/-! ### Ascending lists without repetitions -/
def dedupA : List Str → List Str
  | [] => []
  | [x] => [x]
  | x :: y :: r => if x = y then dedupA (y :: r) else x :: dedupA (y :: r)
theorem dedupA_mem : ∀ (l : List Str) (x : Str), x ∈ dedupA l ↔ x ∈ l
  | [], _ => by simp [dedupA]
  | [_], _ => by simp [dedupA]
  | x :: y :: r, z => by
    have ih := dedupA_mem (y :: r) z
    simp only [dedupA]
    split
    · next h => subst h; rw [ih]; simp
    · rw [List.mem_cons, ih]; simp
theorem dedupA_lt : ∀ (l : List Str), l.Pairwise (· ≤ ·) → (dedupA l).Pairwise (· < ·)
  | [], _ => by simp [dedupA]
  | [_], _ => by simp [dedupA]
  | x :: y :: r, h => by
    obtain ⟨h1, h2⟩ := List.pairwise_cons.1 h
    have ih := dedupA_lt (y :: r) h2
    simp only [dedupA]
    split
    · exact ih
    · next hne =>
      refine List.pairwise_cons.2 ⟨fun z hz => ?_, ih⟩
      have hz' := (dedupA_mem _ _).1 hz
      have hxy : x < y := by
        rcases slt_tri x y with h3 | h3 | h3
        · exact h3
        · exact absurd h3 hne
        · exact absurd h3 (List.not_lt.2 (h1 y (List.mem_cons_self ..)))
      rcases List.mem_cons.1 hz' with rfl | hz'
      · exact hxy
      · have := (List.pairwise_cons.1 h2).1 z hz'
        rcases slt_tri x z with h3 | h3 | h3
        · exact h3
        · subst h3; exact absurd hxy (List.not_lt.2 this)
        · exact absurd (slt_trans h3 hxy) (List.not_lt.2 this)
theorem dedupA_len : ∀ (l : List Str), (dedupA l).length ≤ l.length
  | [] => by simp [dedupA]
  | [_] => by simp [dedupA]
  | x :: y :: r => by
    have ih := dedupA_len (y :: r)
    simp only [dedupA]
    split
    · simp at ih ⊢; omega
    · simp at ih ⊢; omega
theorem sorted_le (l : List Str) : (sorted l).Pairwise (· ≤ ·) := by
  have h1 : (sorted l).Pairwise (fun x y => decide (x ≤ y) = true) := List.pairwise_mergeSort (fun a b c hab hbc => by simpa using List.le_trans (by simpa using hab) (by simpa using hbc))
    (fun a b => by simp only [Bool.or_eq_true, decide_eq_true_eq]; exact List.le_total a b) l
  exact h1.imp (by simp)
def ascS (l : List Str) : List Str := dedupA (sorted l)
theorem ascS_lt (l : List Str) : (ascS l).Pairwise (· < ·) := dedupA_lt _ (sorted_le l)
theorem ascS_mem (l : List Str) (x : Str) : x ∈ ascS l ↔ x ∈ l := by
  unfold ascS; rw [dedupA_mem, (sorted_perm l).mem_iff]
theorem ascS_len (l : List Str) : (ascS l).length ≤ l.length := by
  have := dedupA_len (sorted l); rw [(sorted_perm l).length_eq] at this; exact this
theorem nodup_of_lt {l : List Str} (h : l.Pairwise (· < ·)) : l.Nodup := h.imp fun {a b} hab he => by subst he; exact slt_irrefl _ hab
theorem lt_ext {l l' : List Str} (h : l.Pairwise (· < ·)) (h' : l'.Pairwise (· < ·)) (hm : ∀ x, x ∈ l ↔ x ∈ l') : l = l' :=
  asc_ext (fun a b : Str => a < b) slt_irrefl (fun _ _ h k => slt_irrefl _ (slt_trans h k)) l l' h h' hm

/-! ### Labels -/
def selL (target : Str) (a : Act) : Option Str := if a.kind = 17 then (if a.object = target ∨ a.target = target then some a.text else none) else none
noncomputable def givenN (dg : Act → Str) (acts : List Act) (target : Str) (n : Nat) : List (Nat × Str) := placeN dg acts (selL target) n
noncomputable def validA (dg : Act → Str) (acts : List Act) (target : Str) : List Str := ascS ((givenN dg acts target acts.length).map (·.2))
noncomputable def validS (dg : Act → Str) (cs : List Chain) (by_ target : Str) : List Str := if target = [] then [] else validA dg (findC cs by_).acts target
theorem selL_some {target : Str} {a : Act} {v : Str} (h : selL target a = some v) : a.kind = 17 ∧ (a.object = target ∨ a.target = target) ∧ v = a.text := by
  unfold selL at h
  split at h
  · next h1 =>
    split at h
    · next h2 => injection h with h; exact ⟨h1, h2, h.symm⟩
    · cases h
  · cases h
theorem validS_lt (dg : Act → Str) (cs : List Chain) (b t : Str) : (validS dg cs b t).Pairwise (· < ·) := by
  unfold validS
  split
  · simp
  · exact ascS_lt _
theorem validS_mem {dg : Act → Str} {cs : List Chain} {b t x : Str} (h : x ∈ validS dg cs b t) : ∃ a ∈ (findC cs b).acts, a.kind = 17 ∧ a.text = x ∧ (a.object = t ∨ a.target = t) := by
  unfold validS at h
  split at h
  · simp at h
  · unfold validA at h
    rw [ascS_mem] at h
    obtain ⟨p, hp, rfl⟩ := List.mem_map.1 h
    obtain ⟨_, a, ha, hs⟩ := placeN_mem _ p hp
    obtain ⟨h1, h2, h3⟩ := selL_some hs
    exact ⟨a, List.mem_of_getElem? ha, h1, h3.symm, h2⟩
theorem validS_all {dg : Act → Str} {cs : List Chain} {b t : Str} (ht : t ≠ []) (hu : ∀ a ∈ (findC cs b).acts, a.kind ≠ 6) {a : Act} (ha : a ∈ (findC cs b).acts) (hk : a.kind = 17) (ho : a.object = t ∨ a.target = t) :
    a.text ∈ validS dg cs b t := by
  unfold validS
  rw [if_neg ht]
  unfold validA
  rw [ascS_mem]
  obtain ⟨i, hi⟩ := List.mem_iff_getElem?.1 ha
  have hil : i < (findC cs b).acts.length := by
    rcases Nat.lt_or_ge i (findC cs b).acts.length with h | h
    · exact h
    · rw [List.getElem?_eq_none h] at hi; cases hi
  exact List.mem_map.2 ⟨(i, a.text), placeN_keep hi (by simp [selL, hk, ho]) _ hil hu, rfl⟩
theorem validS_len (dg : Act → Str) (cs : List Chain) (b t : Str) : (validS dg cs b t).length ≤ (findC cs b).acts.length := by
  unfold validS
  split
  · simp
  · unfold validA
    refine Nat.le_trans (ascS_len _) ?_
    rw [List.length_map]
    exact placeN_len _

/-! ### Counts -/
/-- A list's elements, each where it first occurs. -/
def distS (l : List Str) : List Str := l.foldl (fun D x => if x ∈ D then D else D ++ [x]) []
theorem distS_snoc (l : List Str) (x : Str) : distS (l ++ [x]) = if x ∈ distS l then distS l else distS l ++ [x] := by
  unfold distS; rw [List.foldl_append]; rfl
theorem distS_ok : ∀ (n : Nat) (l : List Str), l.length = n → (distS l).Nodup ∧ ∀ x, x ∈ distS l ↔ x ∈ l
  | 0, l, h => by rw [List.length_eq_zero_iff.1 h]; simp [distS]
  | n + 1, l, h => by
    obtain ⟨m, y, rfl⟩ : ∃ m y, l = m ++ [y] := by
      rcases List.eq_nil_or_concat l with h1 | ⟨m, y, h1⟩
      · subst h1; simp at h
      · exact ⟨m, y, by simpa using h1⟩
    obtain ⟨h1, h2⟩ := distS_ok n m (by simpa using h)
    rw [distS_snoc]
    split
    · next hm =>
      refine ⟨h1, fun x => ?_⟩
      rw [h2, List.mem_append, List.mem_singleton]
      exact ⟨.inl, fun h => h.elim id fun h => by subst h; exact (h2 _).1 hm⟩
    · next hm =>
      refine ⟨?_, fun x => by rw [List.mem_append, h2, List.mem_append]⟩
      rw [List.nodup_append]
      exact ⟨h1, by simp, fun a ha b hb => by simp at hb; subst hb; exact fun h => hm (h ▸ ha)⟩
theorem distS_nodup (l : List Str) : (distS l).Nodup := (distS_ok _ l rfl).1
theorem distS_mem (l : List Str) (x : Str) : x ∈ distS l ↔ x ∈ l := (distS_ok _ l rfl).2 x
theorem distS_len (l : List Str) : (distS l).length ≤ l.length := by
  have key : ∀ (n : Nat) (l : List Str), l.length = n → (distS l).length ≤ n := by
    intro n
    induction n with
    | zero => intro l h; rw [List.length_eq_zero_iff.1 h]; simp [distS]
    | succ n ih =>
      intro l h
      obtain ⟨m, y, rfl⟩ : ∃ m y, l = m ++ [y] := by
        rcases List.eq_nil_or_concat l with h1 | ⟨m, y, h1⟩
        · subst h1; simp at h
        · exact ⟨m, y, by simpa using h1⟩
      have := ih m (by simpa using h)
      rw [distS_snoc]
      split
      · omega
      · simp; omega
  exact key _ l rfl
theorem distS_perm {l l' : List Str} (h : ∀ x, x ∈ l ↔ x ∈ l') : (distS l).Perm (distS l') :=
  (List.perm_ext_iff_of_nodup (distS_nodup l) (distS_nodup l')).2 fun x => by rw [distS_mem, distS_mem]; exact h x

def incM (k : Str) : List (Str × Nat) → List (Str × Nat)
  | [] => [(k, 1)]
  | p :: r => if p.1 = k then (k, p.2 + 1) :: r else p :: incM k r
def getM (k : Str) : List (Str × Nat) → Nat
  | [] => 0
  | p :: r => if p.1 = k then p.2 else getM k r
def cntM (ns : List Str) : List (Str × Nat) := ns.foldl (fun m k => incM k m) []
theorem keys_incM (k : Str) (x : Str) : ∀ m : List (Str × Nat), x ∈ (incM k m).map (·.1) ↔ x = k ∨ x ∈ m.map (·.1)
  | [] => by simp [incM]
  | p :: r => by
    simp only [incM]
    split
    · next h => subst h; simp
    · simp only [List.map_cons, List.mem_cons, keys_incM k x r]
      constructor
      · rintro (h | h | h)
        · exact .inr (.inl h)
        · exact .inl h
        · exact .inr (.inr h)
      · rintro (h | h | h)
        · exact .inr (.inl h)
        · exact .inl h
        · exact .inr (.inr h)
theorem nodup_incM (k : Str) : ∀ m : List (Str × Nat), (m.map (·.1)).Nodup → ((incM k m).map (·.1)).Nodup
  | [], _ => by simp [incM]
  | p :: r, h => by
    simp only [List.map_cons, List.nodup_cons] at h
    simp only [incM]
    split
    · next hp => subst hp; simpa using h
    · next hp =>
      simp only [List.map_cons, List.nodup_cons]
      refine ⟨fun hm => ?_, nodup_incM k r h.2⟩
      rcases (keys_incM k p.1 r).1 hm with h1 | h1
      · exact hp h1
      · exact h.1 h1
theorem get_incM (k x : Str) : ∀ m : List (Str × Nat), getM x (incM k m) = getM x m + if x = k then 1 else 0
  | [] => by
    by_cases h : x = k
    · simp [incM, getM, h]
    · simp [incM, getM, h, Ne.symm h]
  | p :: r => by
    simp only [incM]
    split
    · next hp =>
      subst hp
      by_cases h : x = p.1
      · simp [getM, h]
      · simp [getM, h, Ne.symm h]
    · next hp =>
      simp only [getM]
      by_cases h : p.1 = x
      · have : ¬ x = k := fun h1 => hp (h.trans h1)
        simp [h, this]
      · rw [if_neg h, if_neg h, get_incM k x r]
theorem cntM_ok (ns : List Str) : ((cntM ns).map (·.1)).Nodup ∧ (∀ x, x ∈ (cntM ns).map (·.1) ↔ x ∈ ns) ∧ ∀ x, getM x (cntM ns) = ns.count x := by
  have key : ∀ (l ns : List Str) (m : List (Str × Nat)), (m.map (·.1)).Nodup → (∀ x, x ∈ m.map (·.1) ↔ x ∈ ns) → (∀ x, getM x m = ns.count x) →
      ((l.foldl (fun m k => incM k m) m).map (·.1)).Nodup ∧ (∀ x, x ∈ (l.foldl (fun m k => incM k m) m).map (·.1) ↔ x ∈ ns ++ l) ∧ ∀ x, getM x (l.foldl (fun m k => incM k m) m) = (ns ++ l).count x := by
    intro l
    induction l with
    | nil => intro ns m h1 h2 h3; simpa using ⟨h1, by simpa using h2, h3⟩
    | cons k l ih =>
      intro ns m h1 h2 h3
      have := ih (ns ++ [k]) (incM k m) (nodup_incM k m h1) (fun x => by rw [keys_incM, h2]; simp [or_comm]) (fun x => by
        rw [get_incM, h3, List.count_append]
        congr 1
        by_cases hx : x = k
        · subst hx; simp
        · rw [if_neg hx, List.count_eq_zero_of_not_mem (by simpa using hx)])
      simpa using this
  have := key ns [] [] (by simp) (by simp) (by simp [getM])
  simpa [cntM] using this
structure Cnt where
  name : Str
  n : Nat
def countsS (ns : List Str) : List Cnt := (sorted ((cntM ns).map (·.1))).map fun k => ⟨k, ns.count k⟩
theorem countsS_perm {ns ns' : List Str} (h : ns.Perm ns') : countsS ns = countsS ns' := by
  unfold countsS
  have e : sorted ((cntM ns).map (·.1)) = sorted ((cntM ns').map (·.1)) := by
    refine lt_ext (sorted_lt (cntM_ok ns).1) (sorted_lt (cntM_ok ns').1) fun x => ?_
    rw [(sorted_perm _).mem_iff, (sorted_perm _).mem_iff, (cntM_ok ns).2.1, (cntM_ok ns').2.1, h.mem_iff]
  rw [e]
  refine List.map_congr_left fun k _ => ?_
  rw [h.count_eq]
theorem countsS_lt (ns : List Str) : (countsS ns).Pairwise (fun x y => x.name < y.name) := by
  unfold countsS
  rw [List.pairwise_map]
  exact sorted_lt (cntM_ok ns).1
theorem countsS_mem (ns : List Str) (x : Cnt) : x ∈ countsS ns ↔ x.name ∈ ns ∧ x.n = ns.count x.name := by
  unfold countsS
  rw [List.mem_map]
  constructor
  · rintro ⟨k, hk, rfl⟩
    exact ⟨((cntM_ok ns).2.1 k).1 ((sorted_perm _).mem_iff.1 hk), rfl⟩
  · rintro ⟨h1, h2⟩
    exact ⟨x.name, (sorted_perm _).mem_iff.2 (((cntM_ok ns).2.1 _).2 h1), by cases x; simp at h2; rw [h2]⟩
theorem count_flatMap_of {f : Str → List Str} (hf : ∀ b, (f b).Nodup) (x : Str) : ∀ D : List Str, (D.flatMap f).count x = D.countP fun b => decide (x ∈ f b)
  | [] => by simp
  | b :: D => by
    rw [List.flatMap_cons, List.count_append, count_flatMap_of hf x D, List.countP_cons]
    have : (f b).count x = if x ∈ f b then 1 else 0 := by
      split
      · next h => exact Nat.le_antisymm (List.nodup_iff_count.1 (hf b) x) (List.one_le_count_iff.2 h)
      · next h => exact List.count_eq_zero_of_not_mem h
    rw [this]
    by_cases h : x ∈ f b <;> simp [h] <;> omega
/-- What label.Of gives. -/
noncomputable def namesS (dg : Act → Str) (cs : List Chain) (ks : List Str) (t : Str) : List Str := (distS ks).flatMap fun b => validS dg cs b t
noncomputable def ofLS (dg : Act → Str) (cs : List Chain) (ks : List Str) (t : Str) : List Cnt := countsS (namesS dg cs ks t)
section
variable {dg : Act → Str} {cs : List Chain} {t : Str}
theorem ofLS_congr {ks ks' : List Str} (h : ∀ k, k ∈ ks ↔ k ∈ ks') : ofLS dg cs ks t = ofLS dg cs ks' t :=
  countsS_perm ((distS_perm h).flatMap_right _)
theorem names_count (ks : List Str) (x : Str) : (namesS dg cs ks t).count x = (distS ks).countP fun b => decide (x ∈ validS dg cs b t) :=
  count_flatMap_of (fun b => nodup_of_lt (validS_lt dg cs b t)) x _
/-- A further labeller. -/
theorem ofLS_more {ks : List Str} {more : Str} {x : Cnt} (h : x ∈ ofLS dg cs ks t) : ∃ y ∈ ofLS dg cs (more :: ks) t, y.name = x.name ∧ x.n ≤ y.n ∧ y.n ≤ x.n + 1 := by
  obtain ⟨h1, h2⟩ := (countsS_mem _ _).1 h
  have hm : x.name ∈ namesS dg cs (more :: ks) t := by
    unfold namesS at h1 ⊢
    obtain ⟨b, hb, hx⟩ := List.mem_flatMap.1 h1
    exact List.mem_flatMap.2 ⟨b, (distS_mem _ _).2 (List.mem_cons_of_mem _ ((distS_mem _ _).1 hb)), hx⟩
  refine ⟨⟨x.name, (namesS dg cs (more :: ks) t).count x.name⟩, (countsS_mem _ _).2 ⟨hm, rfl⟩, rfl, ?_⟩
  simp only [h2, names_count]
  by_cases hk : more ∈ ks
  · have : (distS (more :: ks)).Perm (distS ks) := distS_perm fun x => by
      rw [List.mem_cons]
      exact ⟨fun h => h.elim (fun h => h ▸ hk) id, .inr⟩
    rw [this.countP_eq]; omega
  · have : (distS (more :: ks)).Perm (more :: distS ks) := by
      refine (List.perm_ext_iff_of_nodup (distS_nodup _) (List.nodup_cons.2 ⟨fun h => hk ((distS_mem _ _).1 h), distS_nodup _⟩)).2 fun y => ?_
      rw [distS_mem, List.mem_cons, List.mem_cons, distS_mem]
    rw [this.countP_eq, List.countP_cons]
    split <;> omega
/-- The counts' sum. -/
theorem sum_flatMap_count (ns : List Str) : ∀ (l : List Str), l.Nodup → (∀ x ∈ ns, x ∈ l) → (l.map fun x => ns.count x).sum = ns.length
  | [], _, h => by
    cases ns with
    | nil => rfl
    | cons x r => have := h x (List.mem_cons_self ..); simp at this
  | y :: l, hn, h => by
    obtain ⟨h1, h2⟩ := List.nodup_cons.1 hn
    have ih := sum_flatMap_count (ns.filter fun x => decide (x ≠ y)) l h2 (fun x hx => by
      obtain ⟨hx1, hx2⟩ := List.mem_filter.1 hx
      rcases List.mem_cons.1 (h x hx1) with h3 | h3
      · simp at hx2; exact absurd h3 hx2
      · exact h3)
    have e : (l.map fun x => ns.count x) = l.map fun x => (ns.filter fun x => decide (x ≠ y)).count x := by
      refine List.map_congr_left fun x hx => ?_
      have hxy : x ≠ y := fun h => h1 (h ▸ hx)
      rw [List.count_filter (by simpa using hxy)]
    rw [List.map_cons, List.sum_cons, e, ih, List.count_eq_countP, List.countP_eq_length_filter]
    have := List.length_eq_countP_add_countP (l := ns) (p := fun x => x == y)
    rw [List.countP_eq_length_filter, List.countP_eq_length_filter] at this
    have e2 : (fun x : Str => decide (x ≠ y)) = fun a => decide ¬(a == y) = true := by
      funext x; simp
    rw [e2]
    exact this.symm
theorem ofLS_sum (ks : List Str) : ((ofLS dg cs ks t).map (·.n)).sum = ((distS ks).map fun b => (validS dg cs b t).length).sum := by
  unfold ofLS countsS
  rw [List.map_map]
  have h := sum_flatMap_count (namesS dg cs ks t) (sorted ((cntM (namesS dg cs ks t)).map (·.1))) (nodup_of_lt (sorted_lt (cntM_ok _).1)) (fun x hx => (sorted_perm _).mem_iff.2 (((cntM_ok _).2.1 x).2 hx))
  refine Eq.trans ?_ (h.trans ?_)
  · rfl
  · unfold namesS
    rw [List.length_flatMap]
end
end Go.Proofs.YthkmfboffnhkaaaGreatDoor
namespace Go.Proofs.YthkmfboffnhkaaaGreatDoor

/-! ### Relations -/
structure TieS where
  follows : List Str
  accepts : List Str
  blocks : List Str
  mutes : List Str
def addSet (l : List Str) (x : Str) : List Str := if x ∈ l then l else l ++ [x]
def remS (l : List Str) (x : Str) : List Str := l.eraseP (· == x)
def undoS (t : TieS) (a : Act) : TieS :=
  if a.kind = 7 then { t with follows := remS t.follows a.target } else
  if a.kind = 8 then { t with accepts := remS t.accepts a.target } else
  if a.kind = 10 then { t with blocks := remS t.blocks a.target } else
  if a.kind = 11 then { t with mutes := remS t.mutes a.target } else t
def applyS (dg : Act → Str) (acts : List Act) (i : Nat) (a : Act) (t : TieS) : TieS :=
  if a.kind = 7 then { t with follows := addSet t.follows a.target } else
  if a.kind = 8 then { t with accepts := addSet t.accepts a.target } else
  if a.kind = 9 then { t with accepts := remS t.accepts a.target } else
  if a.kind = 10 then { t with blocks := addSet t.blocks a.target, follows := remS t.follows a.target, accepts := remS t.accepts a.target } else
  if a.kind = 11 then { t with mutes := addSet t.mutes a.target } else
  if a.kind = 6 then
    match indexS dg acts a.object with
    | some j => if j < i then (match acts[j]? with
      | some b => undoS t b
      | none => t) else t
    | none => t
  else t
def tiesN (dg : Act → Str) (acts : List Act) : Nat → TieS
  | 0 => ⟨[], [], [], []⟩
  | n + 1 => match acts[n]? with
    | some a => applyS dg acts n a (tiesN dg acts n)
    | none => tiesN dg acts n
structure TieS.Nodup (t : TieS) : Prop where
  follows : t.follows.Nodup
  accepts : t.accepts.Nodup
  blocks : t.blocks.Nodup
  mutes : t.mutes.Nodup
theorem addSet_nodup {l : List Str} (h : l.Nodup) (x : Str) : (addSet l x).Nodup := by
  unfold addSet
  split
  · exact h
  · next hx =>
    rw [List.nodup_append]
    exact ⟨h, by simp, fun a ha b hb => by simp at hb; subst hb; exact fun he => hx (he ▸ ha)⟩
theorem remS_nodup {l : List Str} (h : l.Nodup) (x : Str) : (remS l x).Nodup := h.sublist List.eraseP_sublist
theorem undoS_nodup {t : TieS} (h : t.Nodup) (a : Act) : (undoS t a).Nodup := by
  unfold undoS
  split
  · exact ⟨remS_nodup h.1 _, h.2, h.3, h.4⟩
  · split
    · exact ⟨h.1, remS_nodup h.2 _, h.3, h.4⟩
    · split
      · exact ⟨h.1, h.2, remS_nodup h.3 _, h.4⟩
      · split
        · exact ⟨h.1, h.2, h.3, remS_nodup h.4 _⟩
        · exact h
theorem applyS_nodup {dg : Act → Str} {acts : List Act} {i : Nat} {a : Act} {t : TieS} (h : t.Nodup) : (applyS dg acts i a t).Nodup := by
  unfold applyS
  split
  · exact ⟨addSet_nodup h.1 _, h.2, h.3, h.4⟩
  · split
    · exact ⟨h.1, addSet_nodup h.2 _, h.3, h.4⟩
    · split
      · exact ⟨h.1, remS_nodup h.2 _, h.3, h.4⟩
      · split
        · exact ⟨remS_nodup h.1 _, remS_nodup h.2 _, addSet_nodup h.3 _, h.4⟩
        · split
          · exact ⟨h.1, h.2, h.3, addSet_nodup h.4 _⟩
          · split
            · split
              · split
                · split
                  · exact undoS_nodup h _
                  · exact h
                · exact h
              · exact h
            · exact h
theorem tiesN_nodup (dg : Act → Str) (acts : List Act) : ∀ n, (tiesN dg acts n).Nodup
  | 0 => ⟨by simp [tiesN], by simp [tiesN], by simp [tiesN], by simp [tiesN]⟩
  | n + 1 => by
    simp only [tiesN]
    split
    · exact applyS_nodup (tiesN_nodup dg acts n)
    · exact tiesN_nodup dg acts n
/-- Every list is of at most as many elements as there are activities. -/
structure TieS.Le (t : TieS) (n : Nat) : Prop where
  follows : t.follows.length ≤ n
  accepts : t.accepts.length ≤ n
  blocks : t.blocks.length ≤ n
  mutes : t.mutes.length ≤ n
theorem addSet_len (l : List Str) (x : Str) : (addSet l x).length ≤ l.length + 1 := by
  unfold addSet; split <;> simp
theorem remS_len (l : List Str) (x : Str) : (remS l x).length ≤ l.length := List.length_eraseP_le
theorem applyS_le {dg : Act → Str} {acts : List Act} {i n : Nat} {a : Act} {t : TieS} (h : t.Le n) : (applyS dg acts i a t).Le (n + 1) := by
  have f := h.1; have ac := h.2; have b := h.3; have m := h.4
  have hf := addSet_len t.follows a.target; have ha := addSet_len t.accepts a.target; have hb := addSet_len t.blocks a.target; have hm := addSet_len t.mutes a.target
  have rf := remS_len t.follows a.target; have ra := remS_len t.accepts a.target
  have h' : t.Le (n + 1) := ⟨by omega, by omega, by omega, by omega⟩
  unfold applyS
  split
  · exact ⟨by simp only; omega, by simp only; omega, by simp only; omega, by simp only; omega⟩
  · split
    · exact ⟨by simp only; omega, by simp only; omega, by simp only; omega, by simp only; omega⟩
    · split
      · exact ⟨by simp only; omega, by simp only; omega, by simp only; omega, by simp only; omega⟩
      · split
        · exact ⟨by simp only; omega, by simp only; omega, by simp only; omega, by simp only; omega⟩
        · split
          · exact ⟨by simp only; omega, by simp only; omega, by simp only; omega, by simp only; omega⟩
          · split
            · split
              · split
                · split
                  · next bb _ =>
                    have q1 := remS_len t.follows bb.target; have q2 := remS_len t.accepts bb.target; have q3 := remS_len t.blocks bb.target; have q4 := remS_len t.mutes bb.target
                    unfold undoS
                    split
                    · exact ⟨by simp only; omega, by simp only; omega, by simp only; omega, by simp only; omega⟩
                    · split
                      · exact ⟨by simp only; omega, by simp only; omega, by simp only; omega, by simp only; omega⟩
                      · split
                        · exact ⟨by simp only; omega, by simp only; omega, by simp only; omega, by simp only; omega⟩
                        · split
                          · exact ⟨by simp only; omega, by simp only; omega, by simp only; omega, by simp only; omega⟩
                          · exact h'
                  · exact h'
                · exact h'
              · exact h'
            · exact h'
theorem tiesN_le (dg : Act → Str) (acts : List Act) : ∀ n, (tiesN dg acts n).Le n
  | 0 => ⟨by simp [tiesN], by simp [tiesN], by simp [tiesN], by simp [tiesN]⟩
  | n + 1 => by
    simp only [tiesN]
    have := tiesN_le dg acts n
    split
    · exact applyS_le this
    · exact ⟨by have := this.1; omega, by have := this.2; omega, by have := this.3; omega, by have := this.4; omega⟩

/-- What an undo at place i takes out hangs on the earlier activities alone. -/
theorem indexS_take (dg : Act → Str) (acts : List Act) (d : Str) (i : Nat) : indexS dg (acts.take i) d = (indexS dg acts d).bind fun j => if j < i then some j else none := by
  unfold indexS
  rw [List.findIdx?_take]
  cases h : List.findIdx? (fun x => dg x == d) acts with
  | none => rfl
  | some j => simp [Option.guard]
theorem take_get {acts acts' : List Act} {n i : Nat} (h : acts.take n = acts'.take n) (hi : i < n) : acts[i]? = acts'[i]? := by
  have h1 := congrArg (·[i]?) h
  simpa [List.getElem?_take_of_lt hi] using h1
theorem take_le {acts acts' : List Act} {n m : Nat} (h : acts.take n = acts'.take n) (hm : m ≤ n) : acts.take m = acts'.take m := by
  have := congrArg (List.take m) h
  simpa [List.take_take, Nat.min_eq_left hm] using this
theorem applyS_congr {dg : Act → Str} {acts acts' : List Act} {i : Nat} (h : acts.take i = acts'.take i) (a : Act) (t : TieS) : applyS dg acts i a t = applyS dg acts' i a t := by
  have e : ∀ acts : List Act, (match indexS dg acts a.object with
      | some j => if j < i then (match acts[j]? with
        | some b => undoS t b
        | none => t) else t
      | none => t) = (match indexS dg (acts.take i) a.object with
      | some j => (match (acts.take i)[j]? with
        | some b => undoS t b
        | none => t)
      | none => t) := by
    intro acts
    rw [indexS_take]
    cases indexS dg acts a.object with
    | none => rfl
    | some j =>
      by_cases hj : j < i
      · simp [hj, List.getElem?_take_of_lt hj]
      · simp [hj]
  unfold applyS
  rw [e acts, e acts', h]
theorem tiesN_congr {dg : Act → Str} {acts acts' : List Act} : ∀ n, acts.take n = acts'.take n → tiesN dg acts n = tiesN dg acts' n
  | 0, _ => rfl
  | n + 1, h => by
    simp only [tiesN]
    rw [← take_get h (Nat.lt_succ_self n), ← tiesN_congr n (take_le h (Nat.le_succ n))]
    split
    · exact applyS_congr (take_le h (Nat.le_succ n)) _ _
    · rfl
/-- How many of a chain's activities are looked at. -/
def upTo (n : Int) (acts : List Act) : Nat := min n.toNat acts.length
noncomputable def tiesS (dg : Act → Str) (acts : List Act) (n : Int) : TieS :=
  let t := tiesN dg acts (upTo n acts)
  ⟨sorted t.follows, sorted t.accepts, sorted t.blocks, sorted t.mutes⟩

/-! ### Circles -/
def circN (acts : List Act) (group : Str) : Nat → List Str
  | 0 => []
  | n + 1 => match acts[n]? with
    | some a => if a.kind = 15 ∧ a.group = group then a.to else circN acts group n
    | none => circN acts group n
def grantN (acts : List Act) (scope : Int) (group : Str) : Nat → Nat × Nat
  | 0 => (0, 0)
  | n + 1 => match acts[n]? with
    | some a => if a.kind = 16 ∧ a.scope = scope ∧ a.group = group ∧ a.epoch = ((grantN acts scope group n).2 : Int) then (n, (grantN acts scope group n).2 + 1) else grantN acts scope group n
    | none => grantN acts scope group n
theorem grantN_spec (acts : List Act) (scope : Int) (group : Str) : ∀ n, (grantN acts scope group n).2 ≤ n ∧ ((grantN acts scope group n).2 = 0 → (grantN acts scope group n).1 = 0) ∧
    (0 < (grantN acts scope group n).2 → (grantN acts scope group n).1 < n ∧ ∃ a, acts[(grantN acts scope group n).1]? = some a ∧ a.kind = 16 ∧ a.scope = scope ∧ a.group = group ∧ a.epoch = ((grantN acts scope group n).2 : Int) - 1)
  | 0 => by simp [grantN]
  | n + 1 => by
    obtain ⟨h1, h2, h3⟩ := grantN_spec acts scope group n
    simp only [grantN]
    split
    · next a ha =>
      split
      · next hc => exact ⟨by simp only; omega, by simp only; omega, fun _ => ⟨Nat.lt_succ_self n, a, ha, hc.1, hc.2.1, hc.2.2.1, by simp only; omega⟩⟩
      · exact ⟨by omega, h2, fun h => by obtain ⟨k1, k2⟩ := h3 h; exact ⟨by omega, k2⟩⟩
    · exact ⟨by omega, h2, fun h => by obtain ⟨k1, k2⟩ := h3 h; exact ⟨by omega, k2⟩⟩
theorem grantN_congr {acts acts' : List Act} {scope : Int} {group : Str} : ∀ n, acts.take n = acts'.take n → grantN acts scope group n = grantN acts' scope group n
  | 0, _ => rfl
  | n + 1, h => by
    simp only [grantN]
    rw [← take_get h (Nat.lt_succ_self n), ← grantN_congr n (take_le h (Nat.le_succ n))]
theorem circN_congr {acts acts' : List Act} {group : Str} : ∀ n, acts.take n = acts'.take n → circN acts group n = circN acts' group n
  | 0, _ => rfl
  | n + 1, h => by
    simp only [circN]
    rw [← take_get h (Nat.lt_succ_self n), ← circN_congr n (take_le h (Nat.le_succ n))]
noncomputable def fromS (dg : Act → Str) (acts : List Act) (n scope : Int) (group : Str) (to : List Str) : List Str :=
  if scope = 1 then (tiesS dg acts n).accepts else if scope = 3 then to else if scope = 2 then circN acts group (upTo n acts) else []
noncomputable def membersS (dg : Act → Str) (c : Chain) (n scope : Int) (group : Str) (to : List Str) : List Str :=
  ascS ((fromS dg c.acts n scope group to).filter fun x => !(x == c.id || (tiesS dg c.acts n).blocks.contains x))
def grantS (acts : List Act) (n scope : Int) (group : Str) : Nat × Nat := grantN acts scope group (upTo n acts)
def epochS (acts : List Act) (n scope : Int) (group : Str) : Int × List Str × Bool :=
  if 0 < (grantS acts n scope group).2 then (match acts[(grantS acts n scope group).1]? with
    | some a => (a.epoch, a.to, true)
    | none => (0, [], false)) else (0, [], false)
noncomputable def freshS (dg : Act → Str) (c : Chain) (n scope : Int) (group : Str) (to : List Str) : Bool :=
  !(epochS c.acts n scope group).2.2 || !((epochS c.acts n scope group).2.1 == membersS dg c n scope group to)
def isPosting (k : Int) : Bool := k == 1 || k == 2 || k == 3
noncomputable def wellS (dg : Act → Str) (c : Chain) (i : Int) : Bool :=
  if 0 ≤ i then (match c.acts[i.toNat]? with
    | some a => if (isPosting a.kind || a.kind == 14) && decide (1 ≤ a.scope) && decide (a.scope ≤ 3) then decide ((epochS c.acts i a.scope a.group).1 = a.epoch) && !freshS dg c i a.scope a.group a.to else false
    | none => false) else false
section
variable {dg : Act → Str}
theorem upTo_take {acts acts' : List Act} {n : Nat} (hn : n ≤ acts.length) (hn' : n ≤ acts'.length) : upTo n acts = n ∧ upTo n acts' = n := by unfold upTo; omega
theorem membersS_congr {c d : Chain} {n : Nat} (hid : c.id = d.id) (h : c.acts.take n = d.acts.take n) (hn : n ≤ c.acts.length) (hn' : n ≤ d.acts.length) (scope : Int) (group : Str) (to : List Str) :
    membersS dg c n scope group to = membersS dg d n scope group to := by
  obtain ⟨e1, e2⟩ := upTo_take hn hn'
  have et : tiesS dg c.acts n = tiesS dg d.acts n := by unfold tiesS; rw [e1, e2, tiesN_congr n h]
  have ef : fromS dg c.acts n scope group to = fromS dg d.acts n scope group to := by unfold fromS; rw [et, e1, e2, circN_congr n h]
  unfold membersS
  rw [ef, et, hid]
theorem epochS_congr {c d : Chain} {n : Nat} (h : c.acts.take n = d.acts.take n) (hn : n ≤ c.acts.length) (hn' : n ≤ d.acts.length) (scope : Int) (group : Str) :
    epochS c.acts n scope group = epochS d.acts n scope group := by
  obtain ⟨e1, e2⟩ := upTo_take hn hn'
  have eg : grantS c.acts n scope group = grantS d.acts n scope group := by unfold grantS; rw [e1, e2, grantN_congr n h]
  have hs := grantN_spec c.acts scope group n
  unfold epochS
  rw [eg]
  split
  · next hp =>
    have hlt : (grantS d.acts n scope group).1 < n := by
      rw [← eg] at hp ⊢
      unfold grantS at hp ⊢
      rw [e1] at hp ⊢
      exact (hs.2.2 hp).1
    rw [take_get h hlt]
  · rfl
theorem freshS_congr {c d : Chain} {n : Nat} (hid : c.id = d.id) (h : c.acts.take n = d.acts.take n) (hn : n ≤ c.acts.length) (hn' : n ≤ d.acts.length) (scope : Int) (group : Str) (to : List Str) :
    freshS dg c n scope group to = freshS dg d n scope group to := by
  unfold freshS
  rw [epochS_congr h hn hn', membersS_congr hid h hn hn']
theorem epochS_ok (acts : List Act) (n scope : Int) (group : Str) : ((epochS acts n scope group).2.2 = decide (0 < (grantS acts n scope group).2)) ∧
    (0 < (grantS acts n scope group).2 → (grantS acts n scope group).1 < upTo n acts ∧ ∃ a, acts[(grantS acts n scope group).1]? = some a ∧ a.kind = 16 ∧ a.scope = scope ∧ a.group = group ∧ a.epoch = ((grantS acts n scope group).2 : Int) - 1 ∧ epochS acts n scope group = (a.epoch, a.to, true)) ∧
    (¬ 0 < (grantS acts n scope group).2 → epochS acts n scope group = (0, [], false) ∧ grantS acts n scope group = (0, 0)) := by
  obtain ⟨h1, h2, h3⟩ := grantN_spec acts scope group (upTo n acts)
  by_cases hp : 0 < (grantS acts n scope group).2
  · obtain ⟨k1, a, k2, k3, k4, k5, k6⟩ := h3 hp
    have e : epochS acts n scope group = (a.epoch, a.to, true) := by
      unfold epochS
      rw [if_pos hp]
      unfold grantS
      rw [k2]
    exact ⟨by rw [e]; simp [hp], fun _ => ⟨k1, a, k2, k3, k4, k5, k6, e⟩, fun h => absurd hp h⟩
  · have e : epochS acts n scope group = (0, [], false) := by unfold epochS; rw [if_neg hp]
    refine ⟨by rw [e]; simp [hp], fun h => absurd h hp, fun _ => ⟨e, ?_⟩⟩
    have h0 : (grantS acts n scope group).2 = 0 := by omega
    have h4 : (grantS acts n scope group).1 = 0 := h2 h0
    exact Prod.ext h4 h0
end
end Go.Proofs.YthkmfboffnhkaaaGreatDoor
namespace Go.Proofs.YthkmfboffnhkaaaGreatDoor

def isText (k : Int) : Bool := isPosting k || k == 14
noncomputable def readersS (dg : Act → Str) (c : Chain) (i : Int) : List Str × Bool :=
  if 0 ≤ i then (match c.acts[i.toNat]? with
    | some a => if isText a.kind = true then (if a.scope = 0 then ([], false) else (if wellS dg c i = true then sorted (c.id :: membersS dg c i a.scope a.group a.to) else [c.id], true)) else ([], true)
    | none => ([], true)) else ([], true)
noncomputable def mayS (dg : Act → Str) (c : Chain) (i : Int) (r : Str) : Bool := !(readersS dg c i).2 || (readersS dg c i).1.contains r
section
variable {dg : Act → Str}
theorem wellS_congr {c d : Chain} {n i : Nat} (hid : c.id = d.id) (h : c.acts.take n = d.acts.take n) (hn : n ≤ c.acts.length) (hn' : n ≤ d.acts.length) (hi : i < n) :
    wellS dg c i = wellS dg d i := by
  have h2 := take_le h (Nat.le_of_lt hi)
  simp only [wellS, Int.toNat_natCast, take_get h hi]
  split
  · split
    · next a _ => rw [epochS_congr h2 (by omega) (by omega), freshS_congr hid h2 (by omega) (by omega)]
    · rfl
  · rfl
theorem readersS_congr {c d : Chain} {n i : Nat} (hid : c.id = d.id) (h : c.acts.take n = d.acts.take n) (hn : n ≤ c.acts.length) (hn' : n ≤ d.acts.length) (hi : i < n) :
    readersS dg c i = readersS dg d i := by
  have h2 := take_le h (Nat.le_of_lt hi)
  simp only [readersS, Int.toNat_natCast, take_get h hi]
  split
  · split
    · next a _ => rw [wellS_congr hid h hn hn' hi, membersS_congr hid h2 (by omega) (by omega), hid]
    · rfl
  · rfl
theorem members_nd (c : Chain) (n scope : Int) (group : Str) (to : List Str) : (c.id :: membersS dg c n scope group to).Nodup ∧
    ∀ x ∈ membersS dg c n scope group to, x ≠ c.id ∧ x ∉ (tiesS dg c.acts n).blocks := by
  have hm : ∀ x ∈ membersS dg c n scope group to, x ≠ c.id ∧ x ∉ (tiesS dg c.acts n).blocks := by
    intro x hx
    unfold membersS at hx
    rw [ascS_mem, List.mem_filter] at hx
    have := hx.2
    simp only [Bool.not_eq_true', Bool.or_eq_false_iff, beq_eq_false_iff_ne, ne_eq] at this
    exact ⟨this.1, fun h => by simp [h] at this⟩
  refine ⟨List.nodup_cons.2 ⟨fun h => (hm _ h).1 rfl, ?_⟩, hm⟩
  have := ascS_lt ((fromS dg c.acts n scope group to).filter fun x => !(x == c.id || (tiesS dg c.acts n).blocks.contains x))
  exact this.imp fun h he => by subst he; exact absurd h (by exact List.lt_irrefl _)
/-- What is said of the readers of a text that is not for everybody. -/
theorem readersS_text (c : Chain) (i : Nat) (a : Act) (ha : c.acts[i]? = some a) (ht : isText a.kind = true) (hs : a.scope ≠ 0) :
    ∃ l, readersS dg c i = (l, true) ∧ l.Pairwise (· < ·) ∧ c.id ∈ l ∧ (∀ x ∈ l, x ≠ c.id → x ∉ (tiesS dg c.acts i).blocks ∧ x ∈ membersS dg c i a.scope a.group a.to) ∧
      l.length = if wellS dg c i = true then 1 + (membersS dg c i a.scope a.group a.to).length else 1 := by
  obtain ⟨hnd, hm⟩ := members_nd (dg := dg) c i a.scope a.group a.to
  simp only [readersS, Int.toNat_natCast, ha]
  rw [if_pos (by omega), if_pos ht, if_neg hs]
  refine ⟨_, rfl, ?_⟩
  cases wellS dg c i with
  | true =>
    simp only [if_true]
    refine ⟨sorted_lt hnd, (sorted_perm _).mem_iff.2 (List.mem_cons_self ..), fun x hx hne => ?_, by rw [(sorted_perm _).length_eq]; simp; omega⟩
    rcases List.mem_cons.1 ((sorted_perm _).mem_iff.1 hx) with h | h
    · exact absurd h hne
    · exact ⟨(hm x h).2, h⟩
  | false => exact ⟨by simp, by simp, fun x hx hne => absurd (by simpa using hx) hne, rfl⟩
theorem readersS_none (c : Chain) (i : Int) (h : i < 0 ∨ (c.acts.length : Int) ≤ i) : readersS dg c i = ([], true) := by
  unfold readersS
  split
  · next h0 =>
    rw [List.getElem?_eq_none (by omega)]
  · rfl
theorem readersS_other (c : Chain) (i : Nat) (a : Act) (ha : c.acts[i]? = some a) (h : isText a.kind = false ∨ a.scope = 0) : readersS dg c i = ([], !isText a.kind) := by
  simp only [readersS, Int.toNat_natCast, ha]
  rw [if_pos (by omega)]
  cases ht : isText a.kind with
  | true =>
    rcases h with h | h
    · rw [ht] at h; cases h
    · simp [h]
  | false => simp
theorem mayS_own (c : Chain) (i : Nat) (a : Act) (ha : c.acts[i]? = some a) (ht : isText a.kind = true) : mayS dg c i c.id = true := by
  unfold mayS
  by_cases hs : a.scope = 0
  · rw [readersS_other c i a ha (.inr hs), ht]; rfl
  · obtain ⟨l, h1, _, h3, _⟩ := readersS_text (dg := dg) c i a ha ht hs
    rw [h1]
    simp [h3]
theorem mayS_pub (c : Chain) (i : Nat) (a : Act) (ha : c.acts[i]? = some a) (ht : isText a.kind = true) (hs : a.scope = 0) (r : Str) : mayS dg c i r = true := by
  unfold mayS
  rw [readersS_other c i a ha (.inr hs), ht]; rfl
end
end Go.Proofs.YthkmfboffnhkaaaGreatDoor
