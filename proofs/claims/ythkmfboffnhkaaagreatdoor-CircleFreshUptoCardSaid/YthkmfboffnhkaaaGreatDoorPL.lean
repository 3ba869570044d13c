/-
  The plain law of shared block lists: what lists.Of computes, in plain Lean, and what is said of it.
-/
import Derived.Test.YthkmfboffnhkaaaGreatDoorSP
set_option linter.all false
namespace Go.Proofs.YthkmfboffnhkaaaGreatDoor

abbrev Str := List UInt8
theorem slt_irrefl (a : Str) : ¬ a < a := List.lt_irrefl a
theorem slt_trans {a b c : Str} (h : a < b) (k : b < c) : a < c := List.lt_trans h k
theorem slt_tri (a b : Str) : a < b ∨ a = b ∨ b < a := by
  rcases Classical.em (a < b) with h | h
  · exact .inl h
  · rcases Classical.em (b < a) with k | k
    · exact .inr (.inr k)
    · exact .inr (.inl (List.le_antisymm (List.not_lt.1 k) (List.not_lt.1 h)))

structure Entry where
  l : Listing
  at_ : Nat

def entryOf (keeper : Str) (a : Act) (i : Nat) : Entry := ⟨⟨a.target, a.text, keeper, a.n⟩, i⟩
def indexS (dg : Act → Str) (acts : List Act) (d : Str) : Option Nat := acts.findIdx? (fun x => dg x == d)
def stepE (dg : Act → Str) (acts : List Act) (keeper : Str) (i : Nat) (a : Act) (m : List (Nat × Entry)) : List (Nat × Entry) :=
  if a.kind = 23 then m ++ [(i, entryOf keeper a i)] else if a.kind = 6 then
    match indexS dg acts a.object with
    | some j => if j < i then m.eraseP (fun p => p.1 == j) else m
    | none => m
  else m
/-- What a keeper lists after the first n activities. -/
def entN (dg : Act → Str) (acts : List Act) (keeper : Str) : Nat → List (Nat × Entry)
  | 0 => []
  | n + 1 => match acts[n]? with
    | some a => stepE dg acts keeper n a (entN dg acts keeper n)
    | none => entN dg acts keeper n

section
variable {dg : Act → Str} {acts : List Act} {keeper : Str}
theorem stepE_mem {i : Nat} {a : Act} {m : List (Nat × Entry)} {p : Nat × Entry} (h : p ∈ stepE dg acts keeper i a m) : p ∈ m ∨ (a.kind = 23 ∧ p = (i, entryOf keeper a i)) := by
  unfold stepE at h
  split at h
  · next hk => rcases List.mem_append.1 h with h | h
               · exact .inl h
               · simp at h; exact .inr ⟨hk, h⟩
  · split at h
    · split at h
      · split at h
        · exact .inl (List.mem_of_mem_eraseP h)
        · exact .inl h
      · exact .inl h
    · exact .inl h
theorem entN_mem : ∀ (n : Nat) (p : Nat × Entry), p ∈ entN dg acts keeper n → p.1 < n ∧ ∃ a, acts[p.1]? = some a ∧ a.kind = 23 ∧ p.2 = entryOf keeper a p.1
  | 0, p, h => by simp [entN] at h
  | n + 1, p, h => by
    simp only [entN] at h
    cases ha : acts[n]? with
    | none =>
      rw [ha] at h
      obtain ⟨h1, h2⟩ := entN_mem n p h
      exact ⟨by omega, h2⟩
    | some a =>
      rw [ha] at h
      rcases stepE_mem h with h | ⟨hk, rfl⟩
      · obtain ⟨h1, h2⟩ := entN_mem n p h
        exact ⟨by omega, h2⟩
      · exact ⟨Nat.lt_succ_self n, a, ha, hk, rfl⟩
theorem entN_sorted : ∀ (n : Nat), (entN dg acts keeper n).Pairwise (fun p q => p.1 < q.1)
  | 0 => by simp [entN]
  | n + 1 => by
    have ih := entN_sorted n
    simp only [entN]
    cases ha : acts[n]? with
    | none => exact ih
    | some a =>
      simp only [stepE]
      split
      · rw [List.pairwise_append]
        refine ⟨ih, by simp, fun p hp q hq => ?_⟩
        simp at hq
        subst hq
        exact (entN_mem n p hp).1
      · split
        · split
          · split
            · exact ih.sublist (List.eraseP_sublist)
            · exact ih
          · exact ih
        · exact ih
theorem entN_keep {i : Nat} {a : Act} (hi : acts[i]? = some a) (hk : a.kind = 23) : ∀ (n : Nat), i < n → (∀ j b, i < j → j < n → acts[j]? = some b → b.kind ≠ 6) → (i, entryOf keeper a i) ∈ entN dg acts keeper n
  | 0, h, _ => by omega
  | n + 1, h, hu => by
    simp only [entN]
    by_cases hin : i = n
    · subst hin
      rw [hi]
      simp [stepE, hk]
    · have ih := entN_keep hi hk n (by omega) (fun j b h1 h2 => hu j b h1 (by omega))
      cases hn : acts[n]? with
      | none => exact ih
      | some b =>
        have hb := hu n b (by omega) (by omega) hn
        simp only [stepE]
        split
        · exact List.mem_append_left _ ih
        · first | exact ih | (rw [if_neg hb]; exact ih)
end

/-- Of two entries for one actor the better one. -/
def better (a b : Entry) : Bool := decide (b.l.until_ < a.l.until_) || (decide (a.l.until_ = b.l.until_) && (decide (a.l.by_ < b.l.by_) || (decide (a.l.by_ = b.l.by_) && decide (b.at_ < a.at_))))
theorem better_iff {a b : Entry} : better a b = true ↔ b.l.until_ < a.l.until_ ∨ a.l.until_ = b.l.until_ ∧ (a.l.by_ < b.l.by_ ∨ a.l.by_ = b.l.by_ ∧ b.at_ < a.at_) := by
  simp [better]
theorem better_trans {a b c : Entry} (h : better a b = true) (k : better b c = true) : better a c = true := by
  rw [better_iff] at *
  rcases h with h | ⟨h1, h2⟩
  · rcases k with k | ⟨k1, k2⟩
    · exact .inl (by omega)
    · exact .inl (by omega)
  · rcases k with k | ⟨k1, k2⟩
    · exact .inl (by omega)
    · refine .inr ⟨by omega, ?_⟩
      rcases h2 with h2 | ⟨h2, h3⟩
      · rcases k2 with k2 | ⟨k2, k3⟩
        · exact .inl (slt_trans h2 k2)
        · exact .inl (k2 ▸ h2)
      · rcases k2 with k2 | ⟨k2, k3⟩
        · exact .inl (h2 ▸ k2)
        · exact .inr ⟨h2.trans k2, by omega⟩
theorem better_tot {a b : Entry} (h : better a b = false) (k : better b a = false) : a.l.until_ = b.l.until_ ∧ a.l.by_ = b.l.by_ ∧ a.at_ = b.at_ := by
  have h' : ¬ better a b = true := by simp [h]
  have k' : ¬ better b a = true := by simp [k]
  rw [better_iff] at h' k'
  have hu : a.l.until_ = b.l.until_ := by
    rcases Int.lt_trichotomy a.l.until_ b.l.until_ with h1 | h1 | h1
    · exact absurd (.inl h1) k'
    · exact h1
    · exact absurd (.inl h1) h'
  have hb : a.l.by_ = b.l.by_ := by
    rcases slt_tri a.l.by_ b.l.by_ with h1 | h1 | h1
    · exact absurd (.inr ⟨hu, .inl h1⟩) h'
    · exact h1
    · exact absurd (.inr ⟨hu.symm, .inl h1⟩) k'
  refine ⟨hu, hb, ?_⟩
  rcases Nat.lt_trichotomy a.at_ b.at_ with h1 | h1 | h1
  · exact absurd (.inr ⟨hu.symm, .inr ⟨hb.symm, h1⟩⟩) k'
  · exact h1
  · exact absurd (.inr ⟨hu, .inr ⟨hb, h1⟩⟩) h'
theorem better_irrefl (a : Entry) : better a a = false := by
  cases h : better a a with
  | false => rfl
  | true =>
    rw [better_iff] at h
    rcases h with h | ⟨_, h | ⟨_, h⟩⟩
    · omega
    · exact absurd h (slt_irrefl _)
    · omega

/-! ### Maps by actor -/
def getB (k : Str) : List (Str × Entry) → Option Entry
  | [] => none
  | p :: r => if p.1 = k then some p.2 else getB k r
def putB (k : Str) (e : Entry) : List (Str × Entry) → List (Str × Entry)
  | [] => [(k, e)]
  | p :: r => if p.1 = k then (k, e) :: r else p :: putB k e r
theorem get_putB (k : Str) (e : Entry) (k' : Str) : ∀ b, getB k' (putB k e b) = if k' = k then some e else getB k' b
  | [] => by
    by_cases h : k' = k
    · simp [putB, getB, h]
    · simp [putB, getB, h, Ne.symm h]
  | p :: r => by
    simp only [putB]
    split
    · next hp =>
      subst hp
      by_cases h : k' = p.1
      · simp [getB, h]
      · simp [getB, h, Ne.symm h]
    · next hp =>
      simp only [getB]
      by_cases h : p.1 = k'
      · rw [if_pos h, if_pos h, if_neg (fun hk => hp (h.trans hk))]
      · rw [if_neg h, if_neg h, get_putB k e k' r]
theorem keys_putB (k : Str) (e : Entry) (k' : Str) : ∀ b : List (Str × Entry), k' ∈ (putB k e b).map (·.1) ↔ k' = k ∨ k' ∈ b.map (·.1)
  | [] => by simp [putB]
  | p :: r => by
    simp only [putB]
    split
    · next hp => subst hp; simp
    · simp only [List.map_cons, List.mem_cons, keys_putB k e k' r]
      constructor
      · rintro (h | h | h)
        · exact .inr (.inl h)
        · exact .inl h
        · exact .inr (.inr h)
      · rintro (h | h | h)
        · exact .inr (.inl h)
        · exact .inl h
        · exact .inr (.inr h)
theorem nodup_putB (k : Str) (e : Entry) : ∀ b : List (Str × Entry), (b.map (·.1)).Nodup → ((putB k e b).map (·.1)).Nodup
  | [], _ => by simp [putB]
  | p :: r, h => by
    simp only [List.map_cons, List.nodup_cons] at h
    simp only [putB]
    split
    · next hp => subst hp; simpa using h
    · next hp =>
      simp only [List.map_cons, List.nodup_cons]
      refine ⟨fun hm => ?_, nodup_putB k e r h.2⟩
      rcases (keys_putB k e p.1 r).1 hm with h1 | h1
      · exact hp h1
      · exact h.1 h1
theorem getB_some {k : Str} {e : Entry} : ∀ {b : List (Str × Entry)}, getB k b = some e → k ∈ b.map (·.1)
  | [], h => by simp [getB] at h
  | p :: r, h => by
    simp only [getB] at h
    split at h
    · next hp => simp [hp]
    · simp [getB_some h]
theorem getB_of_mem {k : Str} : ∀ {b : List (Str × Entry)}, k ∈ b.map (·.1) → ∃ e, getB k b = some e
  | [], h => by simp at h
  | p :: r, h => by
    simp only [getB]
    split
    · exact ⟨_, rfl⟩
    · next hp =>
      simp only [List.map_cons, List.mem_cons] at h
      rcases h with h | h
      · exact absurd h.symm hp
      · exact getB_of_mem h

def winsO (e : Entry) : Option Entry → Bool
  | none => true
  | some o => better e o
def stepB (now : Int) (b : List (Str × Entry)) (e : Entry) : List (Str × Entry) :=
  if decide (now < e.l.until_) && winsO e (getB e.l.actor b) then putB e.l.actor e b else b
def bestS (now : Int) (es : List Entry) : List (Str × Entry) := es.foldl (stepB now) []

structure BestOK (now : Int) (es : List Entry) (b : List (Str × Entry)) : Prop where
  nodup : (b.map (·.1)).Nodup
  mem : ∀ k e, getB k b = some e → e ∈ es ∧ e.l.actor = k ∧ now < e.l.until_ ∧ ∀ e' ∈ es, e'.l.actor = k → now < e'.l.until_ → better e' e = false
  has : ∀ e ∈ es, now < e.l.until_ → ∃ e', getB e.l.actor b = some e'
theorem stepB_ok {now : Int} {es : List Entry} {b : List (Str × Entry)} (h : BestOK now es b) (e : Entry) : BestOK now (es ++ [e]) (stepB now b e) := by
  unfold stepB
  split
  · next hc =>
    simp only [Bool.and_eq_true, decide_eq_true_eq] at hc
    obtain ⟨hu, hb⟩ := hc
    refine ⟨nodup_putB _ _ _ h.nodup, fun k x hx => ?_, fun x hx hux => ?_⟩
    · rw [get_putB] at hx
      split at hx
      · next hk =>
        injection hx with hx
        subst hx hk
        refine ⟨by simp, rfl, hu, fun e' he' ha hu' => ?_⟩
        rcases List.mem_append.1 he' with he' | he'
        · obtain ⟨o, ho⟩ := h.has e' he' hu'
          rw [ha] at ho
          rw [ho] at hb
          simp only [winsO] at hb
          have h2 := (h.mem _ _ ho).2.2.2 e' he' ha hu'
          cases h3 : better e' e with
          | false => rfl
          | true => rw [better_trans h3 hb] at h2; cases h2
        · simp at he'; subst he'; exact better_irrefl _
      · next hk =>
        obtain ⟨h1, h2, h3, h4⟩ := h.mem k x hx
        refine ⟨List.mem_append_left _ h1, h2, h3, fun e' he' ha hu' => ?_⟩
        rcases List.mem_append.1 he' with he' | he'
        · exact h4 e' he' ha hu'
        · simp at he'; subst he'; exact absurd ha.symm hk
    · rw [get_putB]
      split
      · exact ⟨_, rfl⟩
      · next hk =>
        rcases List.mem_append.1 hx with hx | hx
        · exact h.has x hx hux
        · simp at hx; subst hx; exact absurd rfl hk
  · next hc =>
    refine ⟨h.nodup, fun k x hx => ?_, fun x hx hux => ?_⟩
    · obtain ⟨h1, h2, h3, h4⟩ := h.mem k x hx
      refine ⟨List.mem_append_left _ h1, h2, h3, fun e' he' ha hu' => ?_⟩
      rcases List.mem_append.1 he' with he' | he'
      · exact h4 e' he' ha hu'
      · simp at he'; subst he'
        rw [ha, hx] at hc
        simpa [hu', winsO] using hc
    · rcases List.mem_append.1 hx with hx | hx
      · exact h.has x hx hux
      · simp at hx; subst hx
        cases hg : getB x.l.actor b with
        | some o => exact ⟨o, rfl⟩
        | none => rw [hg] at hc; simp [hux, winsO] at hc
theorem bestS_ok (now : Int) (es : List Entry) : BestOK now es (bestS now es) := by
  have key : ∀ (l es : List Entry) (b : List (Str × Entry)), BestOK now es b → BestOK now (es ++ l) (l.foldl (stepB now) b) := by
    intro l
    induction l with
    | nil => intro es b h; simpa using h
    | cons e l ih =>
      intro es b h
      have := ih (es ++ [e]) _ (stepB_ok h e)
      simpa using this
  exact key es [] [] ⟨by simp, by simp [getB], by simp⟩

/-! ### What lists.Of gives -/
def sorted (l : List Str) : List Str := l.mergeSort (fun x y => decide (x ≤ y))
theorem sorted_perm (l : List Str) : (sorted l).Perm l := List.mergeSort_perm _ _
theorem sorted_lt {l : List Str} (h : l.Nodup) : (sorted l).Pairwise (· < ·) := by
  have h1 : (sorted l).Pairwise (fun x y => decide (x ≤ y) = true) := List.pairwise_mergeSort (fun a b c hab hbc => by simpa using List.le_trans (by simpa using hab) (by simpa using hbc))
    (fun a b => by simp only [Bool.or_eq_true, decide_eq_true_eq]; exact List.le_total a b) l
  have h2 : (sorted l).Nodup := (sorted_perm l).nodup_iff.2 h
  refine (h1.and h2).imp ?_
  rintro a b ⟨hab, hne⟩
  simp only [decide_eq_true_eq] at hab
  rcases slt_tri a b with h3 | h3 | h3
  · exact h3
  · exact absurd h3 hne
  · exact absurd h3 (List.not_lt.2 hab)
def outS (b : List (Str × Entry)) : List Listing := (sorted (b.map (·.1))).map fun k => ((getB k b).map (·.l)).getD noListing

/-- An entry is a best one. -/
def Best (now : Int) (E : Entry → Prop) (e : Entry) : Prop := E e ∧ now < e.l.until_ ∧ ∀ e', E e' → e'.l.actor = e.l.actor → now < e'.l.until_ → better e' e = false
structure OutOK (now : Int) (E : Entry → Prop) (l : List Listing) : Prop where
  asc : l.Pairwise (fun x y => x.actor < y.actor)
  mem : ∀ x, x ∈ l → ∃ e, Best now E e ∧ e.l = x
  has : ∀ e, E e → now < e.l.until_ → ∃ x ∈ l, x.actor = e.l.actor
theorem outS_ok (now : Int) (es : List Entry) : OutOK now (· ∈ es) (outS (bestS now es)) := by
  have hb := bestS_ok now es
  have hget : ∀ k ∈ sorted ((bestS now es).map (·.1)), ∃ e, getB k (bestS now es) = some e ∧ e.l.actor = k := fun k hk => by
    obtain ⟨e, he⟩ := getB_of_mem ((sorted_perm _).mem_iff.1 hk)
    exact ⟨e, he, (hb.mem k e he).2.1⟩
  refine ⟨?_, fun x hx => ?_, fun e he hu => ?_⟩
  · unfold outS
    rw [List.pairwise_map]
    refine List.Pairwise.imp_of_mem ?_ (sorted_lt hb.nodup)
    intro a b ha hb' hab
    obtain ⟨e1, h1, h2⟩ := hget a ha
    obtain ⟨e2, h3, h4⟩ := hget b hb'
    simp only [h1, h3, Option.map_some, Option.getD_some, h2, h4]
    exact hab
  · obtain ⟨k, hk, rfl⟩ := List.mem_map.1 hx
    obtain ⟨e, h1, h2⟩ := hget k hk
    obtain ⟨h3, _, h4, h5⟩ := hb.mem k e h1
    exact ⟨e, ⟨h3, h4, fun e' he' ha hu => h5 e' he' (ha.trans h2) hu⟩, by simp [h1]⟩
  · obtain ⟨e', he'⟩ := hb.has e he hu
    refine ⟨e'.l, List.mem_map.2 ⟨e.l.actor, (sorted_perm _).mem_iff.2 (getB_some he'), by simp [he']⟩, (hb.mem _ _ he').2.1⟩

/-- Lists that ascend and have the same members are the same. -/
theorem asc_ext {α : Type} (r : α → α → Prop) (irr : ∀ a, ¬ r a a) (asy : ∀ a b, r a b → ¬ r b a) : ∀ (l l' : List α), l.Pairwise r → l'.Pairwise r → (∀ x, x ∈ l ↔ x ∈ l') → l = l'
  | [], [], _, _, _ => rfl
  | [], y :: l', _, _, h => by have := (h y).2 (by simp); simp at this
  | x :: l, [], _, _, h => by have := (h x).1 (by simp); simp at this
  | x :: l, y :: l', h1, h2, h => by
    obtain ⟨a1, a2⟩ := List.pairwise_cons.1 h1
    obtain ⟨b1, b2⟩ := List.pairwise_cons.1 h2
    have hxy : x = y := by
      rcases List.mem_cons.1 ((h x).1 (by simp)) with h3 | h3
      · exact h3
      · rcases List.mem_cons.1 ((h y).2 (by simp)) with h4 | h4
        · exact h4.symm
        · exact absurd (b1 x h3) (asy _ _ (a1 y h4))
    subst hxy
    congr 1
    refine asc_ext r irr asy l l' a2 b2 fun z => ⟨fun hz => ?_, fun hz => ?_⟩
    · rcases List.mem_cons.1 ((h z).1 (List.mem_cons_of_mem _ hz)) with h3 | h3
      · subst h3; exact absurd (a1 z hz) (irr z)
      · exact h3
    · rcases List.mem_cons.1 ((h z).2 (List.mem_cons_of_mem _ hz)) with h3 | h3
      · subst h3; exact absurd (b1 z hz) (irr z)
      · exact h3

/-- Entries of one place are one. -/
def OneAt (E : Entry → Prop) : Prop := ∀ a b, E a → E b → a.l.by_ = b.l.by_ → a.at_ = b.at_ → a = b
theorem best_one {now : Int} {E : Entry → Prop} (h1 : OneAt E) {a b : Entry} (ha : Best now E a) (hb : Best now E b) (h : a.l.actor = b.l.actor) : a = b := by
  have k1 := hb.2.2 a ha.1 h ha.2.1
  have k2 := ha.2.2 b hb.1 h.symm hb.2.1
  obtain ⟨_, h3, h4⟩ := better_tot k1 k2
  exact h1 a b ha.1 hb.1 h3 h4
theorem OutOK.mem_iff {now : Int} {E : Entry → Prop} {l : List Listing} (h : OutOK now E l) (h1 : OneAt E) (x : Listing) : x ∈ l ↔ ∃ e, Best now E e ∧ e.l = x := by
  refine ⟨h.mem x, ?_⟩
  rintro ⟨e, he, rfl⟩
  obtain ⟨y, hy, hya⟩ := h.has e he.1 he.2.1
  obtain ⟨e', he', rfl⟩ := h.mem y hy
  rw [best_one h1 he he' hya.symm]
  exact hy
theorem OutOK.ext {now : Int} {E E' : Entry → Prop} {l l' : List Listing} (h : OutOK now E l) (h' : OutOK now E' l') (h1 : OneAt E) (he : ∀ e, E e ↔ E' e) : l = l' := by
  have hE : E = E' := funext fun e => propext (he e)
  subst hE
  refine asc_ext (fun x y : Listing => x.actor < y.actor) (fun a => slt_irrefl _) (fun a b h k => slt_irrefl _ (slt_trans h k)) l l' h.asc h'.asc fun x => ?_
  rw [h.mem_iff h1, h'.mem_iff h1]
/-- The listing for an actor is one. -/
theorem OutOK.one {now : Int} {E : Entry → Prop} {l : List Listing} (h : OutOK now E l) {x y : Listing} (hx : x ∈ l) (hy : y ∈ l) (ha : x.actor = y.actor) : x = y := by
  have key : ∀ (l : List Listing), l.Pairwise (fun x y => x.actor < y.actor) → x ∈ l → y ∈ l → x = y := by
    intro l
    induction l with
    | nil => intro _ hx; simp at hx
    | cons z l ih =>
      intro hp hx hy
      obtain ⟨h1, h2⟩ := List.pairwise_cons.1 hp
      rcases List.mem_cons.1 hx with h3 | h3 <;> rcases List.mem_cons.1 hy with h4 | h4
      · rw [h3, h4]
      · subst h3; have := h1 y h4; rw [ha] at this; exact absurd this (slt_irrefl _)
      · subst h4; have := h1 x h3; rw [ha] at this; exact absurd this (slt_irrefl _)
      · exact ih h2 h3 h4
  exact key l h.asc hx hy

/-! ### Keepers -/
def noChain : Chain := ⟨[], [], [], [], 0, false⟩
def findS (l : List Chain) (a : Str) : Option Chain := l.find? fun x => x.id == a
def findC (l : List Chain) (a : Str) : Chain := (findS l a).getD noChain
def entriesS (dg : Act → Str) (cs : List Chain) (k : Str) : List (Nat × Entry) := entN dg (findC cs k).acts k (findC cs k).acts.length
def allS (dg : Act → Str) (cs : List Chain) (ks : List Str) : List Entry := ks.flatMap fun k => (entriesS dg cs k).map (·.2)
/-- What lists.Of gives. -/
def ofS (dg : Act → Str) (cs : List Chain) (ks : List Str) (now : Int) : List Listing := outS (bestS now (allS dg cs ks))
section
variable {dg : Act → Str} {cs : List Chain}
theorem mem_allS {ks : List Str} {e : Entry} : e ∈ allS dg cs ks ↔ ∃ k ∈ ks, ∃ p ∈ entriesS dg cs k, p.2 = e := by
  simp [allS]
theorem entriesS_at {k : Str} {p : Nat × Entry} (h : p ∈ entriesS dg cs k) : ∃ a, (findC cs k).acts[p.1]? = some a ∧ a.kind = 23 ∧ p.2 = entryOf k a p.1 := (entN_mem _ p h).2
theorem allS_one (ks : List Str) : OneAt (· ∈ allS dg cs ks) := by
  intro a b ha hb hby hat
  obtain ⟨k, _, p, hp, rfl⟩ := mem_allS.1 ha
  obtain ⟨k', _, p', hp', rfl⟩ := mem_allS.1 hb
  obtain ⟨x, h1, _, h2⟩ := entriesS_at hp
  obtain ⟨x', h1', _, h2'⟩ := entriesS_at hp'
  rw [h2, h2'] at hby hat ⊢
  simp only [entryOf] at hby hat
  subst hby
  rw [hat, h1'] at h1
  injection h1 with h1
  rw [h1, hat]
theorem entry_by {k : Str} {p : Nat × Entry} (h : p ∈ entriesS dg cs k) : p.2.l.by_ = k := by
  obtain ⟨x, _, _, h2⟩ := entriesS_at h
  rw [h2]; rfl
theorem ofS_ok (ks : List Str) (now : Int) : OutOK now (· ∈ allS dg cs ks) (ofS dg cs ks now) := outS_ok _ _
theorem ofS_congr {ks ks' : List Str} (now : Int) (h : ∀ k, k ∈ ks ↔ k ∈ ks') : ofS dg cs ks now = ofS dg cs ks' now := by
  refine (ofS_ok ks now).ext (ofS_ok ks' now) (allS_one ks) fun e => ?_
  simp only [mem_allS]
  constructor
  · rintro ⟨k, hk, h1⟩; exact ⟨k, (h k).1 hk, h1⟩
  · rintro ⟨k, hk, h1⟩; exact ⟨k, (h k).2 hk, h1⟩
/-- A listing is also that of its keeper alone. -/
theorem ofS_own {ks : List Str} {now : Int} {x : Listing} (h : x ∈ ofS dg cs ks now) : x.by_ ∈ ks ∧ now < x.until_ ∧ x ∈ ofS dg cs [x.by_] now := by
  obtain ⟨e, he, rfl⟩ := (ofS_ok ks now).mem x h
  obtain ⟨k, hk, p, hp, rfl⟩ := mem_allS.1 he.1
  have hby := entry_by hp
  rw [hby]
  refine ⟨hk, he.2.1, ((ofS_ok [k] now).mem_iff (allS_one [k]) _).2 ⟨p.2, ⟨mem_allS.2 ⟨k, by simp, p, hp, rfl⟩, he.2.1, fun e' he' ha hu => ?_⟩, rfl⟩⟩
  refine he.2.2 e' ?_ ha hu
  obtain ⟨k', hk', h2⟩ := mem_allS.1 he'
  simp at hk'
  subst hk'
  exact mem_allS.2 ⟨k', hk, h2⟩
/-- What one keeper lists, several do at least as well. -/
theorem ofS_more {ks : List Str} {k : Str} (hk : k ∈ ks) {now : Int} {y : Listing} (h : y ∈ ofS dg cs [k] now) :
    ∃ x ∈ ofS dg cs ks now, x.actor = y.actor ∧ (y.until_ < x.until_ ∨ x.until_ = y.until_ ∧ ¬ k < x.by_) := by
  obtain ⟨e, he, rfl⟩ := (ofS_ok [k] now).mem y h
  have hin : e ∈ allS dg cs ks := by
    obtain ⟨k', hk', h2⟩ := mem_allS.1 he.1
    simp at hk'
    subst hk'
    exact mem_allS.2 ⟨k', hk, h2⟩
  have hby : e.l.by_ = k := by
    obtain ⟨k', hk', p, hp, rfl⟩ := mem_allS.1 he.1
    simp at hk'
    subst hk'
    exact entry_by hp
  obtain ⟨x, hx, hxa⟩ := (ofS_ok ks now).has e hin he.2.1
  obtain ⟨e', he', rfl⟩ := (ofS_ok ks now).mem x hx
  refine ⟨e'.l, hx, hxa, ?_⟩
  have hb := he'.2.2 e hin hxa.symm he.2.1
  have hb' : ¬ better e e' = true := by simp [hb]
  rw [better_iff] at hb'
  rcases Int.lt_trichotomy e.l.until_ e'.l.until_ with h1 | h1 | h1
  · exact .inl h1
  · exact .inr ⟨h1.symm, fun h2 => hb' (.inr ⟨h1, .inl (hby ▸ h2)⟩)⟩
  · exact absurd (.inl h1) hb'
/-- Later. -/
theorem ofS_later {ks : List Str} {now later : Int} (hl : now ≤ later) {x : Listing} (h : x ∈ ofS dg cs ks now) :
    (later < x.until_ → x ∈ ofS dg cs ks later) ∧ (¬ later < x.until_ → ∀ y ∈ ofS dg cs ks later, y.actor ≠ x.actor) := by
  obtain ⟨e, he, rfl⟩ := (ofS_ok ks now).mem x h
  refine ⟨fun hu => ((ofS_ok ks later).mem_iff (allS_one ks) _).2 ⟨e, ⟨he.1, hu, fun e' h1 h2 h3 => he.2.2 e' h1 h2 (by omega)⟩, rfl⟩, fun hu y hy hya => ?_⟩
  obtain ⟨e', he', rfl⟩ := (ofS_ok ks later).mem y hy
  have hb := he.2.2 e' he'.1 hya (by have := he'.2.1; omega)
  have hb' : ¬ better e' e = true := by simp [hb]
  rw [better_iff] at hb'
  exact hb' (.inl (by have := he'.2.1; omega))
theorem ofS_earlier {ks : List Str} {now later : Int} (hl : now ≤ later) {y : Listing} (h : y ∈ ofS dg cs ks later) : y ∈ ofS dg cs ks now := by
  obtain ⟨e, he, rfl⟩ := (ofS_ok ks later).mem y h
  have hu := he.2.1
  refine ((ofS_ok ks now).mem_iff (allS_one ks) _).2 ⟨e, ⟨he.1, by omega, fun e' h1 h2 h3 => ?_⟩, rfl⟩
  by_cases h4 : later < e'.l.until_
  · exact he.2.2 e' h1 h2 h4
  · cases hb : better e' e with
    | false => rfl
    | true =>
      rw [better_iff] at hb
      rcases hb with hb | ⟨hb, _⟩ <;> omega
/-- An entry that no undo follows is reflected. -/
theorem ofS_reflects {ks : List Str} {k : Str} (hk : k ∈ ks) {now : Int} {i : Nat} {a : Act} (hi : (findC cs k).acts[i]? = some a) (ha : a.kind = 23) (hu : now < a.n)
    (hno : ∀ j b, i < j → (findC cs k).acts[j]? = some b → b.kind ≠ 6) : ∃ x ∈ ofS dg cs ks now, x.actor = a.target ∧ a.n ≤ x.until_ := by
  have hin : entryOf k a i ∈ allS dg cs ks := mem_allS.2 ⟨k, hk, (i, entryOf k a i), entN_keep hi ha _ (by
    rcases Nat.lt_or_ge i (findC cs k).acts.length with h | h
    · exact h
    · rw [List.getElem?_eq_none h] at hi; cases hi) (fun j b h1 _ h3 => hno j b h1 h3), rfl⟩
  obtain ⟨x, hx, hxa⟩ := (ofS_ok ks now).has _ hin hu
  obtain ⟨e', he', rfl⟩ := (ofS_ok ks now).mem x hx
  refine ⟨e'.l, hx, hxa, ?_⟩
  have hb := he'.2.2 _ hin hxa.symm hu
  have hb' : ¬ better (entryOf k a i) e' = true := by simp [hb]
  rw [better_iff] at hb'
  simp only [entryOf] at hb'
  rcases Int.lt_or_le e'.l.until_ a.n with h1 | h1
  · exact absurd (.inl h1) hb'
  · exact h1
/-- Every listing is an entry's. -/
theorem ofS_from {ks : List Str} {now : Int} {x : Listing} (h : x ∈ ofS dg cs ks now) :
    ∃ k ∈ ks, ∃ (i : Nat) (a : Act), (findC cs k).acts[i]? = some a ∧ a.kind = 23 ∧ now < a.n ∧ x = ⟨a.target, a.text, k, a.n⟩ := by
  obtain ⟨e, he, rfl⟩ := (ofS_ok ks now).mem x h
  obtain ⟨k, hk, p, hp, rfl⟩ := mem_allS.1 he.1
  obtain ⟨a, h1, h2, h3⟩ := entriesS_at hp
  refine ⟨k, hk, p.1, a, h1, h2, ?_, by rw [h3]; rfl⟩
  have := he.2.1
  rw [h3] at this
  exact this
end
end Go.Proofs.YthkmfboffnhkaaaGreatDoor
