/-
  The plain law of relations and circles: what relation.Of and the functions of circle compute, in plain Lean, and what is said of it.
-/
import Derived.Test.YthkmfboffnhkaaaGreatDoorPL2
set_option linter.all false
namespace Go.Proofs.YthkmfboffnhkaaaGreatDoor

/-! ### Relations -/
structure TieS where
  follows : List Str
  accepts : List Str
  blocks : List Str
  mutes : List Str
def addSet (l : List Str) (x : Str) : List Str := if x ∈ l then l else l ++ [x]
def remS (l : List Str) (x : Str) : List Str := l.eraseP (· == x)
def undoS (t : TieS) (a : Act) : TieS :=
  if a.kind = 7 then { t with follows := remS t.follows a.target } else
  if a.kind = 8 then { t with accepts := remS t.accepts a.target } else
  if a.kind = 10 then { t with blocks := remS t.blocks a.target } else
  if a.kind = 11 then { t with mutes := remS t.mutes a.target } else t
def applyS (dg : Act → Str) (acts : List Act) (i : Nat) (a : Act) (t : TieS) : TieS :=
  if a.kind = 7 then { t with follows := addSet t.follows a.target } else
  if a.kind = 8 then { t with accepts := addSet t.accepts a.target } else
  if a.kind = 9 then { t with accepts := remS t.accepts a.target } else
  if a.kind = 10 then { t with blocks := addSet t.blocks a.target, follows := remS t.follows a.target, accepts := remS t.accepts a.target } else
  if a.kind = 11 then { t with mutes := addSet t.mutes a.target } else
  if a.kind = 6 then
    match indexS dg acts a.object with
    | some j => if j < i then (match acts[j]? with
      | some b => undoS t b
      | none => t) else t
    | none => t
  else t
def tiesN (dg : Act → Str) (acts : List Act) : Nat → TieS
  | 0 => ⟨[], [], [], []⟩
  | n + 1 => match acts[n]? with
    | some a => applyS dg acts n a (tiesN dg acts n)
    | none => tiesN dg acts n
structure TieS.Nodup (t : TieS) : Prop where
  follows : t.follows.Nodup
  accepts : t.accepts.Nodup
  blocks : t.blocks.Nodup
  mutes : t.mutes.Nodup
theorem addSet_nodup {l : List Str} (h : l.Nodup) (x : Str) : (addSet l x).Nodup := by
  unfold addSet
  split
  · exact h
  · next hx =>
    rw [List.nodup_append]
    exact ⟨h, by simp, fun a ha b hb => by simp at hb; subst hb; exact fun he => hx (he ▸ ha)⟩
theorem remS_nodup {l : List Str} (h : l.Nodup) (x : Str) : (remS l x).Nodup := h.sublist List.eraseP_sublist
theorem undoS_nodup {t : TieS} (h : t.Nodup) (a : Act) : (undoS t a).Nodup := by
  unfold undoS
  split
  · exact ⟨remS_nodup h.1 _, h.2, h.3, h.4⟩
  · split
    · exact ⟨h.1, remS_nodup h.2 _, h.3, h.4⟩
    · split
      · exact ⟨h.1, h.2, remS_nodup h.3 _, h.4⟩
      · split
        · exact ⟨h.1, h.2, h.3, remS_nodup h.4 _⟩
        · exact h
theorem applyS_nodup {dg : Act → Str} {acts : List Act} {i : Nat} {a : Act} {t : TieS} (h : t.Nodup) : (applyS dg acts i a t).Nodup := by
  unfold applyS
  split
  · exact ⟨addSet_nodup h.1 _, h.2, h.3, h.4⟩
  · split
    · exact ⟨h.1, addSet_nodup h.2 _, h.3, h.4⟩
    · split
      · exact ⟨h.1, remS_nodup h.2 _, h.3, h.4⟩
      · split
        · exact ⟨remS_nodup h.1 _, remS_nodup h.2 _, addSet_nodup h.3 _, h.4⟩
        · split
          · exact ⟨h.1, h.2, h.3, addSet_nodup h.4 _⟩
          · split
            · split
              · split
                · split
                  · exact undoS_nodup h _
                  · exact h
                · exact h
              · exact h
            · exact h
theorem tiesN_nodup (dg : Act → Str) (acts : List Act) : ∀ n, (tiesN dg acts n).Nodup
  | 0 => ⟨by simp [tiesN], by simp [tiesN], by simp [tiesN], by simp [tiesN]⟩
  | n + 1 => by
    simp only [tiesN]
    split
    · exact applyS_nodup (tiesN_nodup dg acts n)
    · exact tiesN_nodup dg acts n
/-- Every list is of at most as many elements as there are activities. -/
structure TieS.Le (t : TieS) (n : Nat) : Prop where
  follows : t.follows.length ≤ n
  accepts : t.accepts.length ≤ n
  blocks : t.blocks.length ≤ n
  mutes : t.mutes.length ≤ n
theorem addSet_len (l : List Str) (x : Str) : (addSet l x).length ≤ l.length + 1 := by
  unfold addSet; split <;> simp
theorem remS_len (l : List Str) (x : Str) : (remS l x).length ≤ l.length := List.length_eraseP_le
theorem applyS_le {dg : Act → Str} {acts : List Act} {i n : Nat} {a : Act} {t : TieS} (h : t.Le n) : (applyS dg acts i a t).Le (n + 1) := by
  have f := h.1; have ac := h.2; have b := h.3; have m := h.4
  have hf := addSet_len t.follows a.target; have ha := addSet_len t.accepts a.target; have hb := addSet_len t.blocks a.target; have hm := addSet_len t.mutes a.target
  have rf := remS_len t.follows a.target; have ra := remS_len t.accepts a.target
  have h' : t.Le (n + 1) := ⟨by omega, by omega, by omega, by omega⟩
  unfold applyS
  split
  · exact ⟨by simp only; omega, by simp only; omega, by simp only; omega, by simp only; omega⟩
  · split
    · exact ⟨by simp only; omega, by simp only; omega, by simp only; omega, by simp only; omega⟩
    · split
      · exact ⟨by simp only; omega, by simp only; omega, by simp only; omega, by simp only; omega⟩
      · split
        · exact ⟨by simp only; omega, by simp only; omega, by simp only; omega, by simp only; omega⟩
        · split
          · exact ⟨by simp only; omega, by simp only; omega, by simp only; omega, by simp only; omega⟩
          · split
            · split
              · split
                · split
                  · next bb _ =>
                    have q1 := remS_len t.follows bb.target; have q2 := remS_len t.accepts bb.target; have q3 := remS_len t.blocks bb.target; have q4 := remS_len t.mutes bb.target
                    unfold undoS
                    split
                    · exact ⟨by simp only; omega, by simp only; omega, by simp only; omega, by simp only; omega⟩
                    · split
                      · exact ⟨by simp only; omega, by simp only; omega, by simp only; omega, by simp only; omega⟩
                      · split
                        · exact ⟨by simp only; omega, by simp only; omega, by simp only; omega, by simp only; omega⟩
                        · split
                          · exact ⟨by simp only; omega, by simp only; omega, by simp only; omega, by simp only; omega⟩
                          · exact h'
                  · exact h'
                · exact h'
              · exact h'
            · exact h'
theorem tiesN_le (dg : Act → Str) (acts : List Act) : ∀ n, (tiesN dg acts n).Le n
  | 0 => ⟨by simp [tiesN], by simp [tiesN], by simp [tiesN], by simp [tiesN]⟩
  | n + 1 => by
    simp only [tiesN]
    have := tiesN_le dg acts n
    split
    · exact applyS_le this
    · exact ⟨by have := this.1; omega, by have := this.2; omega, by have := this.3; omega, by have := this.4; omega⟩

/-- What an undo at place i takes out hangs on the earlier activities alone. -/
theorem indexS_take (dg : Act → Str) (acts : List Act) (d : Str) (i : Nat) : indexS dg (acts.take i) d = (indexS dg acts d).bind fun j => if j < i then some j else none := by
  unfold indexS
  rw [List.findIdx?_take]
  cases h : List.findIdx? (fun x => dg x == d) acts with
  | none => rfl
  | some j => simp [Option.guard]
theorem take_get {acts acts' : List Act} {n i : Nat} (h : acts.take n = acts'.take n) (hi : i < n) : acts[i]? = acts'[i]? := by
  have h1 := congrArg (·[i]?) h
  simpa [List.getElem?_take_of_lt hi] using h1
theorem take_le {acts acts' : List Act} {n m : Nat} (h : acts.take n = acts'.take n) (hm : m ≤ n) : acts.take m = acts'.take m := by
  have := congrArg (List.take m) h
  simpa [List.take_take, Nat.min_eq_left hm] using this
theorem applyS_congr {dg : Act → Str} {acts acts' : List Act} {i : Nat} (h : acts.take i = acts'.take i) (a : Act) (t : TieS) : applyS dg acts i a t = applyS dg acts' i a t := by
  have e : ∀ acts : List Act, (match indexS dg acts a.object with
      | some j => if j < i then (match acts[j]? with
        | some b => undoS t b
        | none => t) else t
      | none => t) = (match indexS dg (acts.take i) a.object with
      | some j => (match (acts.take i)[j]? with
        | some b => undoS t b
        | none => t)
      | none => t) := by
    intro acts
    rw [indexS_take]
    cases indexS dg acts a.object with
    | none => rfl
    | some j =>
      by_cases hj : j < i
      · simp [hj, List.getElem?_take_of_lt hj]
      · simp [hj]
  unfold applyS
  rw [e acts, e acts', h]
theorem tiesN_congr {dg : Act → Str} {acts acts' : List Act} : ∀ n, acts.take n = acts'.take n → tiesN dg acts n = tiesN dg acts' n
  | 0, _ => rfl
  | n + 1, h => by
    simp only [tiesN]
    rw [← take_get h (Nat.lt_succ_self n), ← tiesN_congr n (take_le h (Nat.le_succ n))]
    split
    · exact applyS_congr (take_le h (Nat.le_succ n)) _ _
    · rfl
/-- How many of a chain's activities are looked at. -/
def upTo (n : Int) (acts : List Act) : Nat := min n.toNat acts.length
noncomputable def tiesS (dg : Act → Str) (acts : List Act) (n : Int) : TieS :=
  let t := tiesN dg acts (upTo n acts)
  ⟨sorted t.follows, sorted t.accepts, sorted t.blocks, sorted t.mutes⟩

/-! ### Circles -/
def circN (acts : List Act) (group : Str) : Nat → List Str
  | 0 => []
  | n + 1 => match acts[n]? with
    | some a => if a.kind = 15 ∧ a.group = group then a.to else circN acts group n
    | none => circN acts group n
def grantN (acts : List Act) (scope : Int) (group : Str) : Nat → Nat × Nat
  | 0 => (0, 0)
  | n + 1 => match acts[n]? with
    | some a => if a.kind = 16 ∧ a.scope = scope ∧ a.group = group ∧ a.epoch = ((grantN acts scope group n).2 : Int) then (n, (grantN acts scope group n).2 + 1) else grantN acts scope group n
    | none => grantN acts scope group n
theorem grantN_spec (acts : List Act) (scope : Int) (group : Str) : ∀ n, (grantN acts scope group n).2 ≤ n ∧ ((grantN acts scope group n).2 = 0 → (grantN acts scope group n).1 = 0) ∧
    (0 < (grantN acts scope group n).2 → (grantN acts scope group n).1 < n ∧ ∃ a, acts[(grantN acts scope group n).1]? = some a ∧ a.kind = 16 ∧ a.scope = scope ∧ a.group = group ∧ a.epoch = ((grantN acts scope group n).2 : Int) - 1)
  | 0 => by simp [grantN]
  | n + 1 => by
    obtain ⟨h1, h2, h3⟩ := grantN_spec acts scope group n
    simp only [grantN]
    split
    · next a ha =>
      split
      · next hc => exact ⟨by simp only; omega, by simp only; omega, fun _ => ⟨Nat.lt_succ_self n, a, ha, hc.1, hc.2.1, hc.2.2.1, by simp only; omega⟩⟩
      · exact ⟨by omega, h2, fun h => by obtain ⟨k1, k2⟩ := h3 h; exact ⟨by omega, k2⟩⟩
    · exact ⟨by omega, h2, fun h => by obtain ⟨k1, k2⟩ := h3 h; exact ⟨by omega, k2⟩⟩
theorem grantN_congr {acts acts' : List Act} {scope : Int} {group : Str} : ∀ n, acts.take n = acts'.take n → grantN acts scope group n = grantN acts' scope group n
  | 0, _ => rfl
  | n + 1, h => by
    simp only [grantN]
    rw [← take_get h (Nat.lt_succ_self n), ← grantN_congr n (take_le h (Nat.le_succ n))]
theorem circN_congr {acts acts' : List Act} {group : Str} : ∀ n, acts.take n = acts'.take n → circN acts group n = circN acts' group n
  | 0, _ => rfl
  | n + 1, h => by
    simp only [circN]
    rw [← take_get h (Nat.lt_succ_self n), ← circN_congr n (take_le h (Nat.le_succ n))]
noncomputable def fromS (dg : Act → Str) (acts : List Act) (n scope : Int) (group : Str) (to : List Str) : List Str :=
  if scope = 1 then (tiesS dg acts n).accepts else if scope = 3 then to else if scope = 2 then circN acts group (upTo n acts) else []
noncomputable def membersS (dg : Act → Str) (c : Chain) (n scope : Int) (group : Str) (to : List Str) : List Str :=
  ascS ((fromS dg c.acts n scope group to).filter fun x => !(x == c.id || (tiesS dg c.acts n).blocks.contains x))
def grantS (acts : List Act) (n scope : Int) (group : Str) : Nat × Nat := grantN acts scope group (upTo n acts)
def epochS (acts : List Act) (n scope : Int) (group : Str) : Int × List Str × Bool :=
  if 0 < (grantS acts n scope group).2 then (match acts[(grantS acts n scope group).1]? with
    | some a => (a.epoch, a.to, true)
    | none => (0, [], false)) else (0, [], false)
noncomputable def freshS (dg : Act → Str) (c : Chain) (n scope : Int) (group : Str) (to : List Str) : Bool :=
  !(epochS c.acts n scope group).2.2 || !((epochS c.acts n scope group).2.1 == membersS dg c n scope group to)
def isPosting (k : Int) : Bool := k == 1 || k == 2 || k == 3
noncomputable def wellS (dg : Act → Str) (c : Chain) (i : Int) : Bool :=
  if 0 ≤ i then (match c.acts[i.toNat]? with
    | some a => if (isPosting a.kind || a.kind == 14) && decide (1 ≤ a.scope) && decide (a.scope ≤ 3) then decide ((epochS c.acts i a.scope a.group).1 = a.epoch) && !freshS dg c i a.scope a.group a.to else false
    | none => false) else false
section
variable {dg : Act → Str}
theorem upTo_take {acts acts' : List Act} {n : Nat} (hn : n ≤ acts.length) (hn' : n ≤ acts'.length) : upTo n acts = n ∧ upTo n acts' = n := by unfold upTo; omega
theorem membersS_congr {c d : Chain} {n : Nat} (hid : c.id = d.id) (h : c.acts.take n = d.acts.take n) (hn : n ≤ c.acts.length) (hn' : n ≤ d.acts.length) (scope : Int) (group : Str) (to : List Str) :
    membersS dg c n scope group to = membersS dg d n scope group to := by
  obtain ⟨e1, e2⟩ := upTo_take hn hn'
  have et : tiesS dg c.acts n = tiesS dg d.acts n := by unfold tiesS; rw [e1, e2, tiesN_congr n h]
  have ef : fromS dg c.acts n scope group to = fromS dg d.acts n scope group to := by unfold fromS; rw [et, e1, e2, circN_congr n h]
  unfold membersS
  rw [ef, et, hid]
theorem epochS_congr {c d : Chain} {n : Nat} (h : c.acts.take n = d.acts.take n) (hn : n ≤ c.acts.length) (hn' : n ≤ d.acts.length) (scope : Int) (group : Str) :
    epochS c.acts n scope group = epochS d.acts n scope group := by
  obtain ⟨e1, e2⟩ := upTo_take hn hn'
  have eg : grantS c.acts n scope group = grantS d.acts n scope group := by unfold grantS; rw [e1, e2, grantN_congr n h]
  have hs := grantN_spec c.acts scope group n
  unfold epochS
  rw [eg]
  split
  · next hp =>
    have hlt : (grantS d.acts n scope group).1 < n := by
      rw [← eg] at hp ⊢
      unfold grantS at hp ⊢
      rw [e1] at hp ⊢
      exact (hs.2.2 hp).1
    rw [take_get h hlt]
  · rfl
theorem freshS_congr {c d : Chain} {n : Nat} (hid : c.id = d.id) (h : c.acts.take n = d.acts.take n) (hn : n ≤ c.acts.length) (hn' : n ≤ d.acts.length) (scope : Int) (group : Str) (to : List Str) :
    freshS dg c n scope group to = freshS dg d n scope group to := by
  unfold freshS
  rw [epochS_congr h hn hn', membersS_congr hid h hn hn']
theorem epochS_ok (acts : List Act) (n scope : Int) (group : Str) : ((epochS acts n scope group).2.2 = decide (0 < (grantS acts n scope group).2)) ∧
    (0 < (grantS acts n scope group).2 → (grantS acts n scope group).1 < upTo n acts ∧ ∃ a, acts[(grantS acts n scope group).1]? = some a ∧ a.kind = 16 ∧ a.scope = scope ∧ a.group = group ∧ a.epoch = ((grantS acts n scope group).2 : Int) - 1 ∧ epochS acts n scope group = (a.epoch, a.to, true)) ∧
    (¬ 0 < (grantS acts n scope group).2 → epochS acts n scope group = (0, [], false) ∧ grantS acts n scope group = (0, 0)) := by
  obtain ⟨h1, h2, h3⟩ := grantN_spec acts scope group (upTo n acts)
  by_cases hp : 0 < (grantS acts n scope group).2
  · obtain ⟨k1, a, k2, k3, k4, k5, k6⟩ := h3 hp
    have e : epochS acts n scope group = (a.epoch, a.to, true) := by
      unfold epochS
      rw [if_pos hp]
      unfold grantS
      rw [k2]
    exact ⟨by rw [e]; simp [hp], fun _ => ⟨k1, a, k2, k3, k4, k5, k6, e⟩, fun h => absurd hp h⟩
  · have e : epochS acts n scope group = (0, [], false) := by unfold epochS; rw [if_neg hp]
    refine ⟨by rw [e]; simp [hp], fun h => absurd h hp, fun _ => ⟨e, ?_⟩⟩
    have h0 : (grantS acts n scope group).2 = 0 := by omega
    have h4 : (grantS acts n scope group).1 = 0 := h2 h0
    exact Prod.ext h4 h0
end
end Go.Proofs.YthkmfboffnhkaaaGreatDoor
