/-
  L1, part m: short-circuit blocks merged; one condition for a whole piece of code, to be computed by simp. Generic in the program.
  L1, part x: which rows simp uses to compute the conditions. Generic in the program.
-/
import Derived.Test.YthkmfboffnhkaaaGreatDoorM4
import Derived.IntWalk
set_option linter.all false
namespace Go.L1
open Go

/-! ### A smaller environment serves -/
def Sub (g f : Fenv) : Prop := ∀ d, g d = .undef ∨ g d = f d
theorem Sub.refl (f : Fenv) : Sub f f := fun _ => .inr rfl
theorem Sub.trans {f g h : Fenv} (a : Sub f g) (b : Sub g h) : Sub f h := fun d => by
  rcases a d with h1 | h1
  · exact .inl h1
  · rcases b d with h2 | h2
    · exact .inl (h1.trans h2)
    · exact .inr (h1.trans h2)
theorem Sub.upd {g f : Fenv} (h : Sub g f) (d : Nat) (v : V) : Sub (upd g d v) (upd f d v) := fun t => by
  by_cases ht : t = d
  · subst ht; rw [upd_same, upd_same]; exact .inr rfl
  · rw [upd_ne _ _ ht, upd_ne _ _ ht]; exact h t
theorem Sub.updO {g f : Fenv} (h : Sub g f) (d : Option Nat) (v : V) : Sub (updO g d v) (updO f d v) := by
  cases d with
  | none => exact h
  | some d => exact h.upd d v
theorem Sub.updB {g f : Fenv} (h : Sub g f) (b : Option (Nat × List V)) : Sub (updB g b) (updB f b) := by
  cases b with
  | none => exact h
  | some p => exact h.upd p.1 _
theorem Sub.eqv {g f : Fenv} (h : Sub g f) {d : Nat} {v : V} (hv : g d = v) (hu : v ≠ .undef) : f d = v := by
  rcases h d with h1 | h1
  · exact absurd (hv.symm.trans h1) hu
  · rw [← h1, hv]

theorem EvOk.sub {γ : Gh} {w : World} {gb : Nat → Nat} {g f : Fenv} {ev : Operand → Value} {xs : Array Operand} (s : Sub g f) (h : EvOk γ w gb f ev xs) : EvOk γ w gb g ev xs := by
  intro x hx
  have h1 := h x hx
  cases x with
  | tmp t =>
    simp only at h1 ⊢
    rcases s t with h2 | h2
    · rw [h2]; exact .undef _
    · rw [h2]; exact h1
  | _ => exact h1
theorem ContOk.sub {γ : Gh} {w : World} {gb : Nat → Nat} {g f : Fenv} {op : Op} (s : Sub g f) (h : ContOk γ w gb f op) : ContOk γ w gb g op := by
  intro t ht
  obtain ⟨h1, h2⟩ := h t ht
  exact ⟨fun cs hc => h1 cs (s.eqv hc (by simp)), fun d off cs hd hc => h2 d off cs (s.eqv hd (by simp)) (s.eqv hc (by simp))⟩
theorem OpX.sub {cx : Cx} {o : Oper} {g f : Fenv} {st : List SO} {r : Res} (s : Sub g f) (h : OpX cx o g st r) : OpX cx o f st r :=
  fun γ w gb ev h1 h2 h3 h4 => h γ w gb ev h1 h2 (h3.sub s) (h4.sub s)
theorem Comes'.sub {o : Oper} {g f : Fenv} {d : Nat} (s : Sub g f) (h : Comes' o g d) : Comes' o f d := by
  obtain ⟨⟨cs, hc⟩, h2⟩ := h
  refine ⟨⟨cs, s.eqv hc (by simp)⟩, ?_⟩
  rcases h2 with ⟨t, off, h3, h4⟩ | h3
  · exact .inl ⟨t, off, h3, s.eqv h4 (by simp)⟩
  · exact .inr h3
theorem Cls.sub {k : Nat} {o : Oper} {g f : Fenv} {st : List SO} {r : Res} (s : Sub g f) (h : Cls k o g st r) : Cls k o f st r := by
  refine ⟨h.1, fun hk => ?_, fun hk => ?_⟩
  · obtain ⟨h1, d, cs, cs0, h2, h3, h4, h5⟩ := h.2.1 hk
    exact ⟨h1, d, cs, cs0, h2, h3, s.eqv h4 (by simp), h5⟩
  · obtain ⟨h1, h2, d, c, h3, h4⟩ := h.2.2 hk
    exact ⟨h1, h2, d, c, h3, s.eqv h4 (by simp)⟩
theorem Side.sub {o : Oper} {g f : Fenv} {r : Res} (s : Sub g f) (h : Side o g r) : Side o f r :=
  ⟨fun d off hv => (h.1 d off hv).sub s, fun d cs hb => ⟨(h.2 d cs hb).1.sub s, (h.2 d cs hb).2⟩⟩
theorem GuardA.sub {ops : Array Oper} {o : Oper} {g f : Fenv} {b : Bool} (s : Sub g f) (h : GuardA ops o g b) : GuardA ops o f b := by
  unfold GuardA at *
  split
  · next hg => rw [hg] at h; exact h
  · next i want hg =>
    rw [hg] at h
    obtain ⟨t, ht, h⟩ := h
    refine ⟨t, ht, ?_⟩
    rcases h with ⟨c, hc, hb⟩ | ⟨hc, hb⟩
    · exact .inl ⟨c, s.eqv hc (by simp), hb⟩
    · exact .inr ⟨s.eqv hc (by simp), hb⟩
/-- As Does, with no box turned if 'nb'. -/
def DoesB (cx : Cx) (ops : Array Oper) (nb : Bool) (k : Nat) (o : Oper) (f : Fenv) (st : List SO) (f' : Fenv) (st' : List SO) : Prop :=
  ∃ b, GuardA ops o f b ∧
    if b then ∃ r, OpX cx o f st r ∧ Side o f r ∧ f' = nextF f o r ∧ st' = r.st ∧ (k = 0 → ∀ s, OpX cx o f s ⟨r.v, none, s⟩) ∧ Cls k o f st r ∧ (nb = true → r.bu = none)
    else f' = updO f o.dst (.tup []) ∧ st' = st
theorem DoesB.does {cx : Cx} {ops : Array Oper} {nb : Bool} {k : Nat} {o : Oper} {f f' : Fenv} {st st' : List SO} (h : DoesB cx ops nb k o f st f' st') : Does cx ops k o f st f' st' := by
  obtain ⟨b, hg, h⟩ := h
  refine ⟨b, hg, ?_⟩
  cases b with
  | false => exact h
  | true =>
    simp only [if_true] at h ⊢
    obtain ⟨r, h1, h2, h3, h4, h5, h6, _⟩ := h
    exact ⟨r, h1, h2, h3, h4, h5, h6⟩
theorem DoesB.weak {cx : Cx} {ops : Array Oper} {nb nb' : Bool} (hn : nb' = true → nb = true) {k : Nat} {o : Oper} {f f' : Fenv} {st st' : List SO} (h : DoesB cx ops nb k o f st f' st') : DoesB cx ops nb' k o f st f' st' := by
  obtain ⟨b, hg, h⟩ := h
  refine ⟨b, hg, ?_⟩
  cases b with
  | false => exact h
  | true =>
    simp only [if_true] at h ⊢
    obtain ⟨r, h1, h2, h3, h4, h5, h6, h7⟩ := h
    exact ⟨r, h1, h2, h3, h4, h5, h6, fun h => h7 (hn h)⟩
theorem DoesB.frame {cx : Cx} {ops : Array Oper} {k : Nat} {o : Oper} {f f' : Fenv} {st st' : List SO} (h : DoesB cx ops true k o f st f' st') {d : Nat} (hd : o.dst ≠ some d) : f' d = f d := by
  have key : ∀ v, updO f o.dst v d = f d := by
    intro v
    cases ho : o.dst with
    | none => rfl
    | some e => exact upd_ne _ _ (fun he => hd (by rw [ho, he]))
  obtain ⟨b, _, h⟩ := h
  cases b with
  | false =>
    simp only [Bool.false_eq_true, if_false] at h
    rw [h.1]; exact key _
  | true =>
    simp only [if_true] at h
    obtain ⟨r, _, _, rfl, _, _, _, h7⟩ := h
    unfold nextF
    rw [h7 (by trivial)]; exact key _
theorem DoesB.sub {cx : Cx} {ops : Array Oper} {nb : Bool} {k : Nat} {o : Oper} {g f g' : Fenv} {st st' : List SO} (s : Sub g f) (h : DoesB cx ops nb k o g st g' st') :
    ∃ f', DoesB cx ops nb k o f st f' st' ∧ Sub g' f' := by
  obtain ⟨b, hg, h⟩ := h
  cases b with
  | false =>
    simp only [Bool.false_eq_true, if_false] at h
    refine ⟨updO f o.dst (.tup []), ⟨false, hg.sub s, by simp [h.2]⟩, ?_⟩
    rw [h.1]; exact s.updO _ _
  | true =>
    simp only [if_true] at h
    obtain ⟨r, hx, hside, rfl, rfl, h0, h1, h2⟩ := h
    refine ⟨nextF f o r, ⟨true, hg.sub s, ?_⟩, (s.updB _).updO _ _⟩
    simp only [if_true]
    exact ⟨r, hx.sub s, hside.sub s, rfl, rfl, fun hk s' => (h0 hk s').sub s, h1.sub s, h2⟩

def regB (cx : Cx) (ops : Array Oper) (nb : Bool) (eff : Nat → Nat) : List Oper → Nat → Fenv → List SO → (Fenv → List SO → Prop) → Prop
  | [], _, f, st, K => K f st
  | o :: rest, k, f, st, K => ∃ f' st', DoesB cx ops nb (eff k) o f st f' st' ∧ regB cx ops nb eff rest (k + 1) f' st' K

section
variable {cx : Cx} {ops : Array Oper} {nb nb' : Bool} {eff : Nat → Nat} {K K' : Fenv → List SO → Prop}
theorem regL_of_regB : ∀ (l : List Oper) (k : Nat) (f : Fenv) (st : List SO), regB cx ops nb eff l k f st K → regL cx ops eff l k f st K
  | [], _, _, _, h => h
  | _ :: rest, _, _, _, ⟨f', st', hd, h⟩ => ⟨f', st', hd.does, regL_of_regB rest _ _ _ h⟩
theorem regB_weak (hn : nb' = true → nb = true) : ∀ (l : List Oper) (k : Nat) (f : Fenv) (st : List SO), regB cx ops nb eff l k f st K → regB cx ops nb' eff l k f st K
  | [], _, _, _, h => h
  | _ :: rest, _, _, _, ⟨f', st', hd, h⟩ => ⟨f', st', hd.weak hn, regB_weak hn rest _ _ _ h⟩
theorem regB_sub : ∀ (l : List Oper) (k : Nat) (g f : Fenv) (st : List SO), Sub g f →
    regB cx ops nb eff l k g st K → regB cx ops nb eff l k f st (fun f' st => ∃ g', Sub g' f' ∧ K g' st)
  | [], _, g, _, _, s, h => ⟨g, s, h⟩
  | _ :: rest, _, _, _, _, s, ⟨_, st', hd, h⟩ => by
    obtain ⟨f', hd', s'⟩ := hd.sub s
    exact ⟨f', st', hd', regB_sub rest _ _ _ _ s' h⟩
theorem regB_mono (hK : ∀ f st, K f st → K' f st) : ∀ (l : List Oper) (k : Nat) (f : Fenv) (st : List SO), regB cx ops nb eff l k f st K → regB cx ops nb eff l k f st K'
  | [], _, _, _, h => hK _ _ h
  | _ :: rest, _, _, _, ⟨f', st', hd, h⟩ => ⟨f', st', hd, regB_mono hK rest _ _ _ h⟩
theorem regB_append (l2 : List Oper) : ∀ (l1 : List Oper) (k : Nat) (f : Fenv) (st : List SO),
    regB cx ops nb eff l1 k f st (fun f' st' => regB cx ops nb eff l2 (k + l1.length) f' st' K) → regB cx ops nb eff (l1 ++ l2) k f st K
  | [], _, _, _, h => h
  | _ :: rest, k, _, _, ⟨f', st', hd, h⟩ => ⟨f', st', hd, regB_append l2 rest (k + 1) f' st' (by
      have e : k + 1 + rest.length = k + (rest.length + 1) := by omega
      rw [e]; exact h)⟩
theorem regB_frame : ∀ (l : List Oper) (k : Nat) (f : Fenv) (st : List SO), regB cx ops true eff l k f st K →
    regB cx ops true eff l k f st (fun f' st' => K f' st' ∧ ∀ d, (∀ o ∈ l, o.dst ≠ some d) → f' d = f d)
  | [], _, _, _, h => ⟨h, fun _ _ => rfl⟩
  | o :: rest, k, f, st, ⟨f', st', hd, h⟩ => ⟨f', st', hd, regB_mono (fun f2 st2 h2 => ⟨h2.1, fun d hdd => by
      rw [h2.2 d (fun o' ho' => hdd o' (List.mem_cons_of_mem _ ho')), hd.frame (hdd o (List.mem_cons_self ..))]⟩) rest _ _ _ (regB_frame rest _ _ _ h)⟩
end

/-! ### Items -/
inductive Itm where
  | one (o : LOp)
  | blk (g : Nat) (want : Bool) (ops : List Itm) (pk : LOp)

mutual
def Itm.flat : Itm → List LOp
  | .one o => [o]
  | .blk _ _ ops pk => flats ops ++ [pk]
def flats : List Itm → List LOp
  | [] => []
  | x :: r => x.flat ++ flats r
end

/-- The guards of a block's operations, and of what they guard. -/
def skB (g : Nat) (want : Bool) : List LOp → Nat → List Nat → Bool
  | [], _, _ => true
  | o :: r, i, l => (match o.guard with
      | some (j, w) => (j == g && w == want) || l.contains j
      | none => false) && skB g want r (i + 1) (if o.dst.isSome then i :: l else l)

def isB (b : Bool) : Operand → Bool
  | .const (.bool c) => c == b
  | _ => false
def pkB (t : Nat) (want : Bool) : Op → Bool
  | .pick (.tmp t') a b => t' == t && (if want then isB false b else isB true a)
  | _ => false
def pkG (dsts : List (Option Nat)) (ops : List LOp) : Option (Nat × Bool) → Bool
  | none => true
  | some (j, _) => match dsts[j]? with
    | some (some t) => ops.all fun o => o.dst != some t
    | _ => false
mutual
def Itm.ok (dsts : List (Option Nat)) : Itm → Nat → Bool
  | .one _, _ => true
  | .blk g want ops pk, i => skB g want (flats ops) i [] && oks dsts ops i && pkG dsts (flats ops) pk.guard && match dsts[g]? with
      | some (some t) => pkB t want pk.op && (flats ops).all fun o => o.dst != some t
      | _ => false
def oks (dsts : List (Option Nat)) : List Itm → Nat → Bool
  | [], _ => true
  | x :: r, i => x.ok dsts i && oks dsts r (i + x.flat.length)
end

def undefs : List LOp → Env → Env
  | [], e => e
  | o :: r, e => undefs r (setO e o.dst .undef)

def mrg (want b y : Bool) : Bool := if want then b && y else b || y
/-- Some boolean: closed to simp. -/
def exY (P : Bool → Prop) : Prop := ∃ y, P y
theorem exY_i {P : Bool → Prop} (y : Bool) (h : P y) : exY P := ⟨y, h⟩
/-- What the pick takes if the block was carried out. -/
def pickY (want : Bool) (op : Op) (e : Env) : V :=
  match op with
  | .pick _ a b => if want then ov e a else ov e b
  | _ => .undef

section
variable (W : LOp → Env → List SO → (Nat → Res → Prop) → Prop) (dsts : List (Option Nat)) (ks : List Nat) (dk : Nat)
mutual
def itW (inB : Bool) : Itm → Nat → Env → List SO → (Env → List SO → Prop) → Prop
  | .one o, i, e, st, K => guardW dsts o.guard e fun b =>
      match b with
      | true => W o e st fun c r => clsOk c (ks.getD i dk) = true ∧ (inB = true → r.bu = none) ∧ K (setO (setB e r.bu) o.dst r.v) r.st
      | false => K (setO e o.dst (.tup [])) st
  | .blk g want ops pk, i, e, st, K => guardW dsts pk.guard e fun bb => bb = true ∧ clsOk 0 (ks.getD (i + (flats ops).length) dk) = true ∧
      onO (dsts[g]?) fun d => match d with
      | some (some t) => onV (getE e t) fun v => match v with
        | .c (.bool b) => exY fun y : Bool => (b = want → itsW true ops i ((t, .c (.bool want)) :: e) st fun e' st' => st' = st ∧ pickY want pk.op e' = .c (.bool y)) ∧
            K (setO (undefs (flats ops) e) pk.dst (.c (.bool (mrg want b y)))) st
        | _ => False
      | _ => False
def itsW (inB : Bool) : List Itm → Nat → Env → List SO → (Env → List SO → Prop) → Prop
  | [], _, e, st, K => K e st
  | x :: r, i, e, st, K => itW inB x i e st fun e st => itsW inB r (i + x.flat.length) e st K
end
end

theorem getE_undefs (l : List LOp) (e : Env) (d : Nat) : getE (undefs l e) d = .undef ∨ (getE (undefs l e) d = getE e d ∧ ∀ o ∈ l, o.dst ≠ some d) := by
  induction l generalizing e with
  | nil => exact .inr ⟨rfl, by simp⟩
  | cons o r ih =>
    simp only [undefs]
    rcases ih (setO e o.dst .undef) with h | ⟨h, h2⟩
    · exact .inl h
    · rw [h, get_setO]
      cases ho : o.dst with
      | none => exact .inr ⟨rfl, fun o' ho' => by
          rcases List.mem_cons.1 ho' with rfl | h3
          · rw [ho]; simp
          · exact h2 o' h3⟩
      | some t =>
        by_cases ht : d = t
        · subst ht; left; exact upd_same _ _ _
        · refine .inr ⟨upd_ne _ _ ht, fun o' ho' => ?_⟩
          rcases List.mem_cons.1 ho' with rfl | h3
          · rw [ho]; simp [Ne.symm ht]
          · exact h2 o' h3

theorem opnd_sub {g f : Fenv} (s : Sub g f) {x : Operand} {c : C} (h : opnd g x = .c c) : opnd f x = .c c := by
  cases x with
  | tmp t =>
    simp only [opnd] at *
    rcases s t with h1 | h1
    · rw [h1] at h; cases h
    · rw [← h1]; exact h
  | _ => exact h

/-- A block that is not carried out. -/
theorem skip_run {cx : Cx} {ops : Array Oper} {eff : Nat → Nat} {g t : Nat} {want : Bool} (ht : (ops[g]?).bind (·.dst) = some t) :
    ∀ (l : List Oper) (i : Nat) (seen : List Nat) (f : Fenv) (st : List SO), skB g want (l.map lop) i seen = true → (∀ j o, l[j]? = some o → ops[i + j]? = some o) →
      (∀ o ∈ l, o.dst ≠ some t) → f t = .c (.bool (!want)) → (∀ j ∈ seen, ∃ d, (ops[j]?).bind (·.dst) = some d ∧ f d = .tup []) →
      regB cx ops true eff l i f st (fun _ st' => st' = st)
  | [], _, _, _, _, _, _, _, _, _ => rfl
  | o :: rest, i, seen, f, st, hs, hl, hn, hf, hseen => by
    simp only [List.map_cons, skB, Bool.and_eq_true] at hs
    obtain ⟨hg, hs⟩ := hs
    have hgo : (lop o).guard = o.guard := rfl
    have hdo : (lop o).dst = o.dst := rfl
    rw [hgo] at hg
    rw [hdo] at hs
    have hgu : GuardA ops o f false := by
      unfold GuardA
      cases ho : o.guard with
      | none => rw [ho] at hg; simp at hg
      | some p =>
        obtain ⟨j, w⟩ := p
        rw [ho] at hg
        simp only [Bool.or_eq_true, Bool.and_eq_true, beq_iff_eq, List.contains_iff_mem] at hg
        rcases hg with ⟨rfl, rfl⟩ | hj
        · exact ⟨t, ht, .inl ⟨_, hf, by cases w <;> rfl⟩⟩
        · obtain ⟨d, hd, hfd⟩ := hseen j hj
          exact ⟨d, hd, .inr ⟨hfd, rfl⟩⟩
    have hi : ops[i]? = some o := hl 0 o rfl
    refine ⟨updO f o.dst (.tup []), st, ⟨false, hgu, by simp⟩, ?_⟩
    refine skip_run ht rest (i + 1) _ _ _ hs (fun j o' ho' => ?_) (fun o' ho' => hn o' (List.mem_cons_of_mem _ ho')) ?_ ?_
    · have := hl (j + 1) o' ho'
      simpa [Nat.add_assoc, Nat.add_comm 1 j] using this
    · have h1 := hn o (List.mem_cons_self ..)
      cases ho : o.dst with
      | none => exact hf
      | some d => rw [ho] at h1; exact (upd_ne _ _ (fun h => h1 (by rw [h]))).trans hf
    · intro j hj
      have old : j ∈ seen → ∃ d, (ops[j]?).bind (·.dst) = some d ∧ updO f o.dst (.tup []) d = .tup [] := by
        intro hj
        obtain ⟨d, hd, hfd⟩ := hseen j hj
        refine ⟨d, hd, ?_⟩
        cases ho : o.dst with
        | none => exact hfd
        | some e =>
          simp only [updO, upd]
          split
          · rfl
          · exact hfd
      cases ho : o.dst with
      | none => rw [ho] at hj; simp only [Option.isSome_none, Bool.false_eq_true, if_false] at hj; rw [← ho]; exact old hj
      | some e =>
        rw [ho] at hj
        simp only [Option.isSome_some, if_true, List.mem_cons] at hj
        rcases hj with rfl | hj
        · exact ⟨e, by rw [hi]; exact ho, upd_same _ _ _⟩
        · rw [← ho]; exact old hj

section
variable {cx : Cx} {ops : Array Oper} {W : LOp → Env → List SO → (Nat → Res → Prop) → Prop}
  (hW : ∀ lo e st K, W lo e st K → ∃ c r, K c r ∧ OpSound cx lo.op (getE e) st c r) {ks : List Nat} {dk : Nat}
include hW

/-- One operation. -/
theorem one_sound {inB : Bool} {o : Oper} {i : Nat} {e : Env} {st : List SO} {K : Env → List SO → Prop}
    (h : itW W (ops.toList.map (·.dst)) ks dk inB (.one (lop o)) i e st K) :
    ∃ e' f' st', DoesB cx ops inB (ks.getD i dk) o (getE e) st f' st' ∧ f' = getE e' ∧ K e' st' := by
  simp only [itW] at h
  have run : (W (lop o) e st fun c r => clsOk c (ks.getD i dk) = true ∧ (inB = true → r.bu = none) ∧ K (setO (setB e r.bu) o.dst r.v) r.st) → GuardA ops o (getE e) true →
      ∃ e' f' st', DoesB cx ops inB (ks.getD i dk) o (getE e) st f' st' ∧ f' = getE e' ∧ K e' st' := by
    intro h1 hg
    obtain ⟨c, r, ⟨hle, hbu, h2⟩, hs⟩ := hW _ _ _ _ h1
    refine ⟨_, nextF (getE e) o r, r.st, ⟨true, hg, ?_⟩, ?_, h2⟩
    · simp only [if_true]
      exact ⟨r, hs.x o rfl, hs.side o rfl, rfl, rfl, (hs.cls hle o rfl).1, (hs.cls hle o rfl).2, hbu⟩
    · rw [get_setO, get_setB]; rfl
  have skip : K (setO e o.dst (.tup [])) st → GuardA ops o (getE e) false →
      ∃ e' f' st', DoesB cx ops inB (ks.getD i dk) o (getE e) st f' st' ∧ f' = getE e' ∧ K e' st' := by
    intro h1 hg
    refine ⟨_, updO (getE e) o.dst (.tup []), st, ⟨false, hg, by simp⟩, ?_, h1⟩
    rw [get_setO]
  unfold guardW at h
  simp only [onO, onV] at h
  have hlg : (lop o).guard = o.guard := rfl
  rw [hlg] at h
  cases hgd : o.guard with
  | none =>
    rw [hgd] at h
    exact run h (by unfold GuardA; rw [hgd])
  | some gw =>
    obtain ⟨j, want⟩ := gw
    rw [hgd] at h
    simp only at h
    cases hd : (ops.toList.map (·.dst))[j]? with
    | none => rw [hd] at h; exact h.elim
    | some dd =>
      rw [hd] at h
      cases dd with
      | none => exact h.elim
      | some t =>
        have hb : (ops[j]?).bind (·.dst) = some t := by
          simp only [List.getElem?_map, Array.getElem?_toList] at hd
          cases ho : ops[j]? with
          | none => rw [ho] at hd; cases hd
          | some oo => rw [ho] at hd; simp at hd; simp [hd]
        simp only at h
        split at h
        · next b hv =>
          by_cases hbw : b = want
          · refine run (h.1 hbw) ?_
            unfold GuardA
            rw [hgd]
            exact ⟨t, hb, .inl ⟨b, hv, by simp [hbw]⟩⟩
          · have hbw' : b = !want := by cases b <;> cases want <;> simp_all
            refine skip (h.2 hbw') ?_
            unfold GuardA
            rw [hgd]
            exact ⟨t, hb, .inl ⟨b, hv, by simp [hbw']⟩⟩
        · next hv =>
          refine skip h ?_
          unfold GuardA
          rw [hgd]
          exact ⟨t, hb, .inr ⟨hv, rfl⟩⟩
        · exact h.elim

omit hW in
theorem isB_spec {b : Bool} {x : Operand} (h : isB b x = true) : x = .const (.bool b) := by
  unfold isB at h
  split at h
  · next c => have h1 : c = b := by simpa using h
              rw [h1]
  · cases h

omit hW in
theorem guardW_true {dsts : List (Option Nat)} {gd : Option (Nat × Bool)} {e : Env} {X : Prop} (h : guardW dsts gd e fun bb => bb = true ∧ X) :
    X ∧ (gd = none ∨ ∃ j w t', gd = some (j, w) ∧ dsts[j]? = some (some t') ∧ getE e t' = .c (.bool w)) := by
  unfold guardW at h
  simp only [onO, onV] at h
  cases gd with
  | none => exact ⟨h.2, .inl rfl⟩
  | some p =>
    obtain ⟨j, w⟩ := p
    simp only at h
    split at h
    · next t' hd =>
      split at h
      · next b hb =>
        by_cases hbw : b = w
        · exact ⟨(h.1 hbw).2, .inr ⟨j, w, t', rfl, hd, by rw [hb, hbw]⟩⟩
        · have h2 : b = !w := by cases b <;> cases w <;> first | rfl | exact absurd rfl hbw
          have h3 := (h.2 h2).1
          cases h3
      · cases h.1
      · exact h.elim
    · exact h.elim

omit hW in
/-- The pick behind a block. -/
theorem pick_run {inB : Bool} {t : Nat} {want b y : Bool} {pk : Oper} {i : Nat} {f : Fenv} {st : List SO}
    (hb : f t = .c (.bool b)) (hg : GuardA ops pk f true) (hcl : clsOk 0 (ks.getD i dk) = true)
    (hop : ∃ a c, pk.op = .pick (.tmp t) a c ∧ (want = true → c = .const (.bool false)) ∧ (want = false → a = .const (.bool true)) ∧
      (b = want → (want = true → opnd f a = .c (.bool y)) ∧ (want = false → opnd f c = .c (.bool y)))) :
    DoesB cx ops inB (ks.getD i dk) pk f st (updO f pk.dst (.c (.bool (mrg want b y)))) st := by
  obtain ⟨a, c, hp, h1, h2, h3⟩ := hop
  have hc : opnd f (.tmp t) = .c (.bool b) := by simp only [opnd, hb, slotV]
  have hval : (if b then opnd f a else opnd f c) = .c (.bool (mrg want b y)) ∧ (b = true → plainV (opnd f a) = true) ∧ (b = false → plainV (opnd f c) = true) := by
    cases want
    · have ha := h2 rfl
      subst ha
      cases b
      · have hy := (h3 rfl).2 rfl
        rw [hy]
        exact ⟨rfl, fun h => (by cases h), fun _ => rfl⟩
      · exact ⟨rfl, fun _ => rfl, fun h => (by cases h)⟩
    · have hc' := h1 rfl
      subst hc'
      cases b
      · exact ⟨rfl, fun h => (by cases h), fun _ => rfl⟩
      · have hy := (h3 rfl).1 rfl
        rw [hy]
        exact ⟨rfl, fun _ => rfl, fun h => (by cases h)⟩
  have hs := s_pick (cx := cx) (st := st) hc hval.2.1 hval.2.2
  refine ⟨true, hg, ?_⟩
  simp only [if_true]
  refine ⟨_, hs.x pk hp, hs.side pk hp, ?_, rfl, fun _ s => hs.c0 (.inl rfl) pk hp s, (hs.cls hcl pk hp).2, fun _ => rfl⟩
  unfold nextF
  simp only [updB, hval.1]

mutual
theorem itW_sound {inB : Bool} : ∀ (x : Itm) (l : List Oper) (i : Nat) (e : Env) (st : List SO) (K : Env → List SO → Prop),
    l.map lop = x.flat → (∀ j o, l[j]? = some o → ops[i + j]? = some o) → x.ok (ops.toList.map (·.dst)) i = true →
    itW W (ops.toList.map (·.dst)) ks dk inB x i e st K →
    regB cx ops inB (fun k => ks.getD k dk) l i (getE e) st (fun f' st' => ∃ e', Sub (getE e') f' ∧ K e' st')
  | .one o, l, i, e, st, K, hl, hj, hok, h => by
    cases l with
    | nil => simp [Itm.flat] at hl
    | cons o' r =>
      simp only [Itm.flat, List.map_cons, List.cons.injEq, List.map_eq_nil_iff] at hl
      obtain ⟨rfl, rfl⟩ := hl
      obtain ⟨e', f', st', hd, rfl, hk⟩ := one_sound hW h
      exact ⟨_, _, hd, e', .refl _, hk⟩
  | .blk g want xs pk, l, i, e, st, K, hl, hj, hok, h => by
    simp only [Itm.flat] at hl
    obtain ⟨l1, l2, rfl, hl1, hl2⟩ := List.map_eq_append_iff.1 hl
    cases l2 with
    | nil => simp at hl2
    | cons pk' r =>
      simp only [List.map_cons, List.cons.injEq, List.map_eq_nil_iff] at hl2
      obtain ⟨rfl, rfl⟩ := hl2
      simp only [Itm.ok, Bool.and_eq_true] at hok
      obtain ⟨⟨⟨hsk, hoks⟩, hpkg⟩, hfr⟩ := hok
      simp only [itW, onO, onV] at h
      cases hd : (ops.toList.map (·.dst))[g]? with
      | none => rw [hd] at hfr; simp at hfr
      | some dd =>
        cases dd with
        | none => rw [hd] at hfr; simp at hfr
        | some t =>
          rw [hd] at hfr h
          simp only [List.all_eq_true, bne_iff_ne, ne_eq, Bool.and_eq_true] at hfr
          obtain ⟨⟨hcl, h⟩, hpg⟩ := guardW_true h
          have hlen1 : (flats xs).length = l1.length := by rw [← hl1, List.length_map]
          rw [hlen1] at hcl
          have ht : (ops[g]?).bind (·.dst) = some t := by
            simp only [List.getElem?_map, Array.getElem?_toList] at hd
            cases ho : ops[g]? with
            | none => rw [ho] at hd; cases hd
            | some oo => rw [ho] at hd; simp at hd; simp [hd]
          have hmem : ∀ o ∈ l1, lop o ∈ flats xs := fun o ho => by rw [← hl1]; exact List.mem_map_of_mem ho
          have hnt : ∀ o ∈ l1, o.dst ≠ some t := fun o ho => hfr.2 _ (hmem o ho)
          simp only at h
          split at h
          case h_2 => exact h.elim
          next b hb =>
          obtain ⟨y, hrun, hK⟩ := h
          have hj1 : ∀ j o, l1[j]? = some o → ops[i + j]? = some o := fun j o ho => hj j o (by rw [List.getElem?_append_left (lt_of_some ho)]; exact ho)
          -- what follows the block
          have fin : ∀ f', (∀ d, (∀ o ∈ l1, o.dst ≠ some d) → f' d = getE e d) → (b = want → ∃ e', Sub (getE e') f' ∧ pickY want pk'.op e' = .c (.bool y)) →
              regB cx ops inB (fun k => ks.getD k dk) [pk'] (i + l1.length) f' st (fun f' st' => ∃ e', Sub (getE e') f' ∧ K e' st') := by
            intro f' hfrm hy
            have hft : f' t = .c (.bool b) := by rw [hfrm t hnt, hb]
            have hgA : GuardA ops pk' f' true := by
              have hgo : (lop pk').guard = pk'.guard := rfl
              rw [hgo] at hpg hpkg
              unfold GuardA
              rcases hpg with hpg | ⟨j, w, t', hpg, hdt, hgt⟩
              · rw [hpg]
              · rw [hpg] at hpkg ⊢
                simp only [pkG, hdt, List.all_eq_true, bne_iff_ne, ne_eq] at hpkg
                refine ⟨t', ?_, .inl ⟨w, ?_, by simp⟩⟩
                · simp only [List.getElem?_map, Array.getElem?_toList] at hdt
                  cases ho : ops[j]? with
                  | none => rw [ho] at hdt; cases hdt
                  | some oo => rw [ho] at hdt; simp at hdt; simp [hdt]
                · rw [hfrm t' (fun o ho => hpkg _ (hmem o ho)), hgt]
            have hop : ∃ a c, pk'.op = .pick (.tmp t) a c ∧ (want = true → c = .const (.bool false)) ∧ (want = false → a = .const (.bool true)) ∧
                (b = want → (want = true → opnd f' a = .c (.bool y)) ∧ (want = false → opnd f' c = .c (.bool y))) := by
              have h1 := hfr.1
              have hlo : (lop pk').op = pk'.op := rfl
              rw [hlo] at h1
              unfold pkB at h1
              split at h1
              case h_2 => cases h1
              next t' a c hop =>
              simp only [Bool.and_eq_true, beq_iff_eq] at h1
              obtain ⟨rfl, h1⟩ := h1
              refine ⟨a, c, hop, fun hw => ?_, fun hw => ?_, fun hbw => ?_⟩
              · rw [hw] at h1; exact isB_spec h1
              · rw [hw] at h1; exact isB_spec h1
              · obtain ⟨e', hs, hp⟩ := hy hbw
                rw [hop] at hp
                simp only [pickY] at hp
                exact ⟨fun hw => by rw [hw] at hp; exact opnd_sub hs hp, fun hw => by rw [hw] at hp; exact opnd_sub hs hp⟩
            refine ⟨_, st, pick_run hft hgA hcl hop, setO (undefs (flats xs) e) pk'.dst (.c (.bool (mrg want b y))), ?_, hK⟩
            rw [get_setO]
            refine Sub.updO (fun d => ?_) _ _
            rcases getE_undefs (flats xs) e d with h1 | ⟨h1, h2⟩
            · exact .inl h1
            · refine .inr (h1.trans (hfrm d fun o ho => ?_).symm)
              exact h2 _ (hmem o ho)
          by_cases hbw : b = want
          · have h1 := itsW_sound (inB := true) xs l1 i _ st _ hl1 hj1 hoks (hrun hbw)
            have he : getE ((t, .c (.bool want)) :: e) = getE e := by
              rw [get_cons]; funext d
              by_cases hdt : d = t
              · subst hdt; rw [upd_same, hb, hbw]
              · rw [upd_ne _ _ hdt]
            rw [he] at h1
            refine regB_append [pk'] l1 i _ _ (regB_mono ?_ _ _ _ _ (regB_weak (fun _ => rfl) _ _ _ _ (regB_frame _ _ _ _ h1)))
            rintro f' st' ⟨⟨e', hs, rfl, hp⟩, hfrm⟩
            exact fin f' hfrm fun _ => ⟨e', hs, hp⟩
          · have hbw' : b = !want := by cases b <;> cases want <;> first | rfl | exact absurd rfl hbw
            have h1 := skip_run (cx := cx) (eff := fun k => ks.getD k dk) ht l1 i [] (getE e) st (by rw [hl1]; exact hsk) hj1 hnt (by rw [hb, hbw']) (by simp)
            · refine regB_append [pk'] l1 i _ _ (regB_mono ?_ _ _ _ _ (regB_weak (fun _ => rfl) _ _ _ _ (regB_frame _ _ _ _ h1)))
              rintro f' st' ⟨rfl, hfrm⟩
              exact fin f' hfrm fun h => absurd h hbw
theorem itsW_sound {inB : Bool} : ∀ (xs : List Itm) (l : List Oper) (i : Nat) (e : Env) (st : List SO) (K : Env → List SO → Prop),
    l.map lop = flats xs → (∀ j o, l[j]? = some o → ops[i + j]? = some o) → oks (ops.toList.map (·.dst)) xs i = true →
    itsW W (ops.toList.map (·.dst)) ks dk inB xs i e st K →
    regB cx ops inB (fun k => ks.getD k dk) l i (getE e) st (fun f' st' => ∃ e', Sub (getE e') f' ∧ K e' st')
  | [], l, i, e, st, K, hl, hj, hok, h => by
    have _ := @hW
    simp only [flats, List.map_eq_nil_iff] at hl
    subst hl
    exact ⟨e, .refl _, by simpa only [itsW] using h⟩
  | x :: r, l, i, e, st, K, hl, hj, hok, h => by
    simp only [flats] at hl
    obtain ⟨l1, l2, rfl, hl1, hl2⟩ := List.map_eq_append_iff.1 hl
    simp only [oks, Bool.and_eq_true] at hok
    simp only [itsW] at h
    have hlen : x.flat.length = l1.length := by rw [← hl1, List.length_map]
    have h1 := itW_sound x l1 i e st _ hl1 (fun j o ho => hj j o (by rw [List.getElem?_append_left (lt_of_some ho)]; exact ho)) hok.1 h
    refine regB_append l2 l1 i _ _ (regB_mono ?_ l1 i _ _ h1)
    rintro f' st' ⟨e', hs, h2⟩
    rw [hlen] at h2 hok
    have h3 := itsW_sound r l2 (i + l1.length) e' st' K hl2 (fun j o ho => by
      rw [Nat.add_assoc]
      exact hj _ o (by rw [List.getElem?_append_right (by omega)]; simpa using ho)) hok.2 h2
    refine regB_mono ?_ _ _ _ _ (regB_sub l2 _ _ _ _ hs h3)
    rintro f2 st2 ⟨g', hs', e2, hs2, hk⟩
    exact ⟨e2, hs2.trans hs', hk⟩
end
end

/-! ### Code -/
inductive MCode where
  | skip
  | reg (id : Nat) (ops : List Itm) (draw : Bool)
  | seq (a b : MCode)
  | cond (c : Operand) (thn els : MCode)
  | block (id : Nat) (body : MCode)
  | loop (body : MCode)
  | exit (id : Nat)
  | ret
  | rng (g : Operand) (ps : Array Tmp) (assign body : MCode)
  | other

def MCode.flat : MCode → LCode
  | .skip => .skip
  | .reg id ops draw => .reg id (flats ops) draw
  | .seq a b => .seq a.flat b.flat
  | .cond c a b => .cond c a.flat b.flat
  | .block id b => .block id b.flat
  | .loop b => .loop b.flat
  | .exit id => .exit id
  | .ret => .ret
  | .rng g ps a b => .rng g ps a.flat b.flat
  | .other => .other

def MCode.ok : MCode → Bool
  | .reg _ ops _ => oks ((flats ops).map (·.dst)) ops 0
  | .seq a b => a.ok && b.ok
  | .cond _ a b => a.ok && b.ok
  | .block _ b => b.ok
  | .loop b => b.ok
  | .rng _ _ a b => a.ok && b.ok
  | _ => true

def TriM (cx : Cx) (ks : Nat → List Nat) (c : MCode) (e : Env) (st : List SO) (Q : Exit → Env → List SO → Prop) : Prop :=
  c.ok = true → TriX cx ks c.flat e st Q

class KQ where
  q : Exit → Env → List SO → Prop
/-- A loop; what follows is closed to simp. -/
def loopM (cx : Cx) (_an : Ann) (ks : Nat → List Nat) (b : MCode) (e : Env) (st : List SO) [Q : KQ] : Prop := TriM cx ks (.loop b) e st Q.q

/-- A loop over a function; likewise. -/
def rngM (cx : Cx) (_an : Ann) (ks : Nat → List Nat) (g : Operand) (ps : Array Tmp) (a b : MCode) (e : Env) (st : List SO) [Q : KQ] : Prop := TriM cx ks (.rng g ps a b) e st Q.q

/-- What is to be frozen: a slot d; or, at d = 1000 + 20 * slot + k, the k-th cell of the box at that slot. -/
def frzAt (e : Env) (d : Nat) : V :=
  if 1000 ≤ d then (match getE e ((d - 1000) / 20) with
    | .box cs => (match cs[(d - 1000) % 20]? with
      | some (.own id ep) => .own id ep
      | _ => .undef)
    | _ => .undef) else getE e d
theorem frzAt_box {e : Env} {d : Nat} {cs : List V} (h : frzAt e d = .box cs) : getE e d = .box cs := by
  unfold frzAt at h
  split at h
  · split at h
    · split at h <;> cases h
    · cases h
  · exact h
/-- Arrays that are for all to read from now on. -/
def frzW : List Nat → Env → List SO → (Env → List SO → Prop) → Prop
  | [], e, st, K => K e st
  | d :: r, e, st, K => onV (frzAt e d) fun v => match v with
    | .own id ep => onO (st[id]?) fun vo => match vo with
      | some (.arr _ _ ep' xs) => ep' = ep ∧ frzW r (frzE id ep xs e) (st.set id .dead) K
      | _ => False
    | .box cs => frzW r (escE d st.length e) (st ++ [.box cs]) K
    | _ => frzW r e st K
theorem frzW_sound {cx : Cx} {ks : Nat → List Nat} {c : LCode} {Q : Exit → Env → List SO → Prop} {K : Env → List SO → Prop} (hK : ∀ e st, K e st → TriX cx ks c e st Q) :
    ∀ (l : List Nat) (e : Env) (st : List SO), frzW l e st K → TriX cx ks c e st Q
  | [], e, st, h => hK e st h
  | d :: r, e, st, h => by
    simp only [frzW, onV, onO] at h
    split at h
    · next id ep _ =>
      split at h
      · next ety esz ep' xs hs =>
        obtain ⟨rfl, h⟩ := h
        exact triL_weak (weakE_freeze hs) (frzW_sound hK r _ _ h)
      · exact h.elim
    · next cs hb => exact triL_weak (weakE_escape (frzAt_box hb)) (frzW_sound hK r _ _ h)
    · exact frzW_sound hK r e st h

/-- The condition of a piece of code. -/
def wpM (cx : Cx) (an : Ann) (ks : Nat → List Nat) : MCode → Env → List SO → (Exit → Env → List SO → Prop) → Prop
  | .skip, e, st, Q => Q .normal e st
  | .reg id ops draw, e, st, Q => frzW ((an.frz.lookup id).getD []) e st fun e st => (draw = true → cx.P.follows .mixedOrders = true) ∧
      itsW (opW cx an) ((flats ops).map (·.dst)) (if draw then ks id else []) (if draw then 0 else 2) false ops 0 (cleanE ((flats ops).map (·.dst)) e) st (Q .normal)
  | .seq a b, e, st, Q => wpM cx an ks a e st (thenE (fun e st => wpM cx an ks b e st Q) Q)
  | .cond c a b, e, st, Q => onV (ov e c) fun v => match v with
    | .c (.bool g) => (g = true → wpM cx an ks a e st Q) ∧ (g = false → wpM cx an ks b e st Q)
    | .anyb => wpM cx an ks a e st Q ∧ wpM cx an ks b e st Q
    | _ => False
  | .block id b, e, st, Q => wpM cx an ks b e st (blockE id Q)
  | .loop b, e, st, Q => @loopM cx an ks b e st ⟨Q⟩
  | .exit id, e, st, Q => Q (.exit id) e st
  | .ret, e, st, Q => frzW ((an.frz.lookup 999).getD []) e st fun e st => Q .ret e st
  | .rng g ps a b, e, st, Q => @rngM cx an ks g ps a b e st ⟨Q⟩
  | .other, _, _, _ => False

theorem regM_sound {cx : Cx} {W : LOp → Env → List SO → (Nat → Res → Prop) → Prop}
    (hW : ∀ lo e st K, W lo e st K → ∃ c r, K c r ∧ OpSound cx lo.op (getE e) st c r) {ks : Nat → List Nat} {id : Nat} {xs : List Itm} {draw : Bool} {e : Env} {st : List SO}
    {Q : Exit → Env → List SO → Prop} (hok : oks ((flats xs).map (·.dst)) xs 0 = true) (hm : draw = true → cx.P.follows .mixedOrders = true)
    (h : itsW W ((flats xs).map (·.dst)) (if draw then ks id else []) (if draw then 0 else 2) false xs 0 (cleanE ((flats xs).map (·.dst)) e) st (Q .normal)) :
    TriX cx ks (.reg id (flats xs) draw) e st Q := by
  intro c hl hB
  cases c <;> simp [light] at hl
  case region id' oo draw' =>
    obtain ⟨rfl, hops, rfl⟩ := hl
    obtain ⟨l⟩ := oo
    have hops : l.map lop = flats xs := hops
    have hd : (flats xs).map (·.dst) = l.toArray.toList.map (·.dst) := by rw [← hops, List.map_map]; rfl
    rw [hd] at h hok
    have h1 := itsW_sound hW (ops := l.toArray) xs l 0 _ st _ hops (fun j o ho => by simpa using ho) hok h
    rw [show cleanE (l.toArray.toList.map (·.dst)) e = cleanE (l.map (·.dst)) e from rfl, get_cleanE] at h1
    have h2 := regL_of_regB _ _ _ _ h1
    -- a weaker environment at the end
    have wk : ∀ {c : Code}, Tri cx c (getE e) st (thenT (fun f' st' => ∃ e', Sub (getE e') f' ∧ Q .normal e' st') (fun x f st => ∃ e', f = getE e' ∧ Q x e' st)) →
        Tri cx c (getE e) st (fun x f st => ∃ e', f = getE e' ∧ Q x e' st) := by
      intro c ht γ0 w0 a w hs ro n hr
      refine wpIn_mono (ht γ0 w0 a w hs ro n hr) ?_
      rintro x a' w' ⟨f', st', hq, hs'⟩
      cases x with
      | normal =>
        obtain ⟨e', hsub, hq⟩ := hq
        exact ⟨getE e', st', ⟨e', rfl, hq⟩, weak_env hsub γ0 w0 a' w' hs'⟩
      | _ => exact ⟨f', st', hq, hs'⟩
    cases draw' with
    | true =>
      simp only [codeB, if_true] at hB
      exact wk (tri_draw (ks id') (hm rfl) hB (by simpa using h2))
    | false =>
      simp only [codeB, Bool.false_eq_true, if_false] at hB
      exact wk (tri_region hB (by simpa using h2))

theorem wpM_sound {cx : Cx} {an : Ann} {ks : Nat → List Nat} : ∀ (c : MCode) (e : Env) (st : List SO) (Q : Exit → Env → List SO → Prop), wpM cx an ks c e st Q → TriM cx ks c e st Q
  | .skip, _, _, _, h => fun _ => triL_skip h
  | .reg _ _ _, _, _, _, h => fun hok => frzW_sound (fun _ _ h => regM_sound opW_sound hok h.1 h.2) _ _ _ h
  | .seq a b, e, st, Q, h => fun hok => by
    simp only [MCode.ok, Bool.and_eq_true] at hok
    refine triL_seq ((wpM_sound a e st _ h hok.1).mono ?_)
    intro x e st hq
    cases x with
    | normal => exact wpM_sound b e st Q hq hok.2
    | _ => exact hq
  | .cond c a b, e, st, Q, h => fun hok => by
    simp only [MCode.ok, Bool.and_eq_true] at hok
    simp only [wpM, onV] at h
    split at h
    · next g hg => exact triL_cond g hg (fun hb => wpM_sound a e st Q (h.1 hb) hok.1) (fun hb => wpM_sound b e st Q (h.2 hb) hok.2)
    · next hg => exact triL_condAny hg (wpM_sound a e st Q h.1 hok.1) (wpM_sound b e st Q h.2 hok.2)
    · exact h.elim
  | .block _ b, e, st, Q, h => fun hok => triL_block (wpM_sound b e st _ h hok)
  | .loop _, _, _, _, h => h
  | .rng _ _ _ _, _, _, _, h => h
  | .exit _, _, _, _, h => fun _ => triL_exit h
  | .ret, _, _, _, h => fun _ => frzW_sound (fun _ _ h => triL_ret h) _ _ _ h
  | .other, _, _, _, h => fun _ => h.elim

class KI where
  i : Nat → Env → List SO → Prop
/-- One more round; what it starts from is closed to simp. -/
def againM (cx : Cx) (m : Nat) (e : Env) (st : List SO) [I : KI] : Prop := ∃ m' e' st', m' < m ∧ WeakE cx e st e' st' ∧ I.i m' e' st'
theorem againM_i {cx : Cx} {m : Nat} {e : Env} {st : List SO} {I : Nat → Env → List SO → Prop} (m' : Nat) (e' : Env) (hm : m' < m) (hw : subE e e') (hI : I m' e' st) : @againM cx m e st ⟨I⟩ :=
  ⟨m', e', st, hm, weakE_sub hw, hI⟩
theorem loopM_intro {cx : Cx} {an : Ann} {ks : Nat → List Nat} {b : MCode} {e : Env} {st : List SO} {Q : Exit → Env → List SO → Prop} (I : Nat → Env → List SO → Prop) (m : Nat) (e' : Env)
    (hw : subE e e') (h0 : I m e' st)
    (round : ∀ m e st, I m e st → wpM cx an ks b e st (thenE (fun e' st' => @againM cx m e' st' ⟨I⟩) Q)) :
    @loopM cx an ks b e st ⟨Q⟩ := fun hok => triL_loop I m ⟨e', st, weakE_sub hw, h0⟩ fun m e st hI => wpM_sound b e st _ (round m e st hI) hok

/-- Data alone: nothing of the store. -/
def noRef : V → Bool
  | .undef | .c _ | .ep _ _ | .gp _ | .gv _ | .anyb => true
  | .agg cs => noRefs cs
  | .tup cs => noRefs cs
  | .clo _ cs => noRefs cs
  | _ => false
where noRefs : List V → Bool
  | [] => true
  | v :: r => noRef v && noRefs r
theorem noRefs_spec {n : Nat} : ∀ (cs : List V), (∀ v, v ∈ cs → noRef v = true → RefsLt n v) → noRef.noRefs cs = true → ∀ v, v ∈ cs → RefsLt n v
  | [], _, _, v, hv => by cases hv
  | u :: r, ih, h, v, hv => by
    simp only [noRef.noRefs, Bool.and_eq_true] at h
    rcases List.mem_cons.1 hv with rfl | hv
    · exact ih _ (List.mem_cons_self ..) h.1
    · exact noRefs_spec r (fun v hv => ih v (List.mem_cons_of_mem _ hv)) h.2 v hv
theorem noRef_spec {n : Nat} : ∀ (v : V), noRef v = true → RefsLt n v
  | .undef, _ => .undef
  | .c x, _ => .c x
  | .ep c o, _ => .ep c o
  | .gp g, _ => .gp g
  | .gv g, _ => .gv g
  | .anyb, _ => .anyb
  | .agg cs, h => .agg cs (noRefs_spec cs (fun v _ hv => noRef_spec v hv) (by simpa [noRef] using h))
  | .tup cs, h => .tup cs (noRefs_spec cs (fun v _ hv => noRef_spec v hv) (by simpa [noRef] using h))
  | .clo f cs, h => .clo f cs (noRefs_spec cs (fun v _ hv => noRef_spec v hv) (by simpa [noRef] using h))
  | .box _, h => by simp [noRef] at h
  | .lp _ _, h => by simp [noRef] at h
  | .ptr _ _, h => by simp [noRef] at h
  | .own _ _, h => by simp [noRef] at h
  | .odp _ _, h => by simp [noRef] at h
  | .psl _ _ _, h => by simp [noRef] at h
  | .mref _, h => by simp [noRef] at h

/-- The end of a function that leaves the store as it was and gives data. -/
def EndsP (cx : Cx) (rs : List ResultVar) (res : V) (st0 : List SO) : Exit → Env → List SO → Prop := fun x e st =>
  (x = .normal ∨ x = .ret) ∧ (∃ extra, st = st0 ++ extra) ∧ resAll cx.P e rs = some res

theorem fn_pure {P : Program} {G : World → Prop} {g : FuncId} {fn : Func} {M : MCode} {N : Nat} {ks : Nat → List Nat} {args : List V} {st : List SO} {res : V} {rs : List ResultVar}
    (hf : P.funcs[g]? = some fn) (hr : fn.results.toList = rs) (hl : fn.body.map light = some M.flat) (hk : M.ok = true) (hB : fn.body.map (codeB N ks) = some true) (hN : fn.ntmps = N)
    (hname : fnB P g = true) (an : Ann) (ha : args.length ≤ N) (hres : noRef res = true)
    (h : wpM ⟨P, G, N, st.length⟩ an ks M (argE args 0) st (EndsP ⟨P, G, N, st.length⟩ rs res st)) : FnOK P G g args st res st := by
  refine fn_intro_l hf hr hl hB hN hname ha fun hst => ?_
  refine (wpM_sound M _ _ _ h hk).mono ?_
  rintro x e st' ⟨hx, ⟨extra, rfl⟩, hres'⟩
  exact ⟨hx, e, extra, WeakE.refl, hres', hst, noRef_spec res hres, Nat.le_refl _⟩

theorem fn_full {P : Program} {G : World → Prop} {g : FuncId} {fn : Func} {M : MCode} {N : Nat} {ks : Nat → List Nat} {args : List V} {st st' : List SO} {res : V} {rs : List ResultVar}
    (hf : P.funcs[g]? = some fn) (hr : fn.results.toList = rs) (hl : fn.body.map light = some M.flat) (hk : M.ok = true) (hB : fn.body.map (codeB N ks) = some true) (hN : fn.ntmps = N)
    (hname : fnB P g = true) (an : Ann) (ha : args.length ≤ N)
    (h : StOk st → wpM ⟨P, G, N, st.length⟩ an ks M (argE args 0) st (EndsX ⟨P, G, N, st.length⟩ rs res st')) : FnOK P G g args st res st' :=
  fn_intro_l hf hr hl hB hN hname ha fun hst => wpM_sound M _ _ _ (h hst) hk

/-- A function that turns the store. -/
theorem fn_eff {P : Program} {G : World → Prop} {g : FuncId} {fn : Func} {M : MCode} {N : Nat} {ks : Nat → List Nat} {args : List V} {st st' : List SO} {res : V} {rs : List ResultVar}
    (hf : P.funcs[g]? = some fn) (hr : fn.results.toList = rs) (hl : fn.body.map light = some M.flat) (hk : M.ok = true) (hB : fn.body.map (codeB N ks) = some true) (hN : fn.ntmps = N)
    (hname : fnB P g = true) (an : Ann) (ha : args.length ≤ N) (hres : noRef res = true) (hok : StOk st → StOk st') (hlen : st.length ≤ st'.length)
    (h : wpM ⟨P, G, N, st.length⟩ an ks M (argE args 0) st (EndsP ⟨P, G, N, st.length⟩ rs res st')) : FnOK P G g args st res st' := by
  refine fn_intro_l hf hr hl hB hN hname ha fun hst => ?_
  refine (wpM_sound M _ _ _ h hk).mono ?_
  rintro x e st1 ⟨hx, ⟨extra, rfl⟩, hres'⟩
  exact ⟨hx, e, extra, WeakE.refl, hres', hok hst, noRef_spec res hres, hlen⟩
end Go.L1
namespace Go.L1
open Go

section
variable {W : LOp → Env → List SO → (Nat → Res → Prop) → Prop} {dsts : List (Option Nat)} {kl : List Nat} {dk i : Nat} {inB : Bool} {e : Env} {st : List SO} {K : Env → List SO → Prop}
theorem itsW_nil : itsW W dsts kl dk inB [] i e st K = K e st := by simp only [itsW]
theorem itsW_cons {x : Itm} {r : List Itm} : itsW W dsts kl dk inB (x :: r) i e st K = itW W dsts kl dk inB x i e st fun e st => itsW W dsts kl dk inB r (i + x.flat.length) e st K := by simp only [itsW]
theorem itW_one {o : LOp} : itW W dsts kl dk inB (.one o) i e st K = guardW dsts o.guard e fun b =>
      match b with
      | true => W o e st fun c r => clsOk c (kl.getD i dk) = true ∧ (inB = true → r.bu = none) ∧ K (setO (setB e r.bu) o.dst r.v) r.st
      | false => K (setO e o.dst (.tup [])) st := by simp only [itW] <;> rfl
theorem itW_blk {g : Nat} {want : Bool} {xs : List Itm} {pk : LOp} : itW W dsts kl dk inB (.blk g want xs pk) i e st K = guardW dsts pk.guard e fun bb => bb = true ∧ clsOk 0 (kl.getD (i + (flats xs).length) dk) = true ∧
      onO (dsts[g]?) fun d => match d with
      | some (some t) => onV (getE e t) fun v => match v with
        | .c (.bool b) => exY fun y : Bool => (b = want → itsW W dsts kl dk true xs i ((t, .c (.bool want)) :: e) st fun e' st' => st' = st ∧ pickY want pk.op e' = .c (.bool y)) ∧
            K (setO (undefs (flats xs) e) pk.dst (.c (.bool (mrg want b y)))) st
        | _ => False
      | _ => False := by simp only [itW] <;> rfl
end
theorem flat_one {o : LOp} : (Itm.one o).flat = [o] := by simp only [Itm.flat]
theorem flat_blk {g : Nat} {want : Bool} {xs : List Itm} {pk : LOp} : (Itm.blk g want xs pk).flat = flats xs ++ [pk] := by simp only [Itm.flat]
theorem flats_nil : flats [] = [] := by simp only [flats]
theorem flats_cons {x : Itm} {r : List Itm} : flats (x :: r) = x.flat ++ flats r := by simp only [flats]

section
variable {cx : Cx} {an : Ann} {ks : Nat → List Nat} {e : Env} {st : List SO} {Q : Exit → Env → List SO → Prop}
theorem wpM_skip : wpM cx an ks .skip e st Q = Q .normal e st := rfl
theorem wpM_reg {id : Nat} {ops : List Itm} {draw : Bool} : wpM cx an ks (.reg id ops draw) e st Q = frzW ((an.frz.lookup id).getD []) e st fun e st => ((draw = true → cx.P.follows .mixedOrders = true) ∧
      itsW (opW cx an) ((flats ops).map (·.dst)) (if draw then ks id else []) (if draw then 0 else 2) false ops 0 (cleanE ((flats ops).map (·.dst)) e) st (Q .normal)) := rfl
theorem wpM_seq {a b : MCode} : wpM cx an ks (.seq a b) e st Q = wpM cx an ks a e st (thenE (fun e st => wpM cx an ks b e st Q) Q) := rfl
theorem wpM_cond {c : Operand} {a b : MCode} : wpM cx an ks (.cond c a b) e st Q = onV (ov e c) fun v => match v with
    | .c (.bool g) => (g = true → wpM cx an ks a e st Q) ∧ (g = false → wpM cx an ks b e st Q)
    | .anyb => wpM cx an ks a e st Q ∧ wpM cx an ks b e st Q
    | _ => False := rfl
theorem wpM_block {id : Nat} {b : MCode} : wpM cx an ks (.block id b) e st Q = wpM cx an ks b e st (blockE id Q) := rfl
theorem wpM_loop {b : MCode} : wpM cx an ks (.loop b) e st Q = @loopM cx an ks b e st ⟨Q⟩ := rfl
theorem wpM_rng {g : Operand} {ps : Array Tmp} {a b : MCode} : wpM cx an ks (.rng g ps a b) e st Q = @rngM cx an ks g ps a b e st ⟨Q⟩ := rfl
theorem wpM_exit {id : Nat} : wpM cx an ks (.exit id) e st Q = Q (.exit id) e st := rfl
theorem wpM_ret : wpM cx an ks .ret e st Q = frzW ((an.frz.lookup 999).getD []) e st fun e st => Q .ret e st := rfl
theorem thenE_normal {K : Env → List SO → Prop} : thenE K Q .normal e st = K e st := rfl
theorem thenE_exit {K : Env → List SO → Prop} {id : Nat} : thenE K Q (.exit id) e st = Q (.exit id) e st := rfl
theorem thenE_ret {K : Env → List SO → Prop} : thenE K Q .ret e st = Q .ret e st := rfl
theorem blockE_normal {id : Nat} : blockE id Q .normal e st = Q .normal e st := rfl
theorem blockE_exit {id id' : Nat} : blockE id Q (.exit id') e st = if id' = id then Q .normal e st else Q (.exit id') e st := rfl
theorem blockE_ret {id : Nat} : blockE id Q .ret e st = Q .ret e st := rfl
end
/-- As wpM and itsW; what follows is closed to simp. -/
def wpC (cx : Cx) (an : Ann) (ks : Nat → List Nat) (c : MCode) (e : Env) (st : List SO) [K : KQ] : Prop := wpM cx an ks c e st K.q
class KP where
  k : Env → List SO → Prop
def itsC (W : LOp → Env → List SO → (Nat → Res → Prop) → Prop) (dsts : List (Option Nat)) (kl : List Nat) (dk : Nat) (inB : Bool) (xs : List Itm) (i : Nat) (e : Env) (st : List SO) [K : KP] : Prop := itsW W dsts kl dk inB xs i e st K.k
section
variable {cx : Cx} {an : Ann} {ks : Nat → List Nat} {e : Env} {st : List SO} {Q : Exit → Env → List SO → Prop}
theorem wpM_in {c : MCode} : wpM cx an ks c e st Q = @wpC cx an ks c e st ⟨Q⟩ := rfl
theorem wpC_skip : @wpC cx an ks .skip e st ⟨Q⟩ = Q .normal e st := rfl
theorem wpC_reg {id : Nat} {ops : List Itm} {draw : Bool} : @wpC cx an ks (.reg id ops draw) e st ⟨Q⟩ = frzW ((an.frz.lookup id).getD []) e st fun e st => ((draw = true → cx.P.follows .mixedOrders = true) ∧
      itsW (opW cx an) ((flats ops).map (·.dst)) (if draw then ks id else []) (if draw then 0 else 2) false ops 0 (cleanE ((flats ops).map (·.dst)) e) st (Q .normal)) := rfl
theorem wpC_seq {a b : MCode} : @wpC cx an ks (.seq a b) e st ⟨Q⟩ = @wpC cx an ks a e st ⟨thenE (fun e st => wpM cx an ks b e st Q) Q⟩ := rfl
theorem wpC_cond {c : Operand} {a b : MCode} : @wpC cx an ks (.cond c a b) e st ⟨Q⟩ = onV (ov e c) fun v => match v with
    | .c (.bool g) => (g = true → wpM cx an ks a e st Q) ∧ (g = false → wpM cx an ks b e st Q)
    | .anyb => wpM cx an ks a e st Q ∧ wpM cx an ks b e st Q
    | _ => False := rfl
theorem wpC_block {id : Nat} {b : MCode} : @wpC cx an ks (.block id b) e st ⟨Q⟩ = @wpC cx an ks b e st ⟨blockE id Q⟩ := rfl
theorem wpC_loop {b : MCode} : @wpC cx an ks (.loop b) e st ⟨Q⟩ = @loopM cx an ks b e st ⟨Q⟩ := rfl
theorem wpC_rng {g : Operand} {ps : Array Tmp} {a b : MCode} : @wpC cx an ks (.rng g ps a b) e st ⟨Q⟩ = @rngM cx an ks g ps a b e st ⟨Q⟩ := rfl
theorem wpC_exit {id : Nat} : @wpC cx an ks (.exit id) e st ⟨Q⟩ = Q (.exit id) e st := rfl
theorem wpC_ret : @wpC cx an ks .ret e st ⟨Q⟩ = frzW ((an.frz.lookup 999).getD []) e st fun e st => Q .ret e st := rfl
end
section
variable {W : LOp → Env → List SO → (Nat → Res → Prop) → Prop} {dsts : List (Option Nat)} {kl : List Nat} {dk i : Nat} {inB : Bool} {e : Env} {st : List SO} {K : Env → List SO → Prop}
theorem itsW_in {xs : List Itm} : itsW W dsts kl dk inB xs i e st K = @itsC W dsts kl dk inB xs i e st ⟨K⟩ := rfl
theorem itsC_nil : @itsC W dsts kl dk inB [] i e st ⟨K⟩ = K e st := itsW_nil
theorem itsC_cons {x : Itm} {r : List Itm} : @itsC W dsts kl dk inB (x :: r) i e st ⟨K⟩ = itW W dsts kl dk inB x i e st fun e st => itsW W dsts kl dk inB r (i + x.flat.length) e st K := itsW_cons
end
class KS (α : Type) where
  k : α → Prop
/-- As withSome and onV; what follows is closed to simp. -/
def wS {α : Type} (o : Option α) [K : KS α] : Prop := withSome o K.k
def oV {α : Type} (v : α) [K : KS α] : Prop := K.k v
theorem withSome_in {α : Type} {o : Option α} {K : α → Prop} : withSome o K = @wS α o ⟨K⟩ := rfl
theorem wS_some {α : Type} {a : α} {K : α → Prop} : @wS α (some a) ⟨K⟩ = K a := rfl
theorem wS_none {α : Type} {K : α → Prop} : @wS α none ⟨K⟩ = False := rfl
theorem wS_i {α : Type} {o : Option α} {K : α → Prop} {a : α} (h : o = some a) (k : K a) : @wS α o ⟨K⟩ := by rw [h]; exact k
theorem onV_in {v : V} {K : V → Prop} : onV v K = @oV V v ⟨K⟩ := rfl
theorem onO_in {α : Type} {v : Option α} {K : Option α → Prop} : onO v K = @oV (Option α) v ⟨K⟩ := rfl
theorem oV_c {x : C} {K : V → Prop} : @oV V (.c x) ⟨K⟩ = K (.c x) := rfl
theorem oV_agg {x : List V} {K : V → Prop} : @oV V (.agg x) ⟨K⟩ = K (.agg x) := rfl
theorem oV_tup {x : List V} {K : V → Prop} : @oV V (.tup x) ⟨K⟩ = K (.tup x) := rfl
theorem oV_box {x : List V} {K : V → Prop} : @oV V (.box x) ⟨K⟩ = K (.box x) := rfl
theorem oV_lp {d o : Nat} {K : V → Prop} : @oV V (.lp d o) ⟨K⟩ = K (.lp d o) := rfl
theorem oV_ptr {d o : Nat} {K : V → Prop} : @oV V (.ptr d o) ⟨K⟩ = K (.ptr d o) := rfl
theorem oV_ep {d : List C} {o : Nat} {K : V → Prop} : @oV V (.ep d o) ⟨K⟩ = K (.ep d o) := rfl
theorem oV_own {d o : Nat} {K : V → Prop} : @oV V (.own d o) ⟨K⟩ = K (.own d o) := rfl
theorem oV_odp {d o : Nat} {K : V → Prop} : @oV V (.odp d o) ⟨K⟩ = K (.odp d o) := rfl
theorem oV_psl {d o n : Nat} {K : V → Prop} : @oV V (.psl d o n) ⟨K⟩ = K (.psl d o n) := rfl
theorem oV_mref {d : Nat} {K : V → Prop} : @oV V (.mref d) ⟨K⟩ = K (.mref d) := rfl
theorem oV_clo {d : FuncId} {c : List V} {K : V → Prop} : @oV V (.clo d c) ⟨K⟩ = K (.clo d c) := rfl
theorem oV_gp {d : Nat} {K : V → Prop} : @oV V (.gp d) ⟨K⟩ = K (.gp d) := rfl
theorem oV_gv {d : Nat} {K : V → Prop} : @oV V (.gv d) ⟨K⟩ = K (.gv d) := rfl
theorem oV_anyb {K : V → Prop} : @oV V .anyb ⟨K⟩ = K .anyb := rfl
theorem oV_some {α : Type} {a : α} {K : Option α → Prop} : @oV (Option α) (some a) ⟨K⟩ = K (some a) := rfl
theorem oV_none {α : Type} {K : Option α → Prop} : @oV (Option α) none ⟨K⟩ = K none := rfl
theorem withSome_i {α : Type} {o : Option α} {K : α → Prop} {a : α} (h : o = some a) (k : K a) : withSome o K := by rw [h]; exact k
attribute [simp] subE wS_some wS_none oV_c oV_agg oV_tup oV_box oV_lp oV_ptr oV_ep oV_own oV_odp oV_psl oV_mref oV_clo oV_gp oV_gv oV_anyb oV_some oV_none
attribute [simp ↓] withSome_in onV_in onO_in
theorem frzW_nil {e : Env} {st : List SO} {K : Env → List SO → Prop} : frzW [] e st K = K e st := rfl
theorem frzW_cons {d : Nat} {r : List Nat} {e : Env} {st : List SO} {K : Env → List SO → Prop} : frzW (d :: r) e st K = onV (frzAt e d) fun v => match v with
    | .own id ep => onO (st[id]?) fun vo => match vo with
      | some (.arr _ _ ep' xs) => ep' = ep ∧ frzW r (frzE id ep xs e) (st.set id .dead) K
      | _ => False
    | .box cs => frzW r (escE d st.length e) (st ++ [.box cs]) K
    | _ => frzW r e st K := rfl
class KE where
  k : Env → List SO → Prop
/-- As frzW; what follows is closed to simp. -/
def frzO (l : List Nat) (e : Env) (st : List SO) [K : KE] : Prop := frzW l e st K.k
theorem frzW_in {l : List Nat} {e : Env} {st : List SO} {K : Env → List SO → Prop} : frzW l e st K = @frzO l e st ⟨K⟩ := rfl
theorem frzO_nil {e : Env} {st : List SO} {K : Env → List SO → Prop} : @frzO [] e st ⟨K⟩ = K e st := rfl
theorem frzO_cons {d : Nat} {r : List Nat} {e : Env} {st : List SO} {K : Env → List SO → Prop} : @frzO (d :: r) e st ⟨K⟩ = onV (frzAt e d) fun v => match v with
    | .own id ep => onO (st[id]?) fun vo => match vo with
      | some (.arr _ _ ep' xs) => ep' = ep ∧ frzW r (frzE id ep xs e) (st.set id .dead) K
      | _ => False
    | .box cs => frzW r (escE d st.length e) (st ++ [.box cs]) K
    | _ => frzW r e st K := rfl
theorem st_get0 {s l : List SO} : (s ++ l)[s.length]? = l[0]? := by rw [List.getElem?_append_right (Nat.le_refl _)]; simp
theorem st_getk {s l : List SO} {k : Nat} : (s ++ l)[s.length + k]? = l[k]? := by rw [List.getElem?_append_right (by omega)]; simp
theorem st_set0 {s l : List SO} {x : SO} : (s ++ l).set s.length x = s ++ l.set 0 x := by rw [List.set_append_right _ _ (Nat.le_refl _)]; simp
theorem st_setk {s l : List SO} {x : SO} {k : Nat} : (s ++ l).set (s.length + k) x = s ++ l.set k x := by rw [List.set_append_right _ _ (by omega)]; simp
attribute [simp] st_get0 st_getk st_set0 st_setk frzO_nil frzO_cons frzE frzV frz1 frzAt escE escV ownAt ownFld bldAt isBldZ isSlZ isNilC nilSlV isAggV valV keyIn bndF
attribute [simp ↓] frzW_in
attribute [simp ↓] itsW_in itsC_nil itsC_cons itW_one itW_blk wpM_in wpC_skip wpC_reg wpC_seq wpC_cond wpC_block wpC_loop wpC_rng wpC_exit wpC_ret thenE_normal thenE_exit thenE_ret blockE_normal blockE_exit blockE_ret
attribute [simp] flat_one flat_blk flats_nil flats_cons
attribute [simp] clsOk opW guardW ov opnd cleanE argE liveE boxAt slotV setO setB getE plainV undefs pickY mrg binC biW callOpW callVW extW isExt makeFuncW isTmp isGlob loadAbs storeAbs
attribute [simp] List.getElem?_cons_zero List.getElem?_cons_succ
theorem constV_bool {b : Bool} : constV (.bool b) = .c (.bool b) := rfl
theorem constV_int {k : IntKind} {n : Int} : constV (.int k n) = .c (.int k n) := rfl
theorem constV_str {a : Array UInt8} (h : a.toList.length ≤ 100000) : constV (.string ⟨a⟩) = .c (.str a.toList) := by
  have : (⟨a⟩ : ByteArray).size ≤ maxLen := by
    have e : (⟨a⟩ : ByteArray).size = a.toList.length := by simp [ByteArray.size]
    rw [e]; exact Nat.le_trans h (by decide)
  simp only [constV, this, if_true]
theorem constV_nilsl : constV (.slice none 0 0) = .c (.sl []) := rfl
theorem constV_nilfn : constV .nilFunc = .c .nilfn := rfl
theorem constV_nilp : constV (.pointer none) = .c .nilp := rfl
theorem constV_nilIface : constV .nilIface = .undef := rfl
theorem constV_nilm : constV (.map none) = .c .nilm := rfl
theorem maxLen_val : maxLen = 9223372036854775807 := by unfold maxLen; rfl
attribute [simp] maxLen_val
attribute [simp] constV_bool constV_int constV_str constV_nilsl constV_nilfn constV_nilp constV_nilm constV_nilIface
attribute [simp] EndsP resAll resVs resOne nilFnV nilPtrV okCells okCell cellsV loadC elemsOf partsV fillV cellsC
def eqO (T : ET) : Option V → Option V → Option Bool
  | some x, some y => eqE T x y
  | _, _ => none
def and2 : Option Bool → Option Bool → Option Bool
  | some a, some b => some (a && b)
  | _, _ => none
theorem eqFs_nil {xs ys : List V} : eqFs [] xs ys = some true := by simp only [eqFs]
theorem eqFs_cons {off sz : Nat} {T : ET} {r : List (Nat × Nat × ET)} {xs ys : List V} : eqFs ((off, sz, T) :: r) xs ys = and2 (eqO T (partV off sz T xs) (partV off sz T ys)) (eqFs r xs ys) := by
  simp only [eqFs]
  cases partV off sz T xs <;> cases partV off sz T ys <;> simp [eqO, and2] <;> rfl
theorem eqE_b {x y : Bool} : eqE .b (.c (.bool x)) (.c (.bool y)) = some (x == y) := by simp only [eqE]
theorem eqE_i {k : IntKind} {x y : Int} : eqE .i (.c (.int k x)) (.c (.int k y)) = some (x == y) := by simp only [eqE, if_true]
theorem eqE_s {x y : List UInt8} : eqE .s (.c (.str x)) (.c (.str y)) = some (x == y) := by simp only [eqE]
theorem eqE_st {fs : List (Nat × Nat × ET)} {xs ys : List V} : eqE (.st fs) (.agg xs) (.agg ys) = eqFs fs xs ys := by simp only [eqE]
theorem eqO_some {T : ET} {x y : V} : eqO T (some x) (some y) = eqE T x y := rfl
theorem and2_some {a b : Bool} : and2 (some a) (some b) = some (a && b) := rfl
theorem partV_b {off sz : Nat} {xs : List V} : partV off sz .b xs = xs[off]? := by simp only [partV]
theorem partV_i {off sz : Nat} {xs : List V} : partV off sz .i xs = xs[off]? := by simp only [partV]
theorem partV_s {off sz : Nat} {xs : List V} : partV off sz .s xs = xs[off]? := by simp only [partV]
theorem partV_st {off sz : Nat} {fs : List (Nat × Nat × ET)} {xs : List V} : partV off sz (.st fs) xs = if off + sz ≤ xs.length then some (.agg ((xs.drop off).take sz)) else none := by simp only [partV]
attribute [simp] eqFs_nil eqFs_cons eqE_b eqE_i eqE_s eqE_st eqO_some and2_some partV_b partV_i partV_s partV_st
theorem exY_and {A K : Bool → Prop} (y : Bool) (h1 : A y) (h2 : K y) : exY (fun y => A y ∧ K y) := ⟨y, h1, h2⟩
/-- A function of the program, and its light code. -/
structure FnL (P : Program) (G : World → Prop) (g : FuncId) (N : Nat) (M : MCode) (rs : List ResultVar) (ks : Nat → List Nat) : Prop where
  ok : ∃ fn, P.funcs[g]? = some fn ∧ fn.results.toList = rs ∧ fn.body.map light = some M.flat ∧ fn.body.map (codeB N ks) = some true ∧ fn.ntmps = N
  hk : M.ok = true
  hn : fnB P g = true
section
variable {P : Program} {G : World → Prop} {g : FuncId} {N : Nat} {M : MCode} {rs : List ResultVar} {ks : Nat → List Nat} {args : List V} {st st' : List SO} {res : V}
theorem FnL.pu (h : FnL P G g N M rs ks) (an : Ann) (ha : args.length ≤ N) (hres : noRef res = true) (hw : wpM ⟨P, G, N, st.length⟩ an ks M (argE args 0) st (EndsP ⟨P, G, N, st.length⟩ rs res st)) : FnOK P G g args st res st := by
  obtain ⟨⟨fn, h1, h2, h3, h4, h5⟩, h6, h7⟩ := h
  exact fn_pure h1 h2 h3 h6 h4 h5 h7 an ha hres hw
theorem FnL.eff (h : FnL P G g N M rs ks) (an : Ann) (ha : args.length ≤ N) (hres : noRef res = true) (hok : StOk st → StOk st') (hlen : st.length ≤ st'.length) (hw : wpM ⟨P, G, N, st.length⟩ an ks M (argE args 0) st (EndsP ⟨P, G, N, st.length⟩ rs res st')) : FnOK P G g args st res st' := by
  obtain ⟨⟨fn, h1, h2, h3, h4, h5⟩, h6, h7⟩ := h
  exact fn_eff h1 h2 h3 h6 h4 h5 h7 an ha hres hok hlen hw
theorem FnL.full (h : FnL P G g N M rs ks) (an : Ann) (ha : args.length ≤ N) (hw : StOk st → wpM ⟨P, G, N, st.length⟩ an ks M (argE args 0) st (EndsX ⟨P, G, N, st.length⟩ rs res st')) : FnOK P G g args st res st' := by
  obtain ⟨⟨fn, h1, h2, h3, h4, h5⟩, h6, h7⟩ := h
  exact fn_full h1 h2 h3 h6 h4 h5 h7 an ha hw
end
end Go.L1
