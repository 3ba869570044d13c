/-
  L1, part q: iteration over strings, maps of one's own. Generic in the program.
  L1, part r: arrays of variables that the store takes: pieces, copies, literals. Generic in the program.
  L1, part w: one condition for each operation, to be computed by simp. Generic in the program.
-/
import Derived.Test.YthkmfboffnhkaaaGreatDoorM3
import Derived.MapKept
set_option linter.all false
namespace Go.L1
open Go

/-- An object at a fixed place, its block written anew. -/
theorem reobj {γ : Gh} {st : List SO} {w w' : World} {id b : Nat} {l : Loc} {o' : SO} (h : RelW γ st w) (hl : γ.locs[id]? = some l) (hb : blkOf l.hdr = some b)
    (hs : w'.heap.size = w.heap.size) (hos : w'.os = w.os) (ht : w'.tape = w.tape) (hout : w'.output = w.output) (hother : ∀ b', b' ≠ b → w'.heap[b']? = w.heap[b']?)
    (ho : RelO γ w' l o') : RelW γ (st.set id o') w' ∧ EvoX none γ w γ w' := by
  have hown : γ.owns b := ⟨id, l, hl, by unfold Loc.blks; rw [hb]; simp⟩
  have hpk : ∀ b', γ.pers b' → w'.heap[b']? = w.heap[b']? := fun b' hb' => hother b' (fun he => h.apart b' hb' (he ▸ hown))
  refine ⟨⟨by simp [h.len], by rw [hs]; exact h.basesz, fun b hb => ⟨(h.base b hb).1, (hpk b (h.base b hb).1).trans (h.base b hb).2⟩, fun b hb => by rw [hs]; exact h.plt b hb,
      fun b hb => by rw [hs]; exact h.olt b hb, h.apart, h.inj, h.two, fun i l' o1 hl' ho' => ?_⟩,
    ⟨rfl, hos, ht, hout, by rw [hs]; exact Nat.le_refl _, fun b' _ hno _ => hother b' (fun he => hno (he ▸ hown)), fun _ h => h, fun _ h _ => .inl h, fun _ h _ => h, .refl _ _⟩⟩
  by_cases hi : i = id
  · subst hi
    have hll : l' = l := Option.some.inj (hl'.symm.trans hl)
    subst hll
    have hlt : i < st.length := by rw [← h.len]; exact lt_of_some hl
    rw [List.getElem?_set_self hlt] at ho'
    injection ho' with ho'
    subst ho'
    exact ho
  · rw [List.getElem?_set_ne (Ne.symm hi)] at ho'
    refine (h.objs i l' o1 hl' ho').mono (fun _ h => h) hpk (.refl _ _) (fun b' hb' => hother b' (fun he => hi ?_))
    subst he
    exact h.inj i id l' l b' hl' hl hb' (by unfold Loc.blks; rw [hb]; simp)

/-- A new object that the store takes. -/
theorem push_obj {γ : Gh} {st : List SO} {w : World} {o : Obj} {so : SO} {l : Loc} (hr : RelW γ st w) (hbl : l.blks = [w.heap.size]) (ho : RelO (γ.push l) (w.alloc o) l so) :
    RelW (γ.push l) (st ++ [so]) (w.alloc o) ∧ EvoX none γ w (γ.push l) (w.alloc o) := by
  have hw : ∀ b, b < w.heap.size → (w.alloc o).heap[b]? = w.heap[b]? := fun b hb => heap_alloc_old w _ b hb
  exact ⟨hr.push (by simp) hw (by rw [hbl]; simp) (by rw [hbl]; simp) ho, evoX_push rfl rfl rfl (by simp) hw (by rw [hbl]; simp)⟩

section
variable {cx : Cx} {f : Fenv} {st : List SO}

theorem run_getObj_siter {P : Program} {w : World} {r : Nat} {s : ByteArray} {pos : Nat} (hb : w.heap[r]? = some (.stringIter s pos)) : (getObj r).run P w = .ok (.stringIter s pos) w := by
  simp [getObj, Sem.run, hb]
theorem run_setObj_siter {P : Program} {w : World} {r : Nat} {s : ByteArray} {pos : Nat} (o : Obj) (hb : w.heap[r]? = some (.stringIter s pos)) : (setObj r o).run P w = .ok () { w with heap := w.heap.setIfInBounds r o } := by
  simp [setObj, Sem.run, hb]
theorem mk_toList (s : ByteArray) : (⟨s.data.toList.toArray⟩ : ByteArray) = s := by simp

theorem s_rangeStr {t : TypeId} {x : Operand} {l : List UInt8} (hx : opnd f x = .c (.str l)) (ht : isStr cx.P t = true) :
    OpSound cx (.range t x) f st 2 ⟨.ptr st.length 0, none, st ++ [.siter l 0]⟩ := by
  refine ⟨fun o hop γ w gb ev h1 _ h3 _ => ?_, fun o _ => ⟨by simp, by simp⟩, by omega, by omega, by omega, by omega⟩
  rw [hop] at h3
  obtain ⟨s, hs, hl, _⟩ := rel_str (opnd_plain (x := x) h3 (by simp [Op.operands]) hx rfl)
  have hu := isStr_spec ht
  have hrun : (execOp ev o).run cx.P w = .ok (.value (.pointer (some ⟨w.heap.size, 0, none⟩))) (w.alloc (.stringIter s 0)) := by
    simp [execOp, hop, hs, Instr.range, underlying, hu, run_newObj]
  rw [hrun]
  obtain ⟨k1, k2⟩ := push_obj (l := ⟨.pointer (some ⟨w.heap.size, 0, none⟩), none, 0⟩) (o := .stringIter s 0) (so := .siter l 0) h1 rfl ⟨rfl, w.heap.size, s, rfl, hl, heap_alloc_at w _⟩
  exact ⟨_, k2, k1, RelV.ptr st.length 0 w.heap.size _ (push_get.2 (.inr ⟨h1.len.symm, rfl⟩)) rfl, by simp⟩

/-- The character at a place, and its width. -/
def runeAt (l : List UInt8) (pos : Nat) : Nat × Nat := Utf8.decode ⟨l.toArray⟩ pos

theorem s_nextStr {x : Operand} {id pos : Nat} {l : List UInt8} (hx : opnd f x = .ptr id 0) (ho : st[id]? = some (.siter l pos)) :
    OpSound cx (.next x true) f st 2 (if pos < l.length then ⟨.tup [.c (.bool true), .c (.int .i64 pos), .c (.int .i32 (runeAt l pos).1)], none, st.set id (.siter l (pos + (runeAt l pos).2))⟩
      else ⟨.tup [.c (.bool false)], none, st⟩) := by
  refine ⟨fun o hop γ w gb ev h1 _ h3 _ => ?_, fun o _ => ?_, by omega, by omega, by omega, by omega⟩
  · rw [hop] at h3
    have hv := opnd_plain (x := x) h3 (by simp [Op.operands]) hx rfl
    generalize hev : ev x = y at hv
    cases hv with
    | ptr _ _ b loc hloc hb =>
      obtain ⟨_, b', s, hb', hl, hh⟩ := h1.objs id loc _ hloc ho
      rw [hb] at hb'
      simp at hb'
      subst hb'
      have hs : (⟨l.toArray⟩ : ByteArray) = s := by rw [← hl]
      have hsz : s.size = l.length := by
        have := congrArg List.length hl
        rw [← this]; rfl
      split
      · next hlt =>
        have hrun : (execOp ev o).run cx.P w = .ok (.value (.tuple #[.bool true, .int .i64 pos, .int .i32 (runeAt l pos).1])) { w with heap := w.heap.setIfInBounds b (.stringIter s (pos + (runeAt l pos).2)) } := by
          have hg := run_getObj_siter (P := cx.P) hh
          have hset := run_setObj_siter (P := cx.P) (.stringIter s (pos + (runeAt l pos).2)) hh
          have hd : runeAt l pos = Utf8.decode s pos := by unfold runeAt; rw [hs]
          rw [hd] at hset ⊢
          simp [execOp, hop, hev, Instr.next, hg, hsz, hlt, hset, goInt]
        rw [hrun]
        obtain ⟨g1, g2⟩ := MapKept.heap_set (o' := .stringIter s (pos + (runeAt l pos).2)) hh
        obtain ⟨k1, k2⟩ := reobj (w' := { w with heap := w.heap.setIfInBounds b (.stringIter s (pos + (runeAt l pos).2)) }) (o' := .siter l (pos + (runeAt l pos).2)) h1 hloc (by rw [hb]; rfl) (by simp) rfl rfl rfl g2
          ⟨(h1.objs id loc _ hloc ho).1, b, s, hb, hl, g1⟩
        refine ⟨γ, k2, k1, .tup _ _ rfl fun i v z hi hz => ?_, by simp⟩
        match i with
        | 0 => simp at hi hz; subst hi hz; exact .c _ _ (.bool _)
        | 1 => simp at hi hz; subst hi hz; exact .c _ _ (.int _ _)
        | 2 => simp at hi hz; subst hi hz; exact .c _ _ (.int _ _)
        | k + 3 => simp at hi
      · next hlt =>
        have hrun : (execOp ev o).run cx.P w = .ok (.value (.tuple #[.bool false])) w := by
          have hg := run_getObj_siter (P := cx.P) hh
          simp [execOp, hop, hev, Instr.next, hg, hsz, hlt]
        rw [hrun]
        refine out_same h1 (RelV.toQ (.tup _ _ rfl fun i v z hi hz => ?_))
        match i with
        | 0 => simp at hi hz; subst hi hz; exact .c _ _ (.bool _)
        | k + 1 => simp at hi
  · split <;> exact ⟨by simp, by simp⟩

/-- A slice that is built, an array of one's own. -/
theorem s_buildSliceOwn {t e : TypeId} {esz len : Nat} {parts : Array (Nat × Operand)} {xs : List (List C)} (hu : cx.P.underlying t = some (.slice e)) (hs : szOf cx.P e = some esz)
    (hbig : len * esz ≤ 2 ^ 24) (hz : (zvOf cx.P e).isSome = true) (hx : elemsOf f esz 0 parts.toList = some xs) (hlen : xs.length = len) (hm : len ≤ maxLen) :
    OpSound cx (.buildSlice t len parts) f st 2 ⟨.own st.length 0, none, st ++ [.arr e esz 0 xs]⟩ := by
  refine ⟨fun o hop γ w gb ev h1 _ h3 _ => ?_, fun o _ => ⟨by simp, by simp⟩, by omega, by omega, by omega, by omega⟩
  obtain ⟨vs, hrun, hv, hz', hrel⟩ := buildSlice_rel (hop ▸ h3) hu hs hbig hz hx hlen
  have hrun' : (execOp ev o).run cx.P w = .ok (.value (.slice (some ⟨w.heap.size, 0, none⟩) len len)) (w.alloc (.cells vs e)) := by
    simp only [execOp, hop, Sem.run_bind, Sem.run_pure, hrun, Result.andThen_ok]
  rw [hrun']
  subst hlen
  have hpk : ∀ b, γ.pers b → (w.alloc (.cells vs e)).heap[b]? = w.heap[b]? := fun b hb => heap_alloc_old w _ b (h1.plt b hb)
  obtain ⟨k1, k2⟩ := push_obj (l := ⟨.slice (some ⟨w.heap.size, 0, none⟩) xs.length xs.length, none, 0⟩) (o := .cells vs e) (so := .arr e esz 0 xs) h1 rfl
    ⟨rfl, rfl, rfl, vs.toList, ⟨by simpa using hv, .inr ⟨w.heap.size, xs.length, vs, rfl, Nat.zero_le _, heap_alloc_at w _, Nat.le_refl _, hm, hv, by rw [← hv, ← Array.length_toList, List.take_length]⟩⟩, hz',
      fun i c v hi hv' => (hrel i c v hi (by simpa using hv')).mono (fun _ h => h) hpk⟩
  exact ⟨_, k2, k1, RelV.own st.length 0 _ _ (push_get.2 (.inr ⟨h1.len.symm, rfl⟩)) rfl (Nat.zero_le _) rfl (fun _ => rfl), by simp⟩

/-! ### Maps of one's own: keys are whole numbers or strings -/
def valOf : Value → V
  | .agg vs => .agg (vs.toList.map constV)
  | v => constV v
def zeroV (P : Program) (e : TypeId) : Option V := ((P.info? e).bind (·.zero)).map valOf
theorem relV_valOf {γ : Gh} {w : World} (v : Value) : RelV γ w (valOf v) v := by
  unfold valOf
  split
  · refine .agg _ _ (by simp) fun i u x hi hx => ?_
    simp only [List.getElem?_map, Array.getElem?_toList, hx, Option.map_some, Option.some.injEq] at hi
    rw [← hi]
    exact relV_constV x
  · exact relV_constV _
theorem zeroV_run {P : Program} {w : World} {e : TypeId} {v : V} (h : zeroV P e = some v) : ∃ z : Value, (zeroValue e).run P w = .ok z w ∧ v = valOf z := by
  unfold zeroV at h
  unfold zeroValue typeInfo
  cases hd : P.info? e with
  | none => rw [hd] at h; cases h
  | some d =>
    rw [hd] at h
    cases hz : d.zero with
    | none => simp [hz] at h
    | some z => simp [hz] at h; exact ⟨z, by simp [hd, hz], h.symm⟩

/-- What a map's type says: the kind of its keys, whether its elements are aggregates, an element's zero value. -/
def mapTy (P : Program) (t : TypeId) : Option (TypeDesc × Bool × V) := match P.underlying t with
  | some (.map k e) => match P.underlying k, agOf P e, zeroV P e with
    | some d, some ag, some z => some (d, ag, z)
    | _, _, _ => none
  | _ => none
theorem mapTy_spec {P : Program} {t : TypeId} {d : TypeDesc} {ag : Bool} {z : V} (h : mapTy P t = some (d, ag, z)) :
    ∃ k e, P.underlying t = some (.map k e) ∧ P.underlying k = some d ∧ agOf P e = some ag ∧ zeroV P e = some z := by
  unfold mapTy at h
  split at h
  · next k e hu =>
    split at h
    · next d' ag' z' h1 h2 h3 =>
      simp only [Option.some.injEq, Prod.mk.injEq] at h
      obtain ⟨rfl, rfl, rfl⟩ := h
      exact ⟨k, e, hu, h1, h2, h3⟩
    · cases h
  · cases h

def keyIn : TypeDesc → C → Bool
  | .int q, .int q' _ => q == q'
  | .string, .str _ => true
  | _, _ => false
def keyIn1 (d : TypeDesc) : List C → Bool
  | [c] => keyIn d c
  | _ => false
def sameC : C → List C → Bool
  | .int _ a, [.int _ b] => a == b
  | .str a, [.str b] => a == b
  | _, _ => false
def mfind (c : C) : List (List C × List C) → Nat → Option (Nat × List C)
  | [], _ => none
  | (k, v) :: r, i => if sameC c k then some (i, v) else mfind c r (i + 1)
def keysIn (d : TypeDesc) (es : List (List C × List C)) : Bool := es.all fun e => keyIn1 d e.1
/-- The value of an element's cells. -/
def valV (ag : Bool) (cs : List C) : V := if ag then .agg (cs.map .c) else match cs with
  | [c] => .c c
  | _ => .undef
theorem plain_valV (ag : Bool) (cs : List C) : plainV (valV ag cs) = true := by
  unfold valV
  split
  · rfl
  · split <;> rfl
theorem relV_valV {γ : Gh} {w : World} {ag : Bool} {cs : List C} {v : Value} (h : RelCells γ.pers w ag cs v) : RelV γ w (valV ag cs) v := by
  unfold RelCells at h
  unfold valV
  split
  · next hag =>
    rw [if_pos hag] at h
    obtain ⟨vs, rfl, h2, h3⟩ := h
    refine .agg _ _ (by simpa using h2) fun i u x hi hx => ?_
    rw [List.getElem?_map] at hi
    cases hc : cs[i]? with
    | none => rw [hc] at hi; cases hi
    | some c => rw [hc] at hi; simp at hi; subst hi; exact .c _ _ (h3 i c x hc hx)
  · next hag =>
    rw [if_neg hag] at h
    obtain ⟨c, rfl, h2⟩ := h
    exact .c _ _ h2

theorem isKey_of {pers : Nat → Prop} {w : World} {d : TypeDesc} {c : C} {v : Value} (hk : keyIn d c = true) (h : RelC pers w c v) : MapKept.IsKey d v := by
  cases d <;> cases h <;> simp_all [keyIn, MapKept.IsKey]
theorem sameNow_of {pers pers' : Nat → Prop} {w w' : World} {d : TypeDesc} {c c' : C} {v v' : Value} (hk : keyIn d c = true) (hk' : keyIn d c' = true) (h : RelC pers w c v) (h' : RelC pers' w' c' v') :
    Instr.sameNow d v v' = some (sameC c [c']) := by
  cases d <;> cases h <;> simp [keyIn] at hk <;> cases h' <;> simp [keyIn] at hk'
  · subst hk hk'
    simp [Instr.sameNow, sameC]
  · next s _ s' _ =>
    simp only [Instr.sameNow, sameC, Option.some.injEq]
    rw [Bool.eq_iff_iff, MapKept.bytes_beq]
    obtain ⟨⟨a⟩⟩ := s
    obtain ⟨⟨b⟩⟩ := s'
    simp
theorem findNow_of {pers : Nat → Prop} {w : World} {d : TypeDesc} {c : C} {v : Value} (hk : keyIn d c = true) (h : RelC pers w c v) : ∀ (es : List (List C × List C)) (xs : List MapEntry) (i : Nat), keysIn d es = true → xs.length = es.length →
    (∀ (j : Nat) e x, es[j]? = some e → xs[j]? = some x → RelCells pers w false e.1 x.key) →
    (mfind c es i = none ∧ Instr.findNow d v xs i = some none) ∨ (∃ j e x, mfind c es i = some (i + j, e.2) ∧ es[j]? = some e ∧ xs[j]? = some x ∧ Instr.findNow d v xs i = some (some (i + j, x.val)))
  | [], [], i, _, _, _ => .inl ⟨rfl, rfl⟩
  | (ks, vs) :: es, x :: xs, i, hks, hl, hr => by
    simp only [keysIn, List.all_cons, Bool.and_eq_true] at hks
    have h0 := hr 0 (ks, vs) x rfl rfl
    simp only [RelCells, Bool.false_eq_true, if_false] at h0
    obtain ⟨c', rfl, hrel⟩ := h0
    have hs := sameNow_of hk hks.1 h hrel
    cases hb : sameC c [c'] with
    | true => exact .inr ⟨0, ([c'], vs), x, by simp [mfind, hb], rfl, rfl, by simp [Instr.findNow, hs, hb]⟩
    | false =>
      rcases findNow_of hk h es xs (i + 1) hks.2 (by simpa using hl) (fun j e y he hy => hr (j + 1) e y (by simpa using he) (by simpa using hy)) with ⟨h1, h2⟩ | ⟨j, e, y, h1, h2, h3, h4⟩
      · exact .inl ⟨by simp [mfind, hb, h1], by simp [Instr.findNow, hs, hb, h2]⟩
      · exact .inr ⟨j + 1, e, y, by simp [mfind, hb, h1]; omega, by simpa using h2, by simpa using h3, by simp [Instr.findNow, hs, hb, h4]; omega⟩
  | [], _ :: _, _, _, hl, _ => by simp at hl
  | _ :: _, [], _, _, hl, _ => by simp at hl

theorem s_makeMap {t : TypeId} {d : TypeDesc} {ag : Bool} {z : V} (_ht : mapTy cx.P t = some (d, ag, z)) :
    OpSound cx (.makeMap t none) f st 2 ⟨.mref st.length, none, st ++ [.map false ag []]⟩ := by
  refine ⟨fun o hop γ w gb ev h1 _ h3 _ => ?_, fun o _ => ⟨by simp, by simp⟩, by omega, by omega, by omega, by omega⟩
  have hrun : (execOp ev o).run cx.P w = .ok (.value (.map (some w.heap.size))) (w.alloc (.map #[] 0)) := by
    simp [execOp, hop, Instr.makeMap, run_newObj]
  rw [hrun]
  obtain ⟨k1, k2⟩ := push_obj (l := ⟨.map (some w.heap.size), none, 0⟩) (o := .map #[] 0) (so := .map false ag []) h1 rfl
    ⟨rfl, w.heap.size, #[], 0, rfl, heap_alloc_at w _, rfl, by simp, by simp, by simp⟩
  exact ⟨_, k2, k1, RelV.mref st.length w.heap.size _ (push_get.2 (.inr ⟨h1.len.symm, rfl⟩)) rfl, by simp⟩

/-- A key's operand. -/
theorem s_lookM {t : TypeId} {m k : Operand} {id : Nat} {c : C} {es : List (List C × List C)} {d : TypeDesc} {ag ag' ok : Bool} {z : V} (hm : opnd f m = .mref id) (ho : st[id]? = some (.map false ag es))
    (hk : opnd f k = .c c) (ht : mapTy cx.P t = some (d, ag', z)) (hz : plainV z = true) (hc : keyIn d c = true) (hes : keysIn d es = true) :
    OpSound cx (.lookup t m k ok) f st 1 ⟨match mfind c es 0, ok with
      | some p, true => .tup [valV ag p.2, .c (.bool true)]
      | some p, false => valV ag p.2
      | none, true => .tup [z, .c (.bool false)]
      | none, false => z, none, st⟩ := by
  refine sound_read (by split <;> first | rfl | exact plain_valV _ _ | exact hz) fun o hop γ w gb ev h1 _ h3 _ => ?_
  have hv := opnd_plain (x := m) h3 (by simp [Op.operands]) hm rfl
  have hkv := opnd_plain (x := k) h3 (by simp [Op.operands]) hk rfl
  generalize hev : ev m = y at hv
  obtain ⟨kt, e, hu, hkd, hag, hzv⟩ := mapTy_spec ht
  cases hv with
  | mref _ b loc hloc hb =>
    obtain ⟨_, b', ents, clock, hb', hh, hsz, hrel, _⟩ := h1.objs id loc _ hloc ho
    rw [hb] at hb'
    simp at hb'
    subst hb'
    have hkr : RelC γ.pers w c (ev k) := by
      generalize ev k = y at hkv
      cases hkv with | c _ _ h => exact h
    have hik := isKey_of hc hkr
    have hchk := fun e n => MapKept.run_checkKey (P := cx.P) (w := w) hkd hik e n
    rcases findNow_of hc hkr es ents.toList 0 hes (by simpa using hsz) (fun j e x he hx => (hrel j e x he (by simpa using hx)).1) with ⟨h4, h5⟩ | ⟨j, e', x, h4, h5, h6, h7⟩
    · have hf := MapKept.run_findKey (P := cx.P) (w := w) hkd h5
      obtain ⟨zv, hz1, rfl⟩ := zeroV_run (w := w) hzv
      rw [h4]
      cases ok with
      | true =>
        refine ⟨.tuple #[zv, .bool false], by simp [execOp, hop, hev, Instr.lookup, underlying, hu, MapKept.run_getObj_map hh, hchk, hf, hz1], .tup _ _ rfl fun i v q hi hq => ?_⟩
        match i with
        | 0 => simp at hi hq; subst hi hq; exact relV_valOf _
        | 1 => simp at hi hq; subst hi hq; exact .c _ _ (.bool _)
        | k + 2 => simp at hi
      | false => exact ⟨zv, by simp [execOp, hop, hev, Instr.lookup, underlying, hu, MapKept.run_getObj_map hh, hchk, hf, hz1], relV_valOf _⟩
    · have hf := MapKept.run_findKey (P := cx.P) (w := w) hkd h7
      have hval := relV_valV (γ := γ) (hrel j e' x h5 (by simpa using h6)).2
      rw [h4]
      cases ok with
      | true =>
        refine ⟨.tuple #[x.val, .bool true], by simp [execOp, hop, hev, Instr.lookup, underlying, hu, MapKept.run_getObj_map hh, hchk, hf], .tup _ _ rfl fun i v q hi hq => ?_⟩
        match i with
        | 0 => simp at hi hq; subst hi hq; exact hval
        | 1 => simp at hi hq; subst hi hq; exact .c _ _ (.bool _)
        | k + 2 => simp at hi
      | false => exact ⟨x.val, by simp [execOp, hop, hev, Instr.lookup, underlying, hu, MapKept.run_getObj_map hh, hchk, hf], hval⟩

/-- A map with a key's element put in its place, or behind the others. -/
def mput (c : C) (v : List C) (es : List (List C × List C)) : List (List C × List C) := match mfind c es 0 with
  | some p => es.set p.1 ([c], v)
  | none => es ++ [([c], v)]

def isAggV : V → Bool
  | .agg _ => true
  | _ => false
theorem relCells_of {γ : Gh} {w : World} {ag : Bool} {v : V} {cs : List C} {x : Value} (h : RelV γ w v x) (hc : cellsC v = some cs) (hag : isAggV v = ag) : RelCells γ.pers w ag cs x := by
  cases v with
  | c y =>
    simp [isAggV] at hag
    subst hag
    simp [cellsC] at hc
    subst hc
    cases h with | c _ _ h => simp [RelCells, h]
  | agg l =>
    simp [isAggV] at hag
    subst hag
    simp only [cellsC] at hc
    have := mapM_c _ _ hc
    subst this
    cases h with
    | agg _ vs hl hh =>
      simp only [RelCells, if_true]
      refine ⟨vs, rfl, by simpa using hl, fun i c x hi hx => ?_⟩
      have := hh i (.c c) x (by rw [List.getElem?_map, hi]; rfl) hx
      cases this with | c _ _ h => exact h
  | _ => simp [cellsC] at hc

theorem mfind_lt {c : C} : ∀ {es : List (List C × List C)} {i : Nat} {p : Nat × List C}, mfind c es i = some p → i ≤ p.1 ∧ p.1 < i + es.length
  | [], _, _, h => by simp [mfind] at h
  | (k, v) :: r, i, p, h => by
    simp only [mfind] at h
    split at h
    · injection h with h; subst h; simp
    · have := mfind_lt h; simp; omega

theorem s_putM {t : TypeId} {m k x : Operand} {id : Nat} {c : C} {es : List (List C × List C)} {d : TypeDesc} {ag ag' : Bool} {z v : V} {cs : List C} (hm : opnd f m = .mref id) (ho : st[id]? = some (.map false ag es))
    (hk : opnd f k = .c c) (hx : opnd f x = v) (hcs : cellsC v = some cs) (hva : isAggV v = ag) (ht : mapTy cx.P t = some (d, ag', z)) (hc : keyIn d c = true) (hes : keysIn d es = true) :
    OpSound cx (.mapUpdate t m k x) f st 2 ⟨.tup [], none, st.set id (.map false ag (mput c cs es))⟩ := by
  have hpl : plainV v = true := cellsV_plain (cellsC_cells hcs)
  refine ⟨fun o hop γ w gb ev h1 _ h3 _ => ?_, fun o _ => ⟨by simp, by simp⟩, by omega, by omega, by omega, by omega⟩
  rw [hop] at h3
  have hv := opnd_plain (x := m) h3 (by simp [Op.operands]) hm rfl
  have hkv := opnd_plain (x := k) h3 (by simp [Op.operands]) hk rfl
  have hxv := opnd_plain (x := x) h3 (by simp [Op.operands]) hx hpl
  generalize hev : ev m = y at hv
  obtain ⟨kt, e, hu, hkd, hag, hzv⟩ := mapTy_spec ht
  cases hv with
  | mref _ b loc hloc hb =>
    obtain ⟨hl2, b', ents, clock, hb', hh, hsz, hrel, hborn, hinj⟩ := h1.objs id loc _ hloc ho
    rw [hb] at hb'
    simp at hb'
    subst hb'
    have hkr : RelC γ.pers w c (ev k) := by
      generalize ev k = y at hkv
      cases hkv with | c _ _ h => exact h
    have hik := isKey_of hc hkr
    have hchk := fun e n => MapKept.run_checkKey (P := cx.P) (w := w) hkd hik e n
    have hxr := relCells_of hxv hcs hva
    have hkr' : RelCells γ.pers w false [c] (ev k) := by simp [RelCells, hkr]
    have hown : γ.owns b := ⟨id, loc, hloc, by unfold Loc.blks; rw [hb]; simp [blkOf]⟩
    -- the new block
    have fin : ∀ (ents' : Array MapEntry) (clock' : Nat), ents'.size = (mput c cs es).length →
        (∀ (i : Nat) e x, (mput c cs es)[i]? = some e → ents'[i]? = some x → RelCells γ.pers w false e.1 x.key ∧ RelCells γ.pers w ag e.2 x.val) →
        (∀ (i : Nat) x, ents'[i]? = some x → x.born < clock') → (∀ (i j : Nat) x y, ents'[i]? = some x → ents'[j]? = some y → x.born = y.born → i = j) →
        (execOp ev o).run cx.P w = .ok .skip { w with heap := w.heap.setIfInBounds b (.map ents' clock') } →
        UponV cx.P (Out γ w gb ⟨.tup [], none, st.set id (.map false ag (mput c cs es))⟩) ((execOp ev o).run cx.P w) := by
      intro ents' clock' g1 g2 g3 g4 hrun
      rw [hrun]
      obtain ⟨k1, k2⟩ := MapKept.heap_set (o' := .map ents' clock') hh
      have hpk : ∀ b', γ.pers b' → ({ w with heap := w.heap.setIfInBounds b (.map ents' clock') } : World).heap[b']? = w.heap[b']? := fun b' hb' => k2 b' (fun he => h1.apart b' hb' (he ▸ hown))
      obtain ⟨k3, k4⟩ := reobj (w' := { w with heap := w.heap.setIfInBounds b (.map ents' clock') }) (o' := .map false ag (mput c cs es)) h1 hloc (by rw [hb]; rfl) (by simp) rfl rfl rfl k2
        ⟨hl2, b, ents', clock', hb, k1, g1, fun i e x he hx => ⟨(g2 i e x he hx).1.mono (fun _ h => h) hpk, (g2 i e x he hx).2.mono (fun _ h => h) hpk⟩, g3, g4⟩
      exact ⟨γ, k4, k3, .tup [] #[] rfl (by simp), by simp⟩
    rcases findNow_of hc hkr es ents.toList 0 hes (by simpa using hsz) (fun j e x he hx => (hrel j e x he (by simpa using hx)).1) with ⟨h4, h5⟩ | ⟨j, e', x', h4, h5, h6, h7⟩
    · have hf := MapKept.run_findKey (P := cx.P) (w := w) hkd h5
      have hset := MapKept.run_setObj_map (P := cx.P) (.map (ents.push ⟨ev k, ev x, clock⟩) (clock + 1)) hh
      have hput : mput c cs es = es ++ [([c], cs)] := by simp [mput, h4]
      refine fin (ents.push ⟨ev k, ev x, clock⟩) (clock + 1) ?_ ?_ ?_ ?_ ?_
      · rw [hput]; simp [hsz]
      · intro i e' y he hy
        rw [hput] at he
        rw [Array.getElem?_push] at hy
        rw [List.getElem?_append] at he
        split at he
        · next hlt => rw [if_neg (by omega)] at hy; exact hrel i e' y he hy
        · next hge =>
          have hi0 : i - es.length = 0 := by
            rcases Nat.eq_zero_or_pos (i - es.length) with h0 | h0
            · exact h0
            · rw [List.getElem?_eq_none (by simp; omega)] at he; cases he
          rw [hi0] at he
          simp at he
          rw [if_pos (by omega)] at hy
          injection hy with hy
          subst he hy
          exact ⟨hkr', hxr⟩
      · intro i y hy
        rw [Array.getElem?_push] at hy
        split at hy
        · injection hy with hy; subst hy; simp
        · have := hborn i y hy; omega
      · intro i j' y y' hy hy' he
        rw [Array.getElem?_push] at hy hy'
        split at hy <;> split at hy'
        · omega
        · injection hy with hy; subst hy
          have := hborn j' y' hy'
          simp at he; omega
        · injection hy' with hy'; subst hy'
          have := hborn i y hy
          simp at he; omega
        · exact hinj i j' y y' hy hy' he
      · simp [execOp, hop, hev, Instr.mapUpdate, underlying, hu, MapKept.run_getObj_map hh, hchk, hf, hset]
    · have hf := MapKept.run_findKey (P := cx.P) (w := w) hkd h7
      have h6' : ents[j]? = some x' := by simpa using h6
      have hjl : j < ents.size := (Array.getElem?_eq_some_iff.1 h6').1
      -- the keys are the same
      have hold := (hrel j e' x' h5 h6').1
      have hkeyeq : x'.key = ev k := by
        have hks := List.all_eq_true.1 hes e' (List.mem_of_getElem? h5)
        simp only [RelCells, Bool.false_eq_true, if_false] at hold
        obtain ⟨c', he1, hr'⟩ := hold
        rw [he1] at hks
        rcases MapKept.findNow_spec (k := ev k) (d := d) hik ents.toList 0 (fun y hy => by
          obtain ⟨q, hq⟩ := List.mem_iff_getElem?.1 hy
          have hq' : ents[q]? = some y := by simpa using hq
          have hlt : q < es.length := by rw [← hsz]; exact (Array.getElem?_eq_some_iff.1 hq').1
          have h8 := (hrel q es[q] y (List.getElem?_eq_getElem hlt) hq').1
          have h9 := List.all_eq_true.1 hes es[q] (List.getElem_mem hlt)
          simp only [RelCells, Bool.false_eq_true, if_false] at h8
          obtain ⟨c2, h10, h11⟩ := h8
          rw [h10] at h9
          exact isKey_of h9 h11) with ⟨g1, _⟩ | ⟨j2, e2, g1, g2, g3⟩
        · rw [h7] at g1; simp at g1
        · rw [h7] at g1
          simp at g1
          obtain ⟨rfl, _⟩ := g1
          rw [h6] at g2
          injection g2 with g2
          rw [g2]; exact g3
      have hsb : Instr.sameBits 10000 (ev k) (ev k) = true := by
        generalize ev k = y at hkr
        cases hkr <;> first | (simp [keyIn] at hc; done) | skip
        all_goals first
          | (cases d <;> simp [keyIn] at hc; done)
          | (simp only [Instr.sameBits]; exact (MapKept.bytes_beq _ _).2 rfl)
          | (simp only [Instr.sameBits]; simp; done)
      have hstay : (Instr.keyThatStays (ev k) (ev k)).run cx.P w = .ok (ev k) w := by
        unfold Instr.keyThatStays
        rw [if_pos hsb]; rfl
      have hset := MapKept.run_setObj_map (P := cx.P) (.map (ents.modify j fun e => { e with key := ev k, val := ev x }) clock) hh
      have hput : mput c cs es = es.set j ([c], cs) := by simp [mput, h4]
      refine fin (ents.modify j fun e => { e with key := ev k, val := ev x }) clock ?_ ?_ ?_ ?_ ?_
      · rw [hput]; simp [hsz]
      · intro i e2 y he hy
        rw [hput, List.getElem?_set] at he
        rw [Array.getElem?_modify] at hy
        split at he
        · next hij =>
          subst hij
          rw [if_pos (by omega)] at he
          injection he with he
          simp only [if_true, h6', Option.map_some, Option.some.injEq] at hy
          subst he hy
          exact ⟨hkr', hxr⟩
        · next hij =>
          rw [if_neg (by omega)] at hy
          exact hrel i e2 y he hy
      · intro i y hy
        rw [Array.getElem?_modify] at hy
        split at hy
        · next hij =>
          subst hij
          simp only [h6', Option.map_some, Option.some.injEq] at hy
          subst hy
          exact hborn j x' h6'
        · exact hborn i y hy
      · intro i i2 y y2 hy hy2 he
        have key : ∀ (i : Nat) y, (ents.modify j fun e => { e with key := ev k, val := ev x })[i]? = some y → ∃ y', ents[i]? = some y' ∧ y'.born = y.born := by
          intro i y hy
          rw [Array.getElem?_modify] at hy
          split at hy
          · next hij =>
            subst hij
            simp only [h6', Option.map_some, Option.some.injEq] at hy
            subst hy
            exact ⟨x', h6', rfl⟩
          · exact ⟨y, hy, rfl⟩
        obtain ⟨a1, a2, a3⟩ := key i y hy
        obtain ⟨b1, b2, b3⟩ := key i2 y2 hy2
        exact hinj i i2 a1 b1 a2 b2 (by rw [a3, b3, he])
      · have hkj : ((ents[j]?).map (·.key)).getD (ev k) = ev k := by rw [h6']; simp [hkeyeq]
        simp at hf
        simp [execOp, hop, hev, Instr.mapUpdate, underlying, hu, MapKept.run_getObj_map hh, hchk, hf, hkj, hstay, hset]

/-- A map without a key's element. -/
def mdel (c : C) (es : List (List C × List C)) : List (List C × List C) := match mfind c es 0 with
  | some p => es.eraseIdx p.1
  | none => es

theorem s_lenM {t : TypeId} {m : Operand} {id : Nat} {ka ag : Bool} {es : List (List C × List C)} {p : TypeDesc × Bool × V} (hm : opnd f m = .mref id) (ho : st[id]? = some (.map ka ag es)) (ht : mapTy cx.P t = some p) :
    OpSound cx (.call { callee := .builtin .len, args := #[m], argTypes := #[t] }) f st 1 ⟨.c (.int .i64 es.length), none, st⟩ :=
  sound_read rfl fun oo hop γ w gb ev h1 _ h3 _ => by
    have hv := opnd_plain (x := m) h3 (by simp [Op.operands, Call.operands]) hm rfl
    obtain ⟨d, ag', z⟩ := p
    obtain ⟨kt, e, hu, _⟩ := mapTy_spec ht
    generalize hev : ev m = y at hv
    cases hv with
    | mref _ b loc hloc hb =>
      obtain ⟨_, b', ents, clock, hb', hh, hsz, _⟩ := h1.objs id loc _ hloc ho
      rw [hb] at hb'
      simp at hb'
      subst hb'
      refine ⟨.int .i64 es.length, ?_, .c _ _ (.int _ _)⟩
      rw [run_len hop]
      simp [Builtin.len_, underlying, hu, hev, MapKept.run_getObj_map hh, goInt, hsz]
theorem s_delM {t t' : TypeId} {m k : Operand} {id : Nat} {c : C} {es : List (List C × List C)} {d : TypeDesc} {ag ag' : Bool} {z : V} (hm : opnd f m = .mref id) (ho : st[id]? = some (.map false ag es))
    (hk : opnd f k = .c c) (ht : mapTy cx.P t = some (d, ag', z)) (hc : keyIn d c = true) (hes : keysIn d es = true) :
    OpSound cx (.call { callee := .builtin .delete, args := #[m, k], argTypes := #[t, t'] }) f st 2 ⟨.tup [], none, st.set id (.map false ag (mdel c es))⟩ := by
  refine ⟨fun o hop γ w gb ev h1 _ h3 _ => ?_, fun o _ => ⟨by simp, by simp⟩, by omega, by omega, by omega, by omega⟩
  rw [hop] at h3
  have hv := opnd_plain (x := m) h3 (by simp [Op.operands, Call.operands]) hm rfl
  have hkv := opnd_plain (x := k) h3 (by simp [Op.operands, Call.operands]) hk rfl
  generalize hev : ev m = y at hv
  obtain ⟨kt, e, hu, hkd, hag, hzv⟩ := mapTy_spec ht
  cases hv with
  | mref _ b loc hloc hb =>
    obtain ⟨hl2, b', ents, clock, hb', hh, hsz, hrel, hborn, hinj⟩ := h1.objs id loc _ hloc ho
    rw [hb] at hb'
    simp at hb'
    subst hb'
    have hkr : RelC γ.pers w c (ev k) := by
      generalize ev k = y at hkv
      cases hkv with | c _ _ h => exact h
    have hik := isKey_of hc hkr
    have hchk := fun e n => MapKept.run_checkKey (P := cx.P) (w := w) hkd hik e n
    have hown : γ.owns b := ⟨id, loc, hloc, by unfold Loc.blks; rw [hb]; simp [blkOf]⟩
    have fin : ∀ (ents' : Array MapEntry), ents'.size = (mdel c es).length →
        (∀ (i : Nat) e x, (mdel c es)[i]? = some e → ents'[i]? = some x → RelCells γ.pers w false e.1 x.key ∧ RelCells γ.pers w ag e.2 x.val) →
        (∀ (i : Nat) x, ents'[i]? = some x → x.born < clock) → (∀ (i j : Nat) x y, ents'[i]? = some x → ents'[j]? = some y → x.born = y.born → i = j) →
        (execOp ev o).run cx.P w = .ok (.value (.tuple #[])) { w with heap := w.heap.setIfInBounds b (.map ents' clock) } →
        UponV cx.P (Out γ w gb ⟨.tup [], none, st.set id (.map false ag (mdel c es))⟩) ((execOp ev o).run cx.P w) := by
      intro ents' g1 g2 g3 g4 hrun
      rw [hrun]
      obtain ⟨k1, k2⟩ := MapKept.heap_set (o' := .map ents' clock) hh
      have hpk : ∀ b', γ.pers b' → ({ w with heap := w.heap.setIfInBounds b (.map ents' clock) } : World).heap[b']? = w.heap[b']? := fun b' hb' => k2 b' (fun he => h1.apart b' hb' (he ▸ hown))
      obtain ⟨k3, k4⟩ := reobj (w' := { w with heap := w.heap.setIfInBounds b (.map ents' clock) }) (o' := .map false ag (mdel c es)) h1 hloc (by rw [hb]; rfl) (by simp) rfl rfl rfl k2
        ⟨hl2, b, ents', clock, hb, k1, g1, fun i e x he hx => ⟨(g2 i e x he hx).1.mono (fun _ h => h) hpk, (g2 i e x he hx).2.mono (fun _ h => h) hpk⟩, g3, g4⟩
      exact ⟨γ, k4, k3, .tup [] #[] rfl (by simp), by simp⟩
    rcases findNow_of hc hkr es ents.toList 0 hes (by simpa using hsz) (fun j e x he hx => (hrel j e x he (by simpa using hx)).1) with ⟨h4, h5⟩ | ⟨j, e', x', h4, h5, h6, h7⟩
    · have hf := MapKept.run_findKey (P := cx.P) (w := w) hkd h5
      have hset := MapKept.run_setObj_map (P := cx.P) (.map ents clock) hh
      have hdel : mdel c es = es := by simp [mdel, h4]
      refine fin ents ?_ ?_ hborn hinj ?_
      · rw [hdel, hsz]
      · rw [hdel]; exact hrel
      · simp [execOp, hop, hev, resolve, invoke, builtin, Builtin.delete_, underlying, hu, MapKept.run_getObj_map hh, hchk, hf, hset]
    · have hf := MapKept.run_findKey (P := cx.P) (w := w) hkd h7
      have h6' : ents[j]? = some x' := by simpa using h6
      have hjl : j < ents.size := (Array.getElem?_eq_some_iff.1 h6').1
      have hset := MapKept.run_setObj_map (P := cx.P) (.map (ents.eraseIdxIfInBounds j) clock) hh
      have hdel : mdel c es = es.eraseIdx j := by simp [mdel, h4]
      have hget : ∀ i : Nat, (ents.eraseIdxIfInBounds j)[i]? = if i < j then ents[i]? else ents[i + 1]? := by
        intro i
        have : (ents.eraseIdxIfInBounds j)[i]? = (ents.toList.eraseIdx j)[i]? := by
          unfold Array.eraseIdxIfInBounds
          rw [dif_pos hjl, ← Array.getElem?_toList, Array.toList_eraseIdx]
        rw [this, List.getElem?_eraseIdx]
        split <;> simp
      refine fin (ents.eraseIdxIfInBounds j) ?_ ?_ ?_ ?_ ?_
      · rw [hdel, List.length_eraseIdx]
        unfold Array.eraseIdxIfInBounds
        rw [dif_pos hjl, Array.size_eraseIdx, if_pos (by omega), hsz]
      · intro i e2 y he hy
        rw [hdel, List.getElem?_eraseIdx] at he
        rw [hget] at hy
        split at he
        · next hij => rw [if_pos hij] at hy; exact hrel _ e2 y he hy
        · next hij => rw [if_neg hij] at hy; exact hrel _ e2 y he hy
      · intro i y hy
        rw [hget] at hy
        split at hy
        · exact hborn _ y hy
        · exact hborn _ y hy
      · intro i i2 y y2 hy hy2 he
        rw [hget] at hy hy2
        split at hy <;> split at hy2
        · exact hinj _ _ y y2 hy hy2 he
        · have := hinj _ _ y y2 hy hy2 he; omega
        · have := hinj _ _ y y2 hy hy2 he; omega
        · have := hinj _ _ y y2 hy hy2 he; omega
      · simp at hf
        simp [execOp, hop, hev, resolve, invoke, builtin, Builtin.delete_, underlying, hu, MapKept.run_getObj_map hh, hchk, hf, hset]
end
end Go.L1
namespace Go.L1
open Go

section
variable {cx : Cx} {f : Fenv} {st : List SO}

/-- A box at a slot, from now on the store's. -/
def escV (d n : Nat) : Nat → V → V := fun t v =>
  if t = d then .ptr n 0 else match v with
    | .lp d' off => if d' = d then .undef else .lp d' off
    | v => v
theorem weak_escape {d : Nat} {cs : List V} (hf : f d = .box cs) : Weak cx f st (fun t => escV d st.length t (f t)) (st ++ [.box cs]) := by
  rintro γ0 w0 a w ⟨γ, gb, sg⟩
  obtain ⟨b1, b2, b3, b4⟩ := sg.boxes d cs hf
  have hsd := sg.slots d
  rw [hf] at hsd
  obtain ⟨hx, vs, T, hh, hrow⟩ := hsd
  let l : Loc := ⟨.pointer (some ⟨gb d, 0, none⟩), none, 0⟩
  have hbl : l.blks = [gb d] := rfl
  have kept : ∀ n, LocsKept n γ (γ.push l) := fun n => locsKept_push γ l n
  have keepV : ∀ v x, RelV γ w v x → RelV (γ.push l) w v x := fun v x h => RelV.mono (γ := γ) (γ' := γ.push l) (fun _ h => h) (fun _ _ => rfl) (kept _) h
  have keepR : ∀ cs vs, RelRow γ w cs vs → RelRow (γ.push l) w cs vs := fun cs vs h => RelRow.mono (γ := γ) (γ' := γ.push l) (fun _ h => h) (fun _ _ => rfl) (kept _) h
  have he := sg.evo
  have hr := sg.rel
  refine ⟨γ.push l, gb, ⟨⟨he.base, he.os, he.tape, he.output, he.size, he.keep, he.pers, he.newp, fun b hb hlt => ?_, he.locs.trans (kept _)⟩, sg.n0, ?_, sg.g, sg.size, sg.defers.mono (fun _ _ _ _ _ => rfl) (fun _ _ _ h => .inl h) (fun D _ hD h => by
      rcases owns_push.1 h with h1 | h1
      · exact h1
      · rw [hbl] at h1; simp at h1; rw [h1, hh] at hD; cases hD), fun t => ?_, fun t ct ht => ?_, fun t t' ct ct' ht ht' hg => ?_⟩⟩
  · rcases owns_push.1 hb with h1 | h1
    · exact he.newo b h1 hlt
    · rw [hbl] at h1; simp at h1; omega
  · refine ⟨by simp [Gh.push, hr.len], hr.basesz, hr.base, hr.plt, fun b hb => ?_, fun b hb ho => ?_, fun i j l1 l2 b h1 h2 hb1 hb2 => ?_, fun i l1 h1 => ?_, fun i l1 o1 h1 h2 => ?_⟩
    · rcases owns_push.1 hb with h1 | h1
      · exact hr.olt b h1
      · rw [hbl] at h1; simp at h1; omega
    · rcases owns_push.1 ho with h1 | h1
      · exact hr.apart b hb h1
      · rw [hbl] at h1; simp at h1; exact b3 (h1 ▸ hb)
    · rcases push_get.1 h1 with h1 | ⟨e1, e1'⟩ <;> rcases push_get.1 h2 with h2 | ⟨e2, e2'⟩
      · exact hr.inj i j l1 l2 b h1 h2 hb1 hb2
      · subst e2'
        rw [hbl] at hb2; simp at hb2
        exact absurd ⟨i, l1, h1, hb2 ▸ hb1⟩ b4
      · subst e1'
        rw [hbl] at hb1; simp at hb1
        exact absurd ⟨j, l2, h2, hb1 ▸ hb2⟩ b4
      · rw [e1, e2]
    · rcases push_get.1 h1 with h1 | ⟨rfl, rfl⟩
      · exact hr.two i l1 h1
      · rw [hbl]; simp
    · rcases push_get.1 h1 with h1 | ⟨rfl, rfl⟩
      · have hi : i < st.length := by have := lt_of_some h1; rw [hr.len] at this; exact this
        rw [List.getElem?_append_left hi] at h2
        exact RelO.mono (γ := γ) (γ' := γ.push l) (fun _ h => h) (fun _ _ => rfl) (kept _) (fun _ _ => rfl) (hr.objs i l1 o1 h1 h2)
      · rw [hr.len] at h2
        simp at h2
        subst h2
        exact ⟨rfl, gb d, vs, T, rfl, hh, keepR _ _ hrow⟩
  · have ht := sg.slots t
    unfold escV
    split
    · next htd =>
      subst htd
      rw [hx]
      exact RelV.ptr st.length 0 (gb t) l (push_get.2 (.inr ⟨hr.len.symm, rfl⟩)) rfl
    · split
      · next d' off hv =>
        rw [hv] at ht
        split
        · exact .undef _
        · exact ht
      · next hv =>
        cases hft : f t with
        | box c =>
          rw [hft] at ht
          obtain ⟨h1, vs', T', h2, h3⟩ := ht
          exact ⟨h1, vs', T', h2, keepR _ _ h3⟩
        | lp d' off => exact absurd hft (hv d' off)
        | _ => rw [hft] at ht; exact keepV _ _ ht
  · have key : t ≠ d ∧ f t = .box ct := by
      simp only [escV] at ht
      split at ht
      · cases ht
      · next h =>
        refine ⟨h, ?_⟩
        split at ht
        · split at ht <;> cases ht
        · exact ht
    obtain ⟨h1, h2⟩ := key
    obtain ⟨k1, k2, k3, k4⟩ := sg.boxes t ct h2
    refine ⟨k1, k2, k3, fun ho => ?_⟩
    rcases owns_push.1 ho with h3 | h3
    · exact k4 h3
    · rw [hbl] at h3; simp at h3
      exact h1 (sg.inj t d ct cs h2 hf h3)
  · have key : ∀ t ct, escV d st.length t (f t) = .box ct → f t = .box ct := by
      intro t ct ht
      simp only [escV] at ht
      split at ht
      · cases ht
      · split at ht
        · split at ht <;> cases ht
        · exact ht
    exact sg.inj t t' ct ct' (key _ _ ht) (key _ _ ht') hg

/-- Over an environment. -/
def escE (d n : Nat) : Env → Env
  | [] => []
  | (t, v) :: r => (t, escV d n t v) :: escE d n r
theorem getE_escE (d n : Nat) (e : Env) {cs : List V} (h : getE e d = .box cs) : ∀ t, getE (escE d n e) t = escV d n t (getE e t) := by
  intro t
  by_cases htd : t = d
  · subst htd
    have : ∀ e : Env, getE e t = .box cs → getE (escE t n e) t = .ptr n 0 := by
      intro e
      induction e with
      | nil => intro h; simp [getE] at h
      | cons p r ih =>
        obtain ⟨k, v⟩ := p
        intro h
        simp only [escE, getE] at h ⊢
        split
        · next hk => simp [escV, hk]
        · next hk => rw [if_neg hk] at h; exact ih h
    rw [this e h]
    simp [escV]
  · clear h
    induction e with
    | nil => simp [escE, getE, escV, htd]
    | cons p r ih =>
      obtain ⟨k, v⟩ := p
      simp only [escE, getE]
      split
      · next hk => subst hk; rfl
      · exact ih
theorem weakE_escape {e : Env} {d : Nat} {cs : List V} (h : getE e d = .box cs) : WeakE cx e st (escE d st.length e) (st ++ [.box cs]) := by
  unfold WeakE
  rw [funext (getE_escE d st.length e h)]
  exact weak_escape h

/-! ### Pieces of arrays -/
theorem s_slicePtr {t : TypeId} {x : Operand} {lo hi : Option Operand} {id off len esz a b : Nat} (hx : opnd f x = .ptr id off) (he : elA cx.P t = some (len, esz))
    (hlo : bndF f lo 0 = some a) (hhi : bndF f hi len = some b) (hab : a ≤ b) (hb : b ≤ len) (hal : a < len) (hm : len ≤ maxLen) :
    OpSound cx (.slice t x lo hi none) f st 0 ⟨.psl id (off + a * esz) (b - a), none, st⟩ :=
  sound_plain rfl fun oo hop st γ w gb ev _ _ h3 _ => by
    have h := opnd_plain (x := x) h3 (by simp [Op.operands]) hx rfl
    generalize hev : ev x = y at h
    cases h with
    | ptr _ _ bl loc hloc hbl =>
      unfold elA at he
      split at he
      · next nn e hu =>
        simp only [Option.map_eq_some_iff, Prod.mk.injEq] at he
        obtain ⟨s, hs, rfl, rfl⟩ := he
        have k1 : lo = none ∧ a = 0 ∨ ∃ o k n, lo = some o ∧ ev o = .int k n ∧ 0 ≤ n ∧ n.toNat = a := by
          cases lo with
          | none => simp [bndF] at hlo; exact .inl ⟨rfl, hlo.symm⟩
          | some o =>
            right
            simp only [bndF] at hlo
            split at hlo
            · next k n hv =>
              split at hlo
              · next h0 =>
                injection hlo with hlo
                exact ⟨o, k, n, rfl, rel_int (opnd_plain (x := o) h3 (by simp [Op.operands]) hv rfl), h0, hlo⟩
              · cases hlo
            · cases hlo
        have k2 : hi = none ∧ b = nn ∨ ∃ o k n, hi = some o ∧ ev o = .int k n ∧ 0 ≤ n ∧ n.toNat = b := by
          cases hi with
          | none => simp [bndF] at hhi; exact .inl ⟨rfl, hhi.symm⟩
          | some o =>
            right
            simp only [bndF] at hhi
            split at hhi
            · next k n hv =>
              split at hhi
              · next h0 =>
                injection hhi with hhi
                exact ⟨o, k, n, rfl, rel_int (opnd_plain (x := o) h3 (by simp [Op.operands]) hv rfl), h0, hhi⟩
              · cases hhi
            · cases hhi
        have hne : ¬ nn = a := by omega
        refine ⟨.slice (some ⟨bl, off + a * s, none⟩) (b - a) (nn - a), ?_, .psl id _ _ bl _ loc hloc hbl (by omega) (by omega)⟩
        rcases k1 with ⟨rfl, rfl⟩ | ⟨o1, q1, n1, rfl, hv1, h01, rfl⟩ <;> rcases k2 with ⟨rfl, rfl⟩ | ⟨o2, q2, n2, rfl, hv2, h02, rfl⟩
        · simp [execOp, hop, hev, Instr.sliceAt, underlying, hu, Instr.sureAddr, Instr.sliceBounds, run_sizeOf' hs, hne, add_mk]
        · have e2 : n2 ≤ nn := by omega
          simp [execOp, hop, hev, Instr.sliceAt, underlying, hu, Instr.sureAddr, Instr.sliceBounds, Instr.sliceBound, asIntOf, hv2, h02, e2, run_sizeOf' hs, hne, add_mk]
        · have e1 : n1 ≤ b := by omega
          simp [execOp, hop, hev, Instr.sliceAt, underlying, hu, Instr.sureAddr, Instr.sliceBounds, Instr.sliceBound, asIntOf, hv1, h01, e1, run_sizeOf' hs, hne, add_mk]
          try (intro h; omega)
        · have e2 : n2 ≤ nn := by omega
          have e1 : n1 ≤ n2.toNat := by omega
          have e3 : n1 ≤ n2 := by omega
          simp [execOp, hop, hev, Instr.sliceAt, underlying, hu, Instr.sureAddr, Instr.sliceBounds, Instr.sliceBound, asIntOf, hv1, hv2, h01, h02, e1, e2, e3, run_sizeOf' hs, hne, add_mk]
          try (intro h; omega)
      · cases he

theorem s_indexAddr_psl {t : TypeId} {x i : Operand} {k : IntKind} {n : Int} {len esz id off : Nat} (hx : opnd f x = .psl id off len) (hi : opnd f i = .c (.int k n))
    (he : elS cx.P t = some esz) (h0 : 0 ≤ n) (hn : n < len) : OpSound cx (.indexAddr t x i) f st 0 ⟨.ptr id (off + n.toNat * esz), none, st⟩ :=
  sound_plain rfl fun oo hop st γ w gb ev _ _ h3 _ => by
    have h := opnd_plain (x := x) h3 (by simp [Op.operands]) hx rfl
    have hi' := rel_int (opnd_plain (x := i) h3 (by simp [Op.operands]) hi rfl)
    generalize hev : ev x = y at h
    cases h with
    | psl _ _ _ bl cap loc hloc hbl hc hm =>
      unfold elS at he
      split at he
      · next e hu =>
        refine ⟨.pointer (some ⟨bl, off + n.toNat * esz, none⟩), ?_, .ptr id _ bl loc hloc hbl⟩
        simp [execOp, hop, hev, hi', Instr.indexAt, asIntOf, underlying, hu, h0, hn, run_sizeOf' he, add_mk]
      · cases he

/-- A slice type of bool. -/
def boolSl (P : Program) (t : TypeId) : Bool := match P.underlying t with
  | some (.slice e) => match P.info? e with
    | some i => match i.zero with
      | some (.bool false) => decide (i.size = 1 ∧ i.bytes = 1)
      | _ => false
    | none => false
  | _ => false
theorem boolSl_spec {P : Program} {t : TypeId} (h : boolSl P t = true) : ∃ e i, P.underlying t = some (.slice e) ∧ P.info? e = some i ∧ i.zero = some (.bool false) ∧ i.size = 1 ∧ i.bytes = 1 := by
  unfold boolSl at h
  split at h
  case h_2 => cases h
  next e hu =>
  split at h
  case h_2 => cases h
  next i hi =>
  split at h
  case h_2 => cases h
  next hz =>
  simp only [decide_eq_true_eq] at h
  exact ⟨e, i, hu, hi, hz, h.1, h.2⟩
theorem s_makePsl {t : TypeId} {a b : Operand} {k k' : IntKind} {n : Int} (ha : opnd f a = .c (.int k n)) (hb : opnd f b = .c (.int k' n)) (h0 : 0 ≤ n)
    (ht : boolSl cx.P t = true) (hm : n.toNat ≤ 281474976710656) :
    OpSound cx (.makeSlice t a b) f st 2 ⟨.psl st.length 0 n.toNat, none, st ++ [.box (List.replicate n.toNat (.c (.bool false)))]⟩ := by
  refine ⟨fun o hop γ w gb ev h1 _ h3 _ => ?_, fun o _ => ⟨by simp, by simp⟩, by omega, by omega, by omega, by omega⟩
  rw [hop] at h3
  obtain ⟨e, i, hu, hi, hz, hsz, hby⟩ := boolSl_spec ht
  have e1 := rel_int (opnd_plain (x := a) h3 (by simp [Op.operands]) ha rfl)
  have e2 := rel_int (opnd_plain (x := b) h3 (by simp [Op.operands]) hb rfl)
  have hml : n.toNat ≤ maxLen := Nat.le_trans hm (by decide)
  obtain ⟨w', hr, hown, hg⟩ := run_make_full (P := cx.P) (w := w) 0 t e i (.bool false) 1 hu hi hz hsz k k' n.toNat (by rw [hby]; omega) hml (Nat.zero_le _)
  have en : ((n.toNat : Nat) : Int) = n := Int.toNat_of_nonneg h0
  rw [en] at hr
  have hrun : (execOp ev o).run cx.P w = .ok (.value (.slice (some ⟨w.heap.size, 0, none⟩) n.toNat n.toNat)) w' := by simp [execOp, hop, e1, e2, hr]
  rw [hrun]
  have hw : ∀ b, b < w.heap.size → w'.heap[b]? = w.heap[b]? := fun b hb => hg.block b hb (by simp)
  rcases hown.2 with ⟨hv, _⟩ | ⟨g, cap, cur, hv, _, hh, hnc, _, hcs, htk⟩
  · cases hv
  injection hv with hv1 _ hv2
  injection hv1 with hv1
  injection hv1 with hv1
  subst hv1 hv2
  have hcur : cur.toList = (madeCells (Value.bool false).cells (n.toNat * 1)).toList := by rw [← htk, List.take_of_length_le (by simp [hcs])]
  have hmc : ∀ (i : Nat) x, (madeCells (Value.bool false).cells (n.toNat * 1)).toList[i]? = some x → x = .bool false := by
    intro i x hx
    have hlt := lt_of_some hx
    simp [madeCells] at hlt
    simp [madeCells, Value.cells, hlt, Nat.mod_one] at hx
    exact hx.symm
  have hbl : (⟨.pointer (some ⟨w.heap.size, 0, none⟩), none, 0⟩ : Loc).blks = [w.heap.size] := rfl
  have hlt : w.heap.size < w'.heap.size := (Array.getElem?_eq_some_iff.1 hh).1
  refine ⟨γ.push ⟨.pointer (some ⟨w.heap.size, 0, none⟩), none, 0⟩, evoX_push hg.os hg.tape hg.output hg.size hw (by rw [hbl]; simp), ?_, ?_, by simp⟩
  · refine h1.push hg.size hw (by rw [hbl]; intro b hb; simp at hb; subst hb; exact ⟨Nat.le_refl _, hlt⟩) (by rw [hbl]; simp) ⟨rfl, w.heap.size, cur, e, rfl, hh, ?_, ?_⟩
    · simp [hcs]
    · intro j v x hv hx
      have hv' := List.mem_of_getElem? hv
      simp only [List.mem_replicate] at hv'
      rw [hv'.2, hmc j x (by rw [← hcur]; simpa using hx)]
      exact ⟨.c _ _ (.bool false), rfl⟩
  · exact RelV.psl st.length 0 n.toNat _ _ _ (push_get.2 (.inr ⟨h1.len.symm, rfl⟩)) rfl (Nat.le_refl _) hml

theorem s_indexAddr_ptr {t : TypeId} {x i : Operand} {k : IntKind} {n : Int} {len esz id off : Nat} (hx : opnd f x = .ptr id off) (hi : opnd f i = .c (.int k n))
    (he : elA cx.P t = some (len, esz)) (h0 : 0 ≤ n) (hn : n < len) : OpSound cx (.indexAddr t x i) f st 0 ⟨.ptr id (off + n.toNat * esz), none, st⟩ :=
  sound_plain rfl fun oo hop st γ w gb ev _ _ h3 _ => by
    have h := opnd_plain (x := x) h3 (by simp [Op.operands]) hx rfl
    have hi' := rel_int (opnd_plain (x := i) h3 (by simp [Op.operands]) hi rfl)
    generalize hev : ev x = y at h
    cases h with
    | ptr _ _ bl loc hloc hbl =>
      unfold elA at he
      split at he
      · next nn e hu =>
        simp only [Option.map_eq_some_iff, Prod.mk.injEq] at he
        obtain ⟨s, hs, rfl, rfl⟩ := he
        refine ⟨.pointer (some ⟨bl, off + n.toNat * s, none⟩), ?_, .ptr id _ bl loc hloc hbl⟩
        simp [execOp, hop, hev, hi', Instr.indexAt, asIntOf, underlying, hu, h0, hn, Instr.sureAddr, run_sizeOf' hs, add_mk]
      · cases he

theorem s_copyPsl {x y : Operand} {t t' : TypeId} {id off len id' off' len' : Nat} {cs cs' : List V} (hx : opnd f x = .psl id off len) (hy : opnd f y = .psl id' off' len') (ho : st[id]? = some (.box cs))
    (ho' : st[id']? = some (.box cs')) (ht : elS cx.P t = some 1) (h1 : off + Nat.min len' len ≤ cs.length) (h2 : off' + Nat.min len' len ≤ cs'.length) :
    OpSound cx (.call { callee := .builtin .copy, args := #[x, y], argTypes := #[t, t'] }) f st 2
      ⟨.c (.int .i64 (Nat.min len' len : Nat)), none, st.set id (.box (cs.take off ++ (cs'.drop off').take (Nat.min len' len) ++ cs.drop (off + Nat.min len' len)))⟩ := by
  refine ⟨fun o hop γ w gb ev hw _ h3 _ => ?_, fun o _ => ⟨by simp, by simp⟩, by omega, by omega, by omega, by omega⟩
  rw [hop] at h3
  have hvx := opnd_plain (x := x) h3 (by simp [Op.operands, Call.operands]) hx rfl
  have hvy := opnd_plain (x := y) h3 (by simp [Op.operands, Call.operands]) hy rfl
  generalize hex : ev x = vx at hvx
  generalize hey : ev y = vy at hvy
  cases hvx with
  | psl _ _ _ b cap loc hloc hb hc hm =>
    cases hvy with
    | psl _ _ _ b' cap' loc' hloc' hb' hc' hm' =>
      obtain ⟨_, c, vs, T, hc1, hh, hrow⟩ := hw.objs id loc _ hloc ho
      obtain ⟨_, c', vs', T', hc1', hh', hrow'⟩ := hw.objs id' loc' _ hloc' ho'
      rw [hb] at hc1
      rw [hb'] at hc1'
      simp at hc1 hc1'
      subst hc1 hc1'
      generalize hn : Nat.min len' len = n at *
      have hsrcl : ((vs'.toList.drop off').take n).length = n := by simp [hrow'.1]; omega
      obtain ⟨e, hu, hs⟩ : ∃ e, cx.P.underlying t = some (.slice e) ∧ (cx.P.info? e).map (·.size) = some 1 := by
        unfold elS at ht
        split at ht
        · next e hu => exact ⟨e, hu, ht⟩
        · cases ht
      have hrun := run_copy_row (P := cx.P) w t t' o.type e b off len cap ⟨b', off', none⟩ len' cap' vs T ((vs'.toList.drop off').take n) hu hs hh (by rw [hsrcl, hn]) (fun j v hj => by
          rw [List.getElem?_take] at hj
          split at hj
          · rw [List.getElem?_drop] at hj
            rw [add_mk]
            simp only [World.cell?, hh']
            simpa using hj
          · cases hj) (by rw [hsrcl, hrow.1]; exact h1) (fun v hv => by
          obtain ⟨j, hj⟩ := List.mem_iff_getElem?.1 (List.mem_of_mem_drop (List.mem_of_mem_take hv))
          have hlt := lt_of_some hj
          have hcj : cs'[j]? = some (cs'[j]'(by simp [hrow'.1] at hlt; omega)) := List.getElem?_eq_getElem _
          exact (hrow'.2 j _ v hcj (by simpa using hj)).2)
      rw [hsrcl] at hrun
      have hrun' : (execOp ev o).run cx.P w = .ok (.value (.int .i64 n)) (w.setRow b (vs.toList.take off ++ (vs'.toList.drop off').take n ++ vs.toList.drop (off + n)).toArray) := by
        simp [execOp, hop, resolve, invoke, builtin, hex, hey, hrun, goInt]
      rw [hrun']
      have hother : ∀ k, k ≠ b → (w.setRow b (vs.toList.take off ++ (vs'.toList.drop off').take n ++ vs.toList.drop (off + n)).toArray).heap[k]? = w.heap[k]? := fun k hk => setRow_other w b k _ hk
      have hown : γ.owns b := ⟨id, loc, hloc, by unfold Loc.blks; rw [hb]; simp [blkOf]⟩
      have hpk : ∀ k, γ.pers k → (w.setRow b (vs.toList.take off ++ (vs'.toList.drop off').take n ++ vs.toList.drop (off + n)).toArray).heap[k]? = w.heap[k]? := fun k hk => hother k (fun h => hw.apart k hk (h ▸ hown))
      have hnewrow : RelRow γ w (cs.take off ++ (cs'.drop off').take n ++ cs.drop (off + n)) (vs.toList.take off ++ (vs'.toList.drop off').take n ++ vs.toList.drop (off + n)).toArray := by
        refine ⟨by simp [hrow.1, hrow'.1], fun i v z hi hz => ?_⟩
        simp only [List.getElem?_toArray] at hz
        have l1 : (cs.take off).length = off := by simp; omega
        have l1' : (vs.toList.take off).length = off := by simp [hrow.1]; omega
        have l2 : ((cs'.drop off').take n).length = n := by simp; omega
        rw [List.append_assoc, List.getElem?_append, l1] at hi
        rw [List.append_assoc, List.getElem?_append, l1'] at hz
        split at hi
        · next hlt =>
          rw [if_pos hlt] at hz
          rw [List.getElem?_take_of_lt hlt] at hi hz
          exact hrow.2 i v z hi (by simpa using hz)
        · next hge =>
          rw [if_neg hge] at hz
          rw [List.getElem?_append, l2] at hi
          rw [List.getElem?_append, hsrcl] at hz
          split at hi
          · next hlt =>
            rw [if_pos hlt] at hz
            rw [List.getElem?_take_of_lt hlt, List.getElem?_drop] at hi hz
            exact hrow'.2 _ v z hi (by simpa using hz)
          · next hge2 =>
            rw [if_neg hge2] at hz
            rw [List.getElem?_drop] at hi hz
            exact hrow.2 _ v z hi (by simpa using hz)
      obtain ⟨k1, k2⟩ := reobj (b := b) (w' := w.setRow b (vs.toList.take off ++ (vs'.toList.drop off').take n ++ vs.toList.drop (off + n)).toArray) (o' := .box (cs.take off ++ (cs'.drop off').take n ++ cs.drop (off + n))) hw hloc (by rw [hb]; rfl) (by simp) rfl rfl rfl hother
        ⟨(hw.objs id loc _ hloc ho).1, b, _, T, hb, setRow_heap w _ vs _ T (0, 0) hh, hnewrow.mono (fun _ h => h) hpk (.refl _ _)⟩
      exact ⟨γ, k2, k1, .c _ _ (.int _ _), by simp⟩

/-- An array type: length, element type, the element's size. -/
def arT (P : Program) (t : TypeId) : Option (Nat × TypeId × Nat) := match P.underlying t with
  | some (.array n e) => (szOf P e).map fun s => (n, e, s)
  | _ => none
theorem s_indexAgg {t e : TypeId} {x i : Operand} {k : IntKind} {n : Int} {len esz : Nat} {cs : List V} {v : V} (hx : opnd f x = .agg cs) (hi : opnd f i = .c (.int k n)) (he : arT cx.P t = some (len, e, esz))
    (h0 : 0 ≤ n) (hn : n < len) (ha : loadAbs cx.P e cs (n.toNat * esz) = some v) (hp : plainV v = true) : OpSound cx (.index t x i) f st 0 ⟨v, none, st⟩ :=
  sound_plain hp fun oo hop st γ w gb ev _ _ h3 _ => by
    obtain ⟨vs, h1, h2, h4⟩ := rel_agg (opnd_plain (x := x) h3 (by simp [Op.operands]) hx rfl)
    have hi' := rel_int (opnd_plain (x := i) h3 (by simp [Op.operands]) hi rfl)
    obtain ⟨y, hy, hrel⟩ := part_row h2 h4 ha
    unfold arT at he
    split at he
    · next nn e' hu =>
      simp only [Option.map_eq_some_iff, Prod.mk.injEq] at he
      obtain ⟨s, hs, rfl, rfl, rfl⟩ := he
      exact ⟨y, by simp [execOp, hop, h1, hi', Instr.index, asIntOf, underlying, hu, h0, hn, run_sizeOf' hs, hy], hrel⟩
    · cases he

/-! ### Literals of arrays -/
def plA (P : Program) (t : TypeId) : Option (List (Nat × Nat)) := (elA P t).map fun p => (List.range p.1).map fun i => (i * p.2, p.2)
theorem fill_mono {p q : Nat → Option (Nat × Nat)} (h : ∀ i x, p i = some x → q i = some x) : ∀ (l : List (Nat × Value)) (cells r : Array Value), Instr.fill p cells l = some r → Instr.fill q cells l = some r
  | [], _, _, hr => hr
  | (i, v) :: rest, cells, r, hr => by
    simp only [Instr.fill] at hr ⊢
    cases hp : p i with
    | none => rw [hp] at hr; cases hr
    | some x =>
      obtain ⟨off, size⟩ := x
      rw [hp] at hr
      rw [h i _ hp]
      simp only at hr ⊢
      split
      · next hc => rw [if_pos hc] at hr; cases hr
      · next hc => rw [if_neg hc] at hr; exact fill_mono h rest _ r hr
theorem s_buildArr {t : TypeId} {parts : Array (Nat × Operand)} {zs cs : List V} {pl : List (Nat × Nat)} (hz : zvOf cx.P t = some zs) (hpl : plA cx.P t = some pl)
    (hp : (partsV f parts).all (fun p => plainV p.2 && ((cellsV p.2).map okCells).getD true) = true) (hf : fillV (pl[·]?) zs (partsV f parts) = some cs) :
    OpSound cx (.build t parts) f st 0 ⟨.agg cs, none, st⟩ :=
  sound_plain rfl fun oo hop st γ w gb ev _ _ h3 _ => by
    obtain ⟨z, hz1, hz2⟩ := run_zero' (w := w) hz
    have hp1 : (partsV f parts).all (fun p => plainV p.2) = true := List.all_eq_true.2 fun p hp' => by
      have := List.all_eq_true.1 hp p hp'
      simp only [Bool.and_eq_true] at this
      exact this.1
    obtain ⟨r1, r2⟩ := parts_rel (parts := parts) h3 (fun p hp' => by simp [Op.operands]; exact ⟨p.1, hp'⟩) hp1
    obtain ⟨vs', e1, e2, e3⟩ := fill_rel (γ := γ) (w := w) (pl[·]?) (partsV f parts) (parts.map (fun (i, x) => (i, ev x))).toList zs cs z.cells (by rw [← hz2]; simp)
      (fun i v x hi hx => by
        rw [← hz2] at hi
        simp only [List.getElem?_map, Array.getElem?_toList, hx, Option.map_some, Option.some.injEq] at hi
        rw [← hi]
        exact relV_constV x) r1 r2 (fun p hp' us hus => by
        have := List.all_eq_true.1 hp p hp'
        simp only [Bool.and_eq_true, hus, Option.map_some, Option.getD_some] at this
        exact this.2) hf
    refine ⟨.agg vs', ?_, .agg _ _ e2 e3⟩
    unfold plA at hpl
    obtain ⟨⟨n, s⟩, he, rfl⟩ := Option.map_eq_some_iff.1 hpl
    unfold elA at he
    split at he
    · next nn e hu =>
      simp only [Option.map_eq_some_iff, Prod.mk.injEq] at he
      obtain ⟨s', hs, rfl, rfl⟩ := he
      have e1' : Instr.fill (fun i => some (i * s', s')) z.cells (parts.map (fun (i, x) => (i, ev x))).toList = some vs' := by
        refine fill_mono (fun i x hx => ?_) _ _ _ e1
        simp only [List.getElem?_map] at hx
        cases hr : (List.range nn)[i]? with
        | none => rw [hr] at hx; cases hx
        | some k =>
          rw [hr] at hx
          have hk : k = i := by
            have := List.getElem?_eq_some_iff.1 hr
            obtain ⟨hlt, hk⟩ := this
            simpa using hk.symm
          subst hk
          simpa using hx
      simp only [execOp, hop, Sem.run_bind, Sem.run_pure, Instr.build, hz1, Result.andThen_ok, underlying, run_program, hu, run_sizeOf' hs, e1']
    · cases he
def plB (P : Program) (t : TypeId) : Option (List (Nat × Nat)) := match plOf P t with
  | some l => some l
  | none => plA P t
theorem s_buildB {t : TypeId} {parts : Array (Nat × Operand)} {zs cs : List V} {pl : List (Nat × Nat)} (hz : zvOf cx.P t = some zs) (hpl : plB cx.P t = some pl)
    (hp : (partsV f parts).all (fun p => plainV p.2 && ((cellsV p.2).map okCells).getD true) = true) (hf : fillV (pl[·]?) zs (partsV f parts) = some cs) :
    OpSound cx (.build t parts) f st 0 ⟨.agg cs, none, st⟩ := by
  unfold plB at hpl
  split at hpl
  · next l hl => injection hpl with hpl; subst hpl; exact s_build hz hl hp hf
  · exact s_buildArr hz hpl hp hf
theorem run_buildB {P : Program} {w : World} {o : Oper} {ev : Operand → Value} {t : TypeId} {parts : Array (Nat × Operand)} {z : Value} {pl : List (Nat × Nat)} {vs' : Array Value} (hop : o.op = .build t parts)
    (hz1 : (zeroValue t).run P w = .ok z w) (hpl : plB P t = some pl) (e1 : Instr.fill (pl[·]?) z.cells (parts.map (fun (i, x) => (i, ev x))).toList = some vs') :
    (execOp ev o).run P w = .ok (.value (.agg vs')) w := by
  unfold plB at hpl
  split at hpl
  · next l hl =>
    injection hpl with hpl; subst hpl
    unfold plOf at hl
    split at hl
    · next fs hu =>
      have hm := mapM_places (w := w) _ _ hl
      have hm' : (fs.mapM (fun f => do pure (f.offset, ← sizeOf f.type) : Field → Sem (Nat × Nat))).run P w = .ok l.toArray w := by
        rw [Array.mapM_eq_mapM_toList]
        simp only [Sem.run_map]
        rw [hm]
        rfl
      have e1' : Instr.fill (fun i => l.toArray[i]?) z.cells (parts.map (fun (i, x) => (i, ev x))).toList = some vs' := by
        simpa using e1
      simp only [execOp, hop, Sem.run_bind, Sem.run_pure, Instr.build, hz1, Result.andThen_ok, underlying, run_program, hu, hm', e1']
    · cases hl
  · unfold plA at hpl
    obtain ⟨⟨n, s⟩, he, rfl⟩ := Option.map_eq_some_iff.1 hpl
    unfold elA at he
    split at he
    · next nn e hu =>
      simp only [Option.map_eq_some_iff, Prod.mk.injEq] at he
      obtain ⟨s', hs, rfl, rfl⟩ := he
      have e1' : Instr.fill (fun i => some (i * s', s')) z.cells (parts.map (fun (i, x) => (i, ev x))).toList = some vs' := by
        refine fill_mono (fun i x hx => ?_) _ _ _ e1
        simp only [List.getElem?_map] at hx
        cases hr : (List.range nn)[i]? with
        | none => rw [hr] at hx; cases hx
        | some k =>
          rw [hr] at hx
          have hk : k = i := by
            have := List.getElem?_eq_some_iff.1 hr
            obtain ⟨hlt, hk⟩ := this
            simpa using hk.symm
          subst hk
          simpa using hx
      simp only [execOp, hop, Sem.run_bind, Sem.run_pure, Instr.build, hz1, Result.andThen_ok, underlying, run_program, hu, run_sizeOf' hs, e1']
    · cases he
/-- A struct one of whose fields is a nil slice that is to grow: its array its own from the start. -/
theorem s_buildO {t : TypeId} {parts : Array (Nat × Operand)} {zs cs : List V} {pl : List (Nat × Nat)} {off : Nat} (ety : TypeId) (esz : Nat) (hz : zvOf cx.P t = some zs) (hpl : plB cx.P t = some pl)
    (hoff : zs[off]? = some (.c (.sl []))) (hp : (partsV f parts).all (fun p => plainV p.2 && ((cellsV p.2).map okCells).getD true) = true)
    (hf : fillV (pl[·]?) (zs.set off (.own st.length 0)) (partsV f parts) = some cs) :
    OpSound cx (.build t parts) f st 2 ⟨.agg cs, none, st ++ [.arr ety esz 0 []]⟩ := by
  refine ⟨fun oo hop γ w gb ev h1 _ h3 _ => ?_, fun o _ => ⟨by simp, by simp⟩, by omega, by omega, by omega, by omega⟩
  obtain ⟨z, hz1, hz2⟩ := run_zero' (w := w) hz
  have hp1 : (partsV f parts).all (fun p => plainV p.2) = true := List.all_eq_true.2 fun p hp' => by
    have := List.all_eq_true.1 hp p hp'
    simp only [Bool.and_eq_true] at this
    exact this.1
  rw [hop] at h3
  obtain ⟨r1, r2⟩ := parts_rel (parts := parts) h3 (fun p hp' => by simp [Op.operands]; exact ⟨p.1, hp'⟩) hp1
  let l1 : Loc := ⟨.slice none 0 0, none, 0⟩
  have kept := locsKept_push γ l1
  have keepV : ∀ v x, RelV γ w v x → RelV (γ.push l1) w v x := fun v x h => RelV.mono (γ := γ) (γ' := γ.push l1) (fun _ h => h) (fun _ _ => rfl) (kept _) h
  have hrw : RelW (γ.push l1) (st ++ [.arr ety esz 0 []]) w := h1.push (Nat.le_refl _) (fun _ _ => rfl) (by intro b hb; cases hb) (by simp [l1, Loc.blks, blkOf]) ⟨rfl, rfl, rfl, [], World.ownsRow_nil _ _ _ _, by simp, by simp⟩
  have hl1 : (γ.push l1).locs[st.length]? = some l1 := push_get.2 (.inr ⟨h1.len.symm, rfl⟩)
  obtain ⟨vs', e1, e2, e3⟩ := fill_rel (γ := γ.push l1) (w := w) (pl[·]?) (partsV f parts) (parts.map (fun (i, x) => (i, ev x))).toList (zs.set off (.own st.length 0)) cs z.cells (by rw [← hz2]; simp)
    (fun i v x hi hx => by
      have hconst : ∀ u, zs[i]? = some u → u = constV x := fun u hu => by
        rw [← hz2] at hu
        simp only [List.getElem?_map, Array.getElem?_toList, hx, Option.map_some, Option.some.injEq] at hu
        exact hu.symm
      by_cases hio : i = off
      · subst hio
        rw [List.getElem?_set_self (lt_of_some hoff)] at hi
        injection hi with hi
        have hcx := (hconst _ hoff).symm
        have hxn : x = .slice none 0 0 := by
          unfold constV at hcx
          split at hcx <;> first | rfl | (simp at hcx; done) | (split at hcx <;> simp at hcx)
        rw [← hi, hxn]
        exact RelV.own st.length 0 l1 _ hl1 rfl (Nat.zero_le _) rfl (fun _ => rfl)
      · rw [List.getElem?_set_ne (Ne.symm hio)] at hi
        rw [hconst v hi]
        exact relV_constV x) r1 (fun i p q hi hq => keepV _ _ (r2 i p q hi hq)) (fun p hp' us hus => by
      have := List.all_eq_true.1 hp p hp'
      simp only [Bool.and_eq_true, hus, Option.map_some, Option.getD_some] at this
      exact this.2) hf
  rw [run_buildB hop hz1 hpl e1]
  exact ⟨γ.push l1, evoX_push rfl rfl rfl (Nat.le_refl _) (fun _ _ => rfl) (by intro b hb; cases hb), hrw, .agg _ _ e2 e3, by simp⟩
end
end Go.L1
namespace Go.L1
open Go

/-- What is said of a function's text: the slots whose boxes the store takes. -/
structure Ann where
  esc : List Nat := []
  own : List (Nat × TypeId × Nat) := []
  frz : List (Nat × List Nat) := []
  bld : List (Nat × TypeId) := []
  ext : List FuncId := []
  ofl : List (Nat × Nat × TypeId × Nat) := []

def ownFld (l : List (Nat × Nat × TypeId × Nat)) : Option Nat → Option (Nat × TypeId × Nat)
  | some d => l.lookup d
  | none => none
def bldAt (l : List (Nat × TypeId)) : Option Nat → Option TypeId
  | some d => l.lookup d
  | none => none
def isBldZ : List V → Bool
  | [.c .nilp, .c (.sl [])] => true
  | _ => false
def isSlZ : List V → Bool
  | [.c (.sl [])] => true
  | _ => false
theorem isSlZ_spec {zs : List V} (h : isSlZ zs = true) : zs = [.c (.sl [])] := by
  unfold isSlZ at h
  split at h
  · rfl
  · cases h
theorem isBldZ_spec {zs : List V} (h : isBldZ zs = true) : zs = [.c .nilp, .c (.sl [])] := by
  unfold isBldZ at h
  split at h
  · rfl
  · cases h
def ownAt (l : List (Nat × TypeId × Nat)) : Option Nat → Option (TypeId × Nat)
  | some d => l.lookup d
  | none => none

/-- A call: some contract fits. -/
def CallSpec (cx : Cx) (g : FuncId) (vs : List V) (st : List SO) (c : Nat) (res : V) (st' : List SO) : Prop :=
  plainV res = true ∧ ((c = 0 ∧ st' = st ∧ ∀ s, FnOK cx.P cx.G g vs s res s) ∨ (c = 1 ∧ st' = st ∧ FnOK cx.P cx.G g vs st res st) ∨ (c = 2 ∧ FnOK cx.P cx.G g vs st res st'))
/-- What follows, kept from simp's eyes: it does not look into arguments of this kind. -/
class KC where
  k : Nat → Res → Prop
def callW (cx : Cx) (g : FuncId) (vs : List V) (st : List SO) [K : KC] : Prop := ∃ c res st', CallSpec cx g vs st c res st' ∧ K.k c ⟨res, none, st'⟩

theorem callW0 {cx : Cx} {g : FuncId} {vs : List V} {st : List SO} {K : Nat → Res → Prop} {res : V} (h : ∀ s, FnOK cx.P cx.G g vs s res s) (hp : plainV res = true)
    (hK : K 0 ⟨res, none, st⟩) : @callW cx g vs st ⟨K⟩ := ⟨0, res, st, ⟨hp, .inl ⟨rfl, rfl, h⟩⟩, hK⟩
theorem callW1 {cx : Cx} {g : FuncId} {vs : List V} {st : List SO} {K : Nat → Res → Prop} {res : V} (h : FnOK cx.P cx.G g vs st res st) (hp : plainV res = true)
    (hK : K 1 ⟨res, none, st⟩) : @callW cx g vs st ⟨K⟩ := ⟨1, res, st, ⟨hp, .inr (.inl ⟨rfl, rfl, h⟩)⟩, hK⟩
theorem callW2 {cx : Cx} {g : FuncId} {vs : List V} {st st' : List SO} {K : Nat → Res → Prop} {res : V} (h : FnOK cx.P cx.G g vs st res st') (hp : plainV res = true)
    (hK : K 2 ⟨res, none, st'⟩) : @callW cx g vs st ⟨K⟩ := ⟨2, res, st', ⟨hp, .inr (.inr ⟨rfl, h⟩)⟩, hK⟩

def boxAt (e : Env) (d : Nat) : Prop := match getE e d with
  | .box _ => True
  | _ => False
theorem boxAt_spec {e : Env} {d : Nat} (h : boxAt e d) : isBoxAt (getE e) d := by
  unfold boxAt at h
  split at h
  · next cs hc => exact ⟨cs, hc⟩
  · exact h.elim

def liveE (e : Env) : V → Prop
  | .lp d _ => boxAt e d
  | _ => True
theorem liveE_spec {e : Env} {v : V} (h : liveE e v) : liveV (getE e) v := by
  unfold liveV
  cases v <;> simp_all [liveE]
  exact boxAt_spec h

def ov (e : Env) (x : Operand) : V := opnd (getE e) x

def withSome {α : Type} (o : Option α) (K : α → Prop) : Prop := match o with
  | some a => K a
  | none => False
theorem withSome_spec {α : Type} {o : Option α} {K : α → Prop} (h : withSome o K) : ∃ a, o = some a ∧ K a := by
  cases o with
  | none => exact h.elim
  | some a => exact ⟨a, rfl, h⟩

def isGlob : Operand → Bool
  | .global _ => true
  | _ => false
def isTmp : Operand → Option Nat
  | .tmp t => some t
  | _ => none

/-- A builtin's call. -/
def biW (cx : Cx) (e : Env) (st : List SO) (K : Nat → Res → Prop) (b : Builtin) (args : List Operand) (ts : List TypeId) : Prop :=
  match b, args, ts with
  | .len, [x], [t] => onV (ov e x) fun vx => match vx with
    | .c (.sl xs) => isSl cx.P t = true ∧ K 0 ⟨.c (.int .i64 xs.length), none, st⟩
    | .c (.str l) => isStr cx.P t = true ∧ K 0 ⟨.c (.int .i64 l.length), none, st⟩
    | .own id ep => onO (st[id]?) fun vo => match vo with
      | some (.arr _ _ ep' xs) => ep' = ep ∧ isSl cx.P t = true ∧ K 1 ⟨.c (.int .i64 xs.length), none, st⟩
      | _ => False
    | .mref id => onO (st[id]?) fun vo => match vo with
      | some (.map _ _ es) => withSome (mapTy cx.P t) fun _ => K 1 ⟨.c (.int .i64 es.length), none, st⟩
      | _ => False
    | _ => False
  | .append, [x, y], [t, t'] => onV (ov e x) fun vx => onV (ov e y) fun vy => match vx, vy with
    | .own id ep, .c (.str l) => onO (st[id]?) fun vo => match vo with
      | some (.arr ety esz ep' xs) => ep' = ep ∧ byTy cx.P t = some ety ∧ isStr cx.P t' = true ∧ esz = 1 ∧ xs.length + l.length ≤ 140737488355328 ∧
          K 2 ⟨.own id (ep + 1), none, st.set id (.arr ety esz (ep + 1) (xs ++ l.map byteC))⟩
      | _ => False
    | .own id ep, .c (.sl ys) => t = t' ∧ onO (st[id]?) fun vo => match vo with
      | some (.arr ety esz ep' xs) => ep' = ep ∧ withSome (ownTy cx.P t) fun p => p.1 = ety ∧ p.2.1 = esz ∧ (∀ z ∈ ys, z.length = esz) ∧ xs.length + ys.length ≤ maxLen ∧
          (xs.length + ys.length) * p.2.2 ≤ 140737488355328 ∧ K 2 ⟨.own id (ep + 1), none, st.set id (.arr ety esz (ep + 1) (xs ++ ys))⟩
      | _ => False
    | _, _ => False
  | .unsafeSliceData, [x], _ => onV (ov e x) fun vx => match vx with
    | .own id ep => onO (st[id]?) fun vo => match vo with
      | some (.arr _ _ ep' xs) => ep' = ep ∧ xs ≠ [] ∧ K 1 ⟨.odp id ep, none, st⟩
      | _ => False
    | _ => False
  | .unsafeString, [x, y], [t, _] => onV (ov e x) fun vx => onV (ov e y) fun vy => match vx, vy with
    | .odp id ep, .c (.int .i64 m) => onO (st[id]?) fun vo => match vo with
      | some (.arr ety esz ep' xs) => ep' = ep ∧ m = xs.length ∧ xs ≠ [] ∧ isPtrTo cx.P t ety = true ∧ xs.length ≤ maxLen ∧ esz = 1 ∧ withSome (xs.mapM unB) fun bs => K 2 ⟨.c (.str bs), none, st.set id .dead⟩
      | _ => False
    | _, _ => False
  | .max, [x, y], _ => onV (ov e x) fun vx => onV (ov e y) fun vy => match vx, vy with
    | .c (.int k a), .c (.int _ b) => K 0 ⟨.c (.int k (if b > a then b else a)), none, st⟩
    | _, _ => False
  | .min, [x, y], _ => onV (ov e x) fun vx => onV (ov e y) fun vy => match vx, vy with
    | .c (.int k a), .c (.int _ b) => K 0 ⟨.c (.int k (if b < a then b else a)), none, st⟩
    | _, _ => False
  | .copy, [x, y], [t, _] => onV (ov e x) fun vx => onV (ov e y) fun vy => match vx, vy with
    | .psl id off len, .psl id' off' len' => onO (st[id]?) fun vo => onO (st[id']?) fun vo' => match vo, vo' with
      | some (.box cs), some (.box cs') => elS cx.P t = some 1 ∧ off + Nat.min len' len ≤ cs.length ∧ off' + Nat.min len' len ≤ cs'.length ∧
          K 2 ⟨.c (.int .i64 (Nat.min len' len : Nat)), none, st.set id (.box (cs.take off ++ (cs'.drop off').take (Nat.min len' len) ++ cs.drop (off + Nat.min len' len)))⟩
      | _, _ => False
    | _, _ => False
  | .delete, [m, k], [t, _] => onV (ov e m) fun vm => onV (ov e k) fun vk => match vm, vk with
    | .mref id, .c c => onO (st[id]?) fun vo => match vo with
      | some (.map kag ag es) => kag = false ∧ withSome (mapTy cx.P t) fun p => keyIn p.1 c = true ∧ keysIn p.1 es = true ∧ K 2 ⟨.tup [], none, st.set id (.map false ag (mdel c es))⟩
      | _ => False
    | _, _ => False
  | _, _, _ => False

/-- A call. -/
def callVW (cx : Cx) (e : Env) (st : List SO) (K : Nat → Res → Prop) (c : Call) (fo : Operand) : Prop :=
  (c.args.toList.map (ov e)).all plainV = true ∧ onV (ov e fo) fun vfo => match vfo with
    | .c (.fn g) => @callW cx g (c.args.toList.map (ov e)) st ⟨K⟩
    | .clo g caps => @callW cx g (c.args.toList.map (ov e) ++ caps) st ⟨K⟩
    | _ => False

def extW (cx : Cx) (an : Ann) (e : Env) (st : List SO) (K : Nat → Res → Prop) (g : FuncId) (args : List Operand) : Prop :=
  match args with
  | [x] => NoEsc cx.P g ∧ plainV (ov e x) = true ∧ K 0 ⟨ov e x, none, st⟩
  | _ => False
def isExt (l : List FuncId) (fo : Operand) : Option FuncId := match fo with
  | .func g => if l.contains g then some g else none
  | _ => none
def callOpW (cx : Cx) (an : Ann) (e : Env) (st : List SO) (K : Nat → Res → Prop) (c : Call) : Prop :=
  match c.callee with
  | .builtin b => biW cx e st K b c.args.toList c.argTypes.toList
  | .value fo => match isExt an.ext fo with
    | some g => extW cx an e st K g c.args.toList
    | none => callVW cx e st K c fo
  | _ => False

def makeFuncW (e : Env) (st : List SO) (K : Nat → Res → Prop) (fn : Fn) (first caps : List Operand) : Prop :=
  match fn, first with
  | .func g, [] => (caps.map (ov e)).all plainV = true ∧ K 0 ⟨.clo g (caps.map (ov e)), none, st⟩
  | _, _ => False

/-- A look-up in a package variable's map; what follows is closed to simp. -/
def lookW (cx : Cx) (t : TypeId) (g : Nat) (n : Int) (st : List SO) [K : KC] : Prop :=
  ∃ fn, HasG cx.G g ∧ (Lit.int .i64 n).wf = true ∧ LookG cx.P cx.G g t fn ∧ K.k 0 ⟨.tup [.agg ((fn n).2.map .c), .c (.bool (fn n).1)], none, st⟩

/-- One operation. -/
def opW (cx : Cx) (an : Ann) (o : LOp) (e : Env) (st : List SO) (K : Nat → Res → Prop) : Prop :=
  match o.op with
  | .move x => liveE e (ov e x) ∧ K 0 ⟨ov e x, none, st⟩
  | .assign x => match ownAt an.own o.dst, isNilC x with
    | some (ety, esz), true => K 2 ⟨.own st.length 0, none, st ++ [.arr ety esz 0 []]⟩
    | _, _ => liveE e (ov e x) ∧ K 0 ⟨ov e x, none, st⟩
  | .pick c a b => onV (ov e c) fun vc => match vc with
    | .c (.bool g) => (g = true → plainV (ov e a) = true) ∧ (g = false → plainV (ov e b) = true) ∧ K 0 ⟨if g then ov e a else ov e b, none, st⟩
    | _ => False
  | .alloc T => withSome (zvOf cx.P T) fun zs => okCells zs = true ∧
      match bldAt an.bld o.dst with
      | some ety => isBldZ zs = true ∧ K 2 ⟨.ptr (st.length + 1) 0, none, st ++ [.arr ety 1 0 []] ++ [.tbox T [.c .nilp, .own st.length 0]]⟩
      | none => if an.esc.contains (o.dst.getD 0) then (match ownAt an.own o.dst, isSlZ zs with
        | some (ety, esz), true => K 2 ⟨.ptr (st.length + 1) 0, none, st ++ [.arr ety esz 0 []] ++ [.box [.own st.length 0]]⟩
        | _, _ => K 2 ⟨.ptr st.length 0, none, st ++ [.box zs]⟩) else K 0 ⟨.box zs, none, st⟩
  | .box _ x => withSome (cellsV (ov e x)) fun cs => okCells cs = true ∧
      if an.esc.contains (o.dst.getD 0) then K 2 ⟨.ptr st.length 0, none, st ++ [.box cs]⟩ else K 0 ⟨.box cs, none, st⟩
  | .load t a => onV (ov e a) fun va => match va with
    | .lp d off => onV (getE e d) fun vd => match isTmp a, vd with
      | some t0, .box cs => withSome (loadAbs cx.P t cs off) fun v => plainV v = true ∧ K (if t0 = d ∧ off = 0 then 4 else 0) ⟨v, none, st⟩
      | _, _ => False
    | .ep cells off => withSome (loadC cx.P t cells off) fun v => K 0 ⟨v, none, st⟩
    | .gp g => agOf cx.P t = some false ∧ HasG cx.G g ∧ isGlob a = true ∧ K 0 ⟨.gv g, none, st⟩
    | .ptr id off => onO (st[id]?) fun vo => match vo with
      | some (.box cs) => withSome (loadAbs cx.P t cs off) fun v => plainV v = true ∧ K 1 ⟨v, none, st⟩
      | some (.tbox _ cs) => withSome (loadAbs cx.P t cs off) fun v => plainV v = true ∧ K 1 ⟨v, none, st⟩
      | _ => False
    | _ => False
  | .lookup t m k commaok => onV (ov e m) fun vm => onV (ov e k) fun vk => match vm, vk, commaok with
    | .gv g, .c (.int .i64 n), true => @lookW cx t g n st ⟨K⟩
    | .mref id, .c c, ok => onO (st[id]?) fun vo => match vo with
      | some (.map kag ag es) => kag = false ∧ withSome (mapTy cx.P t) fun p => keyIn p.1 c = true ∧ keysIn p.1 es = true ∧ plainV p.2.2 = true ∧ onO (mfind c es 0) fun r => match r, ok with
        | some q, true => K 1 ⟨.tup [valV ag q.2, .c (.bool true)], none, st⟩
        | some q, false => K 1 ⟨valV ag q.2, none, st⟩
        | none, true => K 1 ⟨.tup [p.2.2, .c (.bool false)], none, st⟩
        | none, false => K 1 ⟨p.2.2, none, st⟩
      | _ => False
    | _, _, _ => False
  | .range t x => onV (ov e x) fun vx => match vx with
    | .c (.str l) => isStr cx.P t = true ∧ K 2 ⟨.ptr st.length 0, none, st ++ [.siter l 0]⟩
    | _ => False
  | .next x b => onV (ov e x) fun vx => match vx, b with
    | .ptr id off, true => off = 0 ∧ onO (st[id]?) fun vo => match vo with
      | some (.siter l pos) => (pos < l.length → K 2 ⟨.tup [.c (.bool true), .c (.int .i64 pos), .c (.int .i32 (runeAt l pos).1)], none, st.set id (.siter l (pos + (runeAt l pos).2))⟩) ∧
          (¬ pos < l.length → K 2 ⟨.tup [.c (.bool false)], none, st⟩)
      | _ => False
    | _, _ => False
  | .makeMap t none => withSome (mapTy cx.P t) fun p => K 2 ⟨.mref st.length, none, st ++ [.map false p.2.1 []]⟩
  | .mapUpdate t m k x => onV (ov e m) fun vm => onV (ov e k) fun vk => match vm, vk with
    | .mref id, .c c => onO (st[id]?) fun vo => match vo with
      | some (.map kag ag es) => kag = false ∧ withSome (mapTy cx.P t) fun p => withSome (cellsC (ov e x)) fun cs => isAggV (ov e x) = ag ∧ keyIn p.1 c = true ∧ keysIn p.1 es = true ∧
          K 2 ⟨.tup [], none, st.set id (.map false ag (mput c cs es))⟩
      | _ => False
    | _, _ => False
  | .store t a x => onV (ov e a) fun va => match va with
    | .lp d off => onV (getE e d) fun vd => match isTmp a, vd with
      | some t0, .box cs => withSome (storeAbs cx.P t cs off (ov e x)) fun cs' => K (if t0 = d ∧ off = 0 then 3 else 2) ⟨.tup [], some (d, cs'), st⟩
      | _, _ => False
    | .ptr id off => onO (st[id]?) fun vo => match vo with
      | some (.box cs) => withSome (storeAbs cx.P t cs off (ov e x)) fun cs' => K 2 ⟨.tup [], none, st.set id (.box cs')⟩
      | some (.tbox T cs) => withSome (storeAbs cx.P t cs off (ov e x)) fun cs' => K 2 ⟨.tup [], none, st.set id (.tbox T cs')⟩
      | _ => False
    | _ => False
  | .nilCheck x => onV (ov e x) fun vx => match vx with
    | .lp d off => boxAt e d ∧ K 0 ⟨.lp d off, none, st⟩
    | .ptr id off => K 0 ⟨.ptr id off, none, st⟩
    | .ep cells off => K 0 ⟨.ep cells off, none, st⟩
    | _ => False
  | .binOp op t x y _ => onV (ov e x) fun vx => onV (ov e y) fun vy => match vx, vy with
    | .c (.bool a), .c (.bool b) => eqKind cx.P t = true ∧ (match op with
      | .eql => K 0 ⟨.c (.bool (a == b)), none, st⟩
      | .neq => K 0 ⟨.c (.bool (!(a == b))), none, st⟩
      | _ => False)
    | .agg xs, .agg ys => withSome (eqTy cx.P t) fun T => withSome (eqE T (.agg xs) (.agg ys)) fun r => (match op with
      | .eql => K 0 ⟨.c (.bool r), none, st⟩
      | .neq => K 0 ⟨.c (.bool (!r)), none, st⟩
      | _ => False)
    | vx, .c .nilp => isPtr cx.P t = true ∧ plainV vx = true ∧ withSome (nilPtrV vx) fun r => (match op with
      | .eql => K 0 ⟨.c (.bool r), none, st⟩
      | .neq => K 0 ⟨.c (.bool (!r)), none, st⟩
      | _ => False)
    | .ptr i o, .ptr i' o' => isPtr cx.P t = true ∧ i' = i ∧ o' = o ∧ (match op with
      | .neq => K 0 ⟨.c (.bool false), none, st⟩
      | _ => False)
    | vx, .c .nilfn => isFn cx.P t = true ∧ plainV vx = true ∧ withSome (nilFnV vx) fun r => (match op with
      | .eql => K 0 ⟨.c (.bool r), none, st⟩
      | .neq => K 0 ⟨.c (.bool (!r)), none, st⟩
      | _ => False)
    | vx, .c (.sl []) => isNilC y = true ∧ isSl cx.P t = true ∧ plainV vx = true ∧ (match op with
      | .eql => withSome (nilSlV true vx) fun r => K 0 ⟨r, none, st⟩
      | .neq => withSome (nilSlV false vx) fun r => K 0 ⟨r, none, st⟩
      | _ => False)
    | .c a, .c b => withSome (binC op a b) fun c => K 0 ⟨.c c, none, st⟩
    | _, _ => False
  | .unOp op _ x => onV (ov e x) fun vx => match op, vx with
    | .not, .c (.bool a) => K 0 ⟨.c (.bool (!a)), none, st⟩
    | .neg, .c (.int k n) => K 0 ⟨.c (.int k (k.wrap (0 - n))), none, st⟩
    | .xor, .c (.int k n) => K 0 ⟨.c (.int k (bNot k n)), none, st⟩
    | _, _ => False
  | .convert src dst x => onV (ov e x) fun vx => match vx with
    | .c (.int _ n) => (cx.P.underlying src).isSome = true ∧ withSome (intKindOf cx.P dst) fun k' => K 0 ⟨.c (.int k' (k'.wrap n)), none, st⟩
    | .own id ep => onO (st[id]?) fun vo => match vo with
      | some (.arr _ esz ep' xs) => ep' = ep ∧ isBytes cx.P src = true ∧ isStr cx.P dst = true ∧ esz = 1 ∧ xs.length ≤ maxLen ∧ withSome (bytesOf xs) fun bs => K 1 ⟨.c (.str bs), none, st⟩
      | _ => False
    | .ptr id off => off = 0 ∧ onO (st[id]?) fun vo => match vo with
      | some (.tbox T cs) => 0 < cs.length ∧ (toUns cx.P src dst || fromUns cx.P src dst T cs.length) = true ∧ K 1 ⟨.ptr id 0, none, st⟩
      | _ => False
    | _ => False
  | .makeSlice t a b => onV (ov e a) fun va => onV (ov e b) fun vb => match ownAt an.own o.dst with
    | some _ => (match va, vb with
      | .c (.int _ m), .c (.int _ n) => m = n ∧ 0 ≤ n ∧ boolSl cx.P t = true ∧ n.toNat ≤ 281474976710656 ∧ K 2 ⟨.psl st.length 0 n.toNat, none, st ++ [.box (List.replicate n.toNat (.c (.bool false)))]⟩
      | _, _ => False)
    | none => match va, vb with
    | .c (.int _ m), .c (.int _ n) => m = 0 ∧ 0 ≤ n ∧ withSome (ownTy cx.P t) fun p => p.2.2 * n.toNat ≤ 281474976710656 ∧ n.toNat ≤ maxLen ∧
        K 2 ⟨.own st.length 0, none, st ++ [.arr p.1 p.2.1 0 []]⟩
    | _, _ => False
  | .slice t x lo hi mx => match mx with
    | none => onV (ov e x) fun vx => match vx with
      | .c (.str l) => isStr cx.P t = true ∧ withSome (bndF (getE e) lo 0) fun a => withSome (bndF (getE e) hi l.length) fun b => a ≤ b ∧ b ≤ l.length ∧
          K 0 ⟨.c (.str ((l.take b).drop a)), none, st⟩
      | .c (.sl xs) => withSome (elS cx.P t) fun esz => (∀ y ∈ xs, y.length = esz) ∧ withSome (bndF (getE e) lo 0) fun a => withSome (bndF (getE e) hi xs.length) fun b => a ≤ b ∧ b ≤ xs.length ∧
          K 0 ⟨.c (.sl ((xs.take b).drop a)), none, st⟩
      | .ptr id off => withSome (elA cx.P t) fun p => withSome (bndF (getE e) lo 0) fun a => withSome (bndF (getE e) hi p.1) fun b => a ≤ b ∧ b ≤ p.1 ∧ a < p.1 ∧ p.1 ≤ maxLen ∧
          K 0 ⟨.psl id (off + a * p.2) (b - a), none, st⟩
      | _ => False
    | some mv => onV (ov e x) fun vx => match vx, lo, hi with
      | .c (.sl xs), none, some o2 => withSome (elS cx.P t) fun esz => (∀ y ∈ xs, y.length = esz) ∧ withSome (bndF (getE e) (some o2) 0) fun b => withSome (bndF (getE e) (some mv) 0) fun m => b ≤ m ∧ m ≤ xs.length ∧
          K 0 ⟨.c (.sl (xs.take b)), none, st⟩
      | _, _, _ => False
  | .fieldAddr t x k => withSome (fOff cx.P t k) fun off' => onV (ov e x) fun vx => match vx with
    | .lp d off => boxAt e d ∧ K 0 ⟨.lp d (off + off'), none, st⟩
    | .ep cells off => K 0 ⟨.ep cells (off + off'), none, st⟩
    | .ptr id off => K 0 ⟨.ptr id (off + off'), none, st⟩
    | _ => False
  | .field t x k => onV (ov e x) fun vx => match vx with
    | .agg cs => withSome (fTy cx.P t k) fun p => withSome (loadAbs cx.P p.2 cs p.1) fun v => plainV v = true ∧ K 0 ⟨v, none, st⟩
    | _ => False
  | .indexAddr t x i => onV (ov e x) fun vx => onV (ov e i) fun vi => match vx, vi with
    | .c (.sl xs), .c (.int _ n) => withSome (elS cx.P t) fun esz => 0 ≤ n ∧ withSome (xs[n.toNat]?) fun el => el.length = esz ∧ K 0 ⟨.ep el 0, none, st⟩
    | .lp d off, .c (.int _ n) => boxAt e d ∧ withSome (elA cx.P t) fun p => 0 ≤ n ∧ n < p.1 ∧ K 0 ⟨.lp d (off + n.toNat * p.2), none, st⟩
    | .ptr id off, .c (.int _ n) => withSome (elA cx.P t) fun p => 0 ≤ n ∧ n < p.1 ∧ K 0 ⟨.ptr id (off + n.toNat * p.2), none, st⟩
    | .psl id off len, .c (.int _ n) => withSome (elS cx.P t) fun esz => 0 ≤ n ∧ n < len ∧ K 0 ⟨.ptr id (off + n.toNat * esz), none, st⟩
    | _, _ => False
  | .index t x i => onV (ov e x) fun vx => onV (ov e i) fun vi => match vx, vi with
    | .c (.str l), .c (.int _ n) => isStr cx.P t = true ∧ 0 ≤ n ∧ withSome (l[n.toNat]?) fun b => K 0 ⟨.c (.int .u8 b.toNat), none, st⟩
    | .agg cs, .c (.int _ n) => withSome (arT cx.P t) fun p => 0 ≤ n ∧ n < p.1 ∧ withSome (loadAbs cx.P p.2.1 cs (n.toNat * p.2.2)) fun v => plainV v = true ∧ K 0 ⟨v, none, st⟩
    | _, _ => False
  | .extract x i => onV (ov e x) fun vx => match vx with
    | .tup cs => withSome (cs[i]?) fun v => plainV v = true ∧ K 0 ⟨v, none, st⟩
    | _ => False
  | .makeFunc fn first caps => makeFuncW e st K fn first.toList caps.toList
  | .build t parts => withSome (zvOf cx.P t) fun zs => withSome (plB cx.P t) fun pl =>
      (partsV (getE e) parts).all (fun p => plainV p.2 && ((cellsV p.2).map okCells).getD true) = true ∧
      match ownFld an.ofl o.dst with
      | some (off, ety, esz) => isSlZ ((zs[off]?).toList) = true ∧ withSome (fillV (pl[·]?) (zs.set off (.own st.length 0)) (partsV (getE e) parts)) fun cs => K 2 ⟨.agg cs, none, st ++ [.arr ety esz 0 []]⟩
      | none => withSome (fillV (pl[·]?) zs (partsV (getE e) parts)) fun cs => K 0 ⟨.agg cs, none, st⟩
  | .buildSlice t len parts => onO (cx.P.underlying t) fun vu => match vu with
    | some (.slice el) => withSome (szOf cx.P el) fun esz => len * esz ≤ 2 ^ 24 ∧ len ≤ maxLen ∧ (zvOf cx.P el).isSome = true ∧
        withSome (elemsOf (getE e) esz 0 parts.toList) fun xs => xs.length = len ∧ (match ownAt an.own o.dst with
          | some _ => K 2 ⟨.own st.length 0, none, st ++ [.arr el esz 0 xs]⟩
          | none => K 0 ⟨.c (.sl xs), none, st⟩)
    | _ => False
  | .call c => callOpW cx an e st K c
  | _ => False

section
variable {cx : Cx} {an : Ann}

theorem call_sound {e : Env} {st : List SO} {K : Nat → Res → Prop} {fo : Operand} {args : Array Operand} {ts : Array TypeId} {g : FuncId} {caps : List V}
    (hf : (caps = [] ∧ opnd (getE e) fo = .c (.fn g)) ∨ opnd (getE e) fo = .clo g caps) (hp : (args.toList.map (ov e)).all plainV = true)
    (h : @callW cx g (args.toList.map (ov e) ++ caps) st ⟨K⟩) : ∃ c r, K c r ∧ OpSound cx (.call { callee := .value fo, args, argTypes := ts }) (getE e) st c r := by
  obtain ⟨c, res, st', ⟨hr, hs⟩, hK⟩ := h
  rcases hs with ⟨rfl, rfl, hs⟩ | ⟨rfl, rfl, hs⟩ | ⟨rfl, hs⟩
  · exact ⟨_, _, hK, s_call0 hf rfl hp hr hs⟩
  · exact ⟨_, _, hK, s_call1 hf rfl hp hr hs⟩
  · exact ⟨_, _, hK, s_call2 hf rfl hp hr hs⟩

theorem biW_sound {e : Env} {st : List SO} {K : Nat → Res → Prop} {b : Builtin} {args : Array Operand} {ts : Array TypeId} (h : biW cx e st K b args.toList ts.toList) :
    ∃ c r, K c r ∧ OpSound cx (.call { callee := .builtin b, args, argTypes := ts }) (getE e) st c r := by
  obtain ⟨args⟩ := args
  obtain ⟨ts⟩ := ts
  simp only at h
  unfold biW at h
  simp only [onV, onO] at h
  split at h
  · split at h
    · next hx => exact ⟨_, _, h.2, s_len_sl hx h.1⟩
    · next hx => exact ⟨_, _, h.2, s_len_str hx h.1⟩
    · next id ep hx =>
      split at h
      · next ety esz ep' xs hs =>
        obtain ⟨rfl, ht, hK⟩ := h
        exact ⟨_, _, hK, s_len_own hx hs ht⟩
      · exact h.elim
    · next id hx =>
      split at h
      · next hs =>
        obtain ⟨p, ht, hK⟩ := withSome_spec h
        exact ⟨_, _, hK, s_lenM hx hs ht⟩
      · exact h.elim
    · exact h.elim
  · split at h
    · next id ep l hx hy =>
      split at h
      · next ety esz ep' xs hs =>
        obtain ⟨rfl, h1, h2, h3, h4, hK⟩ := h
        exact ⟨_, _, hK, s_appendStr hx hs hy h1 h2 h3 h4⟩
      · exact h.elim
    · next id ep ys hx hy =>
      obtain ⟨rfl, h⟩ := h
      split at h
      · next ety esz ep' xs hs =>
        obtain ⟨rfl, h⟩ := h
        obtain ⟨⟨p1, p2, p3⟩, hp, rfl, rfl, hz, hr, hb, hK⟩ := withSome_spec h
        exact ⟨_, _, hK, s_append hx hs hy hp hz hr hb⟩
      · exact h.elim
    · exact h.elim
  · split at h
    · next id ep hx =>
      split at h
      · next ety esz ep' xs hs =>
        obtain ⟨rfl, hn, hK⟩ := h
        exact ⟨_, _, hK, s_sliceData hx hs hn⟩
      · exact h.elim
    · exact h.elim
  · split at h
    · next id ep m hx hy =>
      split at h
      · next ety esz ep' xs hs =>
        obtain ⟨rfl, h1, h2, h3, h4, h5, h⟩ := h
        obtain ⟨bs, hb, hK⟩ := withSome_spec h
        exact ⟨_, _, hK, s_unsafeStr hx hy hs h1 h2 hb h3 h4 h5⟩
      · exact h.elim
    · exact h.elim
  · split at h
    · next hx hy => exact ⟨_, _, h, s_max hx hy⟩
    · exact h.elim
  · split at h
    · next hx hy => exact ⟨_, _, h, s_min hx hy⟩
    · exact h.elim
  · split at h
    · next hx hy =>
      split at h
      · next ho ho' =>
        obtain ⟨ht, h1, h2, hK⟩ := h
        exact ⟨_, _, hK, s_copyPsl hx hy ho ho' ht h1 h2⟩
      · exact h.elim
    · exact h.elim
  · split at h
    · next hm hk =>
      split at h
      · next ho =>
        obtain ⟨rfl, h⟩ := h
        obtain ⟨⟨d, ag, z⟩, ht, hc, hes, hK⟩ := withSome_spec h
        exact ⟨_, _, hK, s_delM hm ho hk ht hc hes⟩
      · exact h.elim
    · exact h.elim
  · exact h.elim

theorem callOpW_sound {e : Env} {st : List SO} {K : Nat → Res → Prop} {c : Call} (h : callOpW cx an e st K c) : ∃ k r, K k r ∧ OpSound cx (.call c) (getE e) st k r := by
  obtain ⟨callee, args, ts⟩ := c
  unfold callOpW at h
  simp only [onV, onO] at h
  split at h
  · exact biW_sound h
  · next fo =>
    split at h
    · next g hg =>
      have hfo : fo = Operand.func g := by
        unfold isExt at hg
        split at hg
        · split at hg
          · injection hg with hg; rw [hg]
          · cases hg
        · cases hg
      subst hfo
      obtain ⟨args⟩ := args
      simp only [extW] at h
      split at h
      · exact ⟨_, _, h.2.2, s_noEsc rfl rfl h.2.1 h.1⟩
      · exact h.elim
    simp only [callVW, onV] at h
    obtain ⟨hp, h⟩ := h
    split at h
    · next g hg => exact call_sound (caps := []) (.inl ⟨rfl, hg⟩) hp (by simpa using h)
    · next g caps hg => exact call_sound (.inr hg) hp h
    · exact h.elim
  · exact h.elim

theorem makeFuncW_sound {e : Env} {st : List SO} {K : Nat → Res → Prop} {fn : Fn} {first caps : Array Operand} (h : makeFuncW e st K fn first.toList caps.toList) :
    ∃ k r, K k r ∧ OpSound cx (.makeFunc fn first caps) (getE e) st k r := by
  obtain ⟨first⟩ := first
  simp only at h
  unfold makeFuncW at h
  split at h
  · refine ⟨_, _, h.2, s_makeFunc (by simp) fun i x v hi hv => ?_⟩
    rw [List.getElem?_map] at hv
    simp only [Array.getElem?_toList, hi, Option.map_some, Option.some.injEq] at hv
    subst hv
    exact ⟨rfl, List.all_eq_true.1 h.1 _ (List.mem_map.2 ⟨x, by simpa using Array.mem_of_getElem? hi, rfl⟩)⟩
  · exact h.elim

theorem opW_sound (lo : LOp) (e : Env) (st : List SO) (K : Nat → Res → Prop) (h : opW cx an lo e st K) : ∃ c r, K c r ∧ OpSound cx lo.op (getE e) st c r := by
  obtain ⟨dst, op, guard⟩ := lo
  unfold opW at h
  simp only [onV, onO] at h ⊢
  split at h
  · exact ⟨_, _, h.2, s_move (liveE_spec h.1)⟩
  · split at h
    · next hnil =>
      rw [isNilC_spec hnil]
      exact ⟨_, _, h, s_adopt _ _⟩
    · exact ⟨_, _, h.2, s_assign (liveE_spec h.1)⟩
  · split at h
    · next g hg => exact ⟨_, _, h.2.2, s_pick hg h.1 h.2.1⟩
    · exact h.elim
  · obtain ⟨zs, hz, ho, h⟩ := withSome_spec h
    split at h
    · exact ⟨_, _, h.2, s_allocB _ (by rw [hz, isBldZ_spec h.1])⟩
    · split at h
      · split at h
        · next hsl => exact ⟨_, _, h, s_allocO _ _ (by rw [hz, isSlZ_spec hsl])⟩
        · exact ⟨_, _, h, s_allocS hz ho⟩
      · exact ⟨_, _, h, s_alloc hz ho⟩
  · obtain ⟨cs, hz, ho, h⟩ := withSome_spec h
    split at h
    · exact ⟨_, _, h, s_boxS rfl hz ho⟩
    · exact ⟨_, _, h, s_box rfl hz ho⟩
  · next t a =>
    split at h
    · next d off hv =>
      split at h
      · next t0 cs ht hb =>
        obtain ⟨v, hv', hp, hK⟩ := withSome_spec h
        cases a with
        | tmp s =>
          simp only [isTmp, Option.some.injEq] at ht
          subst ht
          split at hK
          · next hc =>
            obtain ⟨rfl, rfl⟩ := hc
            exact ⟨_, _, hK, s_load_box hb hv' hp⟩
          · exact ⟨_, _, hK, s_load_lp hv hb hv' hp⟩
        | _ => simp [isTmp] at ht
      · exact h.elim
    · next cells off hv =>
      obtain ⟨v, hv', hK⟩ := withSome_spec h
      exact ⟨_, _, hK, s_load_ep hv hv'⟩
    · next g hv =>
      obtain ⟨ht, hg, hgl, hK⟩ := h
      cases a with
      | global g' =>
        have : g' = g := by
          have h5 : V.gp g' = V.gp g := hv
          injection h5
        subst this
        exact ⟨_, _, hK, s_loadG ht hg⟩
      | _ => simp [isGlob] at hgl
    · next id off hv =>
      split at h
      · next cs hs =>
        obtain ⟨v, hv', hp, hK⟩ := withSome_spec h
        exact ⟨_, _, hK, s_load_ptr hv hs hv' hp⟩
      · next T cs hs =>
        obtain ⟨v, hv', hp, hK⟩ := withSome_spec h
        exact ⟨_, _, hK, s_load_tptr hv hs hv' hp⟩
      · exact h.elim
    · exact h.elim
  · split at h
    · next hm hk =>
      obtain ⟨fn, h1, h2, h3, hK⟩ := h
      exact ⟨_, _, hK, s_lookG hm hk h1 h2 h3⟩
    · next id c ok hm hk =>
      split at h
      · next ho =>
        obtain ⟨rfl, h⟩ := h
        obtain ⟨⟨d, ag, z⟩, ht, hc, hes, hz, hK⟩ := withSome_spec h
        have hs := fun ok => s_lookM (ok := ok) (cx := cx) (f := getE e) (st := st) hm ho hk ht hz hc hes
        split at hK
        · next q hq => refine ⟨_, _, hK, ?_⟩; have := hs true; simp only [hq] at this; exact this
        · next q hq => refine ⟨_, _, hK, ?_⟩; have := hs false; simp only [hq] at this; exact this
        · next hq => refine ⟨_, _, hK, ?_⟩; have := hs true; simp only [hq] at this; exact this
        · next hq => refine ⟨_, _, hK, ?_⟩; have := hs false; simp only [hq] at this; exact this
      · exact h.elim
    · exact h.elim
  · split at h
    · next l hx => exact ⟨_, _, h.2, s_rangeStr hx h.1⟩
    · exact h.elim
  · split at h
    · next id off hx =>
      obtain ⟨rfl, h⟩ := h
      split at h
      · next l pos ho =>
        have hs := s_nextStr (cx := cx) hx ho
        by_cases hlt : pos < l.length
        · rw [if_pos hlt] at hs; exact ⟨_, _, h.1 hlt, hs⟩
        · rw [if_neg hlt] at hs; exact ⟨_, _, h.2 hlt, hs⟩
      · exact h.elim
    · exact h.elim
  · obtain ⟨⟨d, ag, z⟩, ht, hK⟩ := withSome_spec h
    exact ⟨_, _, hK, s_makeMap ht⟩
  · split at h
    · next hm hk =>
      split at h
      · next ho =>
        obtain ⟨rfl, h⟩ := h
        obtain ⟨⟨d, ag, z⟩, ht, h⟩ := withSome_spec h
        obtain ⟨cs, hcs, hag, hc, hes, hK⟩ := withSome_spec h
        exact ⟨_, _, hK, s_putM hm ho hk rfl hcs hag ht hc hes⟩
      · exact h.elim
    · exact h.elim
  · next t a x =>
    split at h
    · next d off hv =>
      split at h
      · next t0 cs ht hb =>
        obtain ⟨cs', hv', hK⟩ := withSome_spec h
        cases a with
        | tmp s =>
          simp only [isTmp, Option.some.injEq] at ht
          subst ht
          split at hK
          · next hc =>
            obtain ⟨rfl, rfl⟩ := hc
            exact ⟨_, _, hK, s_store_box hb rfl hv'⟩
          · exact ⟨_, _, hK, s_store_lp hv hb rfl hv'⟩
        | _ => simp [isTmp] at ht
      · exact h.elim
    · next id off hv =>
      split at h
      · next cs hs =>
        obtain ⟨cs', hv', hK⟩ := withSome_spec h
        exact ⟨_, _, hK, s_store_ptr hv hs rfl hv'⟩
      · next T cs hs =>
        obtain ⟨cs', hv', hK⟩ := withSome_spec h
        exact ⟨_, _, hK, s_store_tptr hv hs rfl hv'⟩
      · exact h.elim
    · exact h.elim
  · split at h
    · next d off hv => exact ⟨_, _, h.2, s_nilCheck_lp hv (boxAt_spec h.1)⟩
    · next id off hv => exact ⟨_, _, h, s_nilCheck_ptr hv⟩
    · next cells off hv => exact ⟨_, _, h, s_nilCheck_ep hv⟩
    · exact h.elim
  · next op' t x y t' =>
    split at h
    · next a b hx hy =>
      obtain ⟨ht, h⟩ := h
      split at h
      · exact ⟨_, _, h, s_eqBool hx hy ht⟩
      · exact ⟨_, _, h, s_neqBool hx hy ht⟩
      · exact h.elim
    · next xs ys hx hy =>
      obtain ⟨T, hT, h⟩ := withSome_spec h
      obtain ⟨r, hr, h⟩ := withSome_spec h
      split at h
      · exact ⟨_, _, h, s_eqSt hx hy hT hr⟩
      · exact ⟨_, _, h, s_neqSt hx hy hT hr⟩
      · exact h.elim
    · next hy =>
      obtain ⟨ht, hpl, h⟩ := h
      obtain ⟨r, hr, h⟩ := withSome_spec h
      split at h
      · exact ⟨_, _, h, s_eqNilPtr rfl hpl hy ht hr⟩
      · exact ⟨_, _, h, s_neqNilPtr rfl hpl hy ht hr⟩
      · exact h.elim
    · next hx hy =>
      obtain ⟨ht, rfl, rfl, h⟩ := h
      split at h
      · exact ⟨_, _, h, s_neqSame hx hy ht⟩
      · exact h.elim
    · next hy =>
      obtain ⟨ht, hpl, h⟩ := h
      obtain ⟨r, hr, h⟩ := withSome_spec h
      split at h
      · exact ⟨_, _, h, s_eqNilFn rfl hpl hy ht hr⟩
      · exact ⟨_, _, h, s_neqNilFn rfl hpl hy ht hr⟩
      · exact h.elim
    · next hy =>
      obtain ⟨hn, ht, hpl, h⟩ := h
      split at h
      · obtain ⟨r, hr, h⟩ := withSome_spec h
        exact ⟨_, _, h, s_eqNilSl rfl hpl hn ht hr⟩
      · obtain ⟨r, hr, h⟩ := withSome_spec h
        exact ⟨_, _, h, s_neqNilSl rfl hpl hn ht hr⟩
      · exact h.elim
    · next hx hy =>
      obtain ⟨c, hc, hK⟩ := withSome_spec h
      exact ⟨_, _, hK, s_bin hx hy hc⟩
    · exact h.elim
  · split at h
    · next hx => exact ⟨_, _, h, s_not hx⟩
    · next hx => exact ⟨_, _, h, s_neg hx⟩
    · next hx => exact ⟨_, _, h, s_compl hx⟩
    · exact h.elim
  · split at h
    · next hx =>
      obtain ⟨k', hk, hK⟩ := withSome_spec h.2
      exact ⟨_, _, hK, s_convInt hx h.1 hk⟩
    · next id ep hx =>
      split at h
      · next ety esz ep' xs hs =>
        obtain ⟨rfl, h1, h2, h3, h4, h⟩ := h
        obtain ⟨bs, hb, hK⟩ := withSome_spec h
        exact ⟨_, _, hK, s_bytesStr hx hs h1 h2 hb h4 h3⟩
      · exact h.elim
    · next id off hx =>
      obtain ⟨rfl, h⟩ := h
      split at h
      · next T cs hs =>
        obtain ⟨hc, ht, hK⟩ := h
        rw [Bool.or_eq_true] at ht
        rcases ht with ht | ht
        · exact ⟨_, _, hK, s_toUns hx hs hc ht⟩
        · exact ⟨_, _, hK, s_fromUns hx hs ht⟩
      · exact h.elim
    · exact h.elim
  · split at h
    · split at h
      · next ha hb =>
        obtain ⟨rfl, h0, h1, h2, hK⟩ := h
        exact ⟨_, _, hK, s_makePsl ha hb h0 h1 h2⟩
      · exact h.elim
    · split at h
      · next ha hb =>
        obtain ⟨rfl, h0, h⟩ := h
        obtain ⟨⟨p1, p2, p3⟩, hp, h1, h2, hK⟩ := withSome_spec h
        exact ⟨_, _, hK, s_make ha hb h0 hp h1 h2⟩
      · exact h.elim
  · split at h
    · split at h
      · next hx =>
        obtain ⟨ht, h⟩ := h
        obtain ⟨a, ha, h⟩ := withSome_spec h
        obtain ⟨b, hb, h1, h2, hK⟩ := withSome_spec h
        exact ⟨_, _, hK, s_sliceStr hx ht ha hb h1 h2⟩
      · next hx =>
        obtain ⟨esz, he, hz, h⟩ := withSome_spec h
        obtain ⟨a, ha, h⟩ := withSome_spec h
        obtain ⟨b, hb, h1, h2, hK⟩ := withSome_spec h
        exact ⟨_, _, hK, s_sliceSl hx he hz ha hb h1 h2⟩
      · next hx =>
        obtain ⟨p, hp, h⟩ := withSome_spec h
        obtain ⟨a, ha, h⟩ := withSome_spec h
        obtain ⟨b, hb, h1, h2, h3, h4, hK⟩ := withSome_spec h
        exact ⟨_, _, hK, s_slicePtr hx hp ha hb h1 h2 h3 h4⟩
      · exact h.elim
    · split at h
      · next hx =>
        obtain ⟨esz, he, hz, h⟩ := withSome_spec h
        obtain ⟨b, hb, h⟩ := withSome_spec h
        obtain ⟨m, hm, h1, h2, hK⟩ := withSome_spec h
        exact ⟨_, _, hK, s_slice3 hx he hz hb hm h1 h2⟩
      · exact h.elim
  · obtain ⟨o', ho, h⟩ := withSome_spec h
    split at h
    · next hx => exact ⟨_, _, h.2, s_fieldAddr_lp hx (boxAt_spec h.1) ho⟩
    · next hx => exact ⟨_, _, h, s_fieldAddr_ep hx ho⟩
    · next hx => exact ⟨_, _, h, s_fieldAddr_ptr hx ho⟩
    · exact h.elim
  · split at h
    · next hx =>
      obtain ⟨p, hp, h⟩ := withSome_spec h
      obtain ⟨v, hv, hpv, hK⟩ := withSome_spec h
      exact ⟨_, _, hK, s_field hx hp hv hpv⟩
    · exact h.elim
  · split at h
    · next hx hi =>
      obtain ⟨esz, he, h0, h⟩ := withSome_spec h
      obtain ⟨el, hel, hz, hK⟩ := withSome_spec h
      exact ⟨_, _, hK, s_indexAddr hx hi he h0 hel hz⟩
    · next hx hi =>
      obtain ⟨hb, h⟩ := h
      obtain ⟨p, hp, h0, hn, hK⟩ := withSome_spec h
      exact ⟨_, _, hK, s_indexAddr_arr hx (boxAt_spec hb) hi hp h0 hn⟩
    · next hx hi =>
      obtain ⟨p, hp, h0, hn, hK⟩ := withSome_spec h
      exact ⟨_, _, hK, s_indexAddr_ptr hx hi hp h0 hn⟩
    · next hx hi =>
      obtain ⟨p, hp, h0, hn, hK⟩ := withSome_spec h
      exact ⟨_, _, hK, s_indexAddr_psl hx hi hp h0 hn⟩
    · exact h.elim
  · split at h
    · next hx hi =>
      obtain ⟨ht, h0, h⟩ := h
      obtain ⟨b, hb, hK⟩ := withSome_spec h
      exact ⟨_, _, hK, s_indexStr hx hi ht h0 hb⟩
    · next hx hi =>
      obtain ⟨p, hp, h0, hn, h⟩ := withSome_spec h
      obtain ⟨v, hv, hpv, hK⟩ := withSome_spec h
      exact ⟨_, _, hK, s_indexAgg hx hi hp h0 hn hv hpv⟩
    · exact h.elim
  · split at h
    · next hx =>
      obtain ⟨v, hv, hp, hK⟩ := withSome_spec h
      exact ⟨_, _, hK, s_extract hx hv hp⟩
    · exact h.elim
  · exact makeFuncW_sound h
  · obtain ⟨zs, hz, h⟩ := withSome_spec h
    obtain ⟨pl, hpl, hp, h⟩ := withSome_spec h
    split at h
    · next off ety esz _ =>
      obtain ⟨hsl, h⟩ := h
      obtain ⟨cs, hf, hK⟩ := withSome_spec h
      refine ⟨_, _, hK, s_buildO (off := off) ety esz hz hpl ?_ hp hf⟩
      have h2 := isSlZ_spec hsl
      cases hzo : zs[off]? with
      | none => rw [hzo] at h2; cases h2
      | some u => rw [hzo] at h2; simpa using h2
    · obtain ⟨cs, hf, hK⟩ := withSome_spec h
      exact ⟨_, _, hK, s_buildB hz hpl hp hf⟩
  · split at h
    · next el hu =>
      obtain ⟨esz, hs, hbig, hm, hz, h⟩ := withSome_spec h
      obtain ⟨xs, hx, hlen, hK⟩ := withSome_spec h
      split at hK
      · exact ⟨_, _, hK, s_buildSliceOwn hu hs hbig hz hx hlen hm⟩
      · exact ⟨_, _, hK, s_buildSlice hu hs hbig hz hx hlen hm⟩
    · exact h.elim
  · exact callOpW_sound h
  · exact h.elim

variable {ks : Nat → List Nat} {e : Env} {st : List SO} {Q : Exit → Env → List SO → Prop}
theorem triW_reg {id : Nat} {ops : List LOp} {K : Env → List SO → Prop} (an : Ann)
    (h : regW (opW cx an) (ops.map (·.dst)) [] 2 ops 0 (cleanE (ops.map (·.dst)) e) st K) : TriX cx ks (.reg id ops false) e st (thenE K Q) := triL_reg opW_sound h
theorem triW_draw {id : Nat} {ops : List LOp} {K : Env → List SO → Prop} (an : Ann) (hm : cx.P.follows .mixedOrders = true)
    (h : regW (opW cx an) (ops.map (·.dst)) (ks id) 0 ops 0 (cleanE (ops.map (·.dst)) e) st K) : TriX cx ks (.reg id ops true) e st (thenE K Q) := triL_draw opW_sound hm h

theorem fn_intro_l {P : Program} {G : World → Prop} {g : FuncId} {fn : Func} {L : LCode} {N : Nat} {ks : Nat → List Nat} {args : List V} {st st' : List SO} {res : V} {rs : List ResultVar}
    (hf : P.funcs[g]? = some fn) (hr : fn.results.toList = rs) (hl : fn.body.map light = some L) (hB : fn.body.map (codeB N ks) = some true) (hN : fn.ntmps = N) (hname : fnB P g = true)
    (ha : args.length ≤ N) (h : StOk st → TriX ⟨P, G, N, st.length⟩ ks L (argE args 0) st (EndsX ⟨P, G, N, st.length⟩ rs res st')) : FnOK P G g args st res st' := by
  cases hb : fn.body with
  | none => rw [hb] at hl; cases hl
  | some c =>
    rw [hb] at hl hB
    simp only [Option.map_some, Option.some.injEq] at hl hB
    exact fn_intro hf hb hN hname hl hB ha (by rw [hr]; exact h)
end
end Go.L1
