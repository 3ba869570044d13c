/-
  L1, part g: memory operations. Generic in the program.
  L1, part h: stores, addresses, parts, functions as values, slices, lengths. Generic in the program.
  L1, part i: arithmetic, strings, parts, slices, lengths, functions as values. Generic in the program.
  L1, part j: contracts of functions, calls, what may be forgotten. Generic in the program.
  L1, part k: literals of structs and slices. Generic in the program.
-/
import Derived.Test.YthkmfboffnhkaaaGreatDoorM1
set_option linter.all false
namespace Go.L1
open Go

def Gh.push (γ : Gh) (l : Loc) : Gh := { γ with locs := γ.locs ++ [l] }
theorem owns_push {γ : Gh} {l : Loc} {b : Nat} : (γ.push l).owns b ↔ γ.owns b ∨ b ∈ l.blks := by
  unfold Gh.owns Gh.push
  constructor
  · rintro ⟨id, l', h, hb⟩
    simp only [List.getElem?_append] at h
    split at h
    · exact .inl ⟨id, l', h, hb⟩
    · right
      have : id - γ.locs.length = 0 := by
        rcases Nat.eq_zero_or_pos (id - γ.locs.length) with h0 | h0
        · exact h0
        · rw [List.getElem?_eq_none (by simp; omega)] at h; cases h
      rw [this] at h
      simp at h
      rw [h]
      exact hb
  · rintro (⟨id, l', h, hb⟩ | hb)
    · exact ⟨id, l', by simp only; rw [List.getElem?_append_left (lt_of_some h)]; exact h, hb⟩
    · exact ⟨γ.locs.length, l, by simp, hb⟩
theorem push_get {γ : Gh} {l l' : Loc} {i : Nat} : (γ.push l).locs[i]? = some l' ↔ γ.locs[i]? = some l' ∨ (i = γ.locs.length ∧ l' = l) := by
  unfold Gh.push
  simp only [List.getElem?_append]
  split
  · next h =>
    constructor
    · exact .inl
    · rintro (h1 | ⟨h1, _⟩)
      · exact h1
      · omega
  · next h =>
    constructor
    · intro h1
      have : i - γ.locs.length = 0 := by
        rcases Nat.eq_zero_or_pos (i - γ.locs.length) with h0 | h0
        · exact h0
        · rw [List.getElem?_eq_none (by simp; omega)] at h1; cases h1
      rw [this] at h1
      simp at h1
      exact .inr ⟨by omega, h1.symm⟩
    · rintro (h1 | ⟨h1, h2⟩)
      · exact absurd (lt_of_some h1) h
      · subst h1 h2; simp
theorem locsKept_push (γ : Gh) (l : Loc) (n : Nat) : LocsKept n γ (γ.push l) :=
  fun _ l' _ h => ⟨l', push_get.2 (.inl h), fun _ => rfl, fun _ => rfl, rfl, Nat.le_refl _⟩

theorem RelW.push {γ : Gh} {st : List SO} {w w' : World} (h : RelW γ st w) (hs : w.heap.size ≤ w'.heap.size) (hw : ∀ b, b < w.heap.size → w'.heap[b]? = w.heap[b]?)
    {l : Loc} {o : SO} (hl : ∀ b ∈ l.blks, w.heap.size ≤ b ∧ b < w'.heap.size) (hnd : l.blks.Nodup) (ho : RelO (γ.push l) w' l o) : RelW (γ.push l) (st ++ [o]) w' := by
  have hf := h.frame hs hw
  refine ⟨by simp [Gh.push, h.len], hf.basesz, hf.base, hf.plt, fun b hb => ?_, fun b hb ho' => ?_, fun i j l1 l2 b h1 h2 hb1 hb2 => ?_, fun i l1 h1 => ?_, fun i l1 o1 h1 h2 => ?_⟩
  · rcases owns_push.1 hb with h1 | h1
    · exact hf.olt b h1
    · exact (hl b h1).2
  · rcases owns_push.1 ho' with h1 | h1
    · exact hf.apart b hb h1
    · have := h.plt b hb
      have := (hl b h1).1
      omega
  · rcases push_get.1 h1 with h1 | ⟨e1, e1'⟩ <;> rcases push_get.1 h2 with h2 | ⟨e2, e2'⟩
    · exact h.inj i j l1 l2 b h1 h2 hb1 hb2
    · have h3 := h.olt b ⟨i, l1, h1, hb1⟩
      have h4 := (hl b (e2' ▸ hb2)).1
      omega
    · have h3 := h.olt b ⟨j, l2, h2, hb2⟩
      have h4 := (hl b (e1' ▸ hb1)).1
      omega
    · rw [e1, e2]
  · rcases push_get.1 h1 with h1 | ⟨rfl, rfl⟩
    · exact h.two i l1 h1
    · exact hnd
  · rcases push_get.1 h1 with h1 | ⟨rfl, rfl⟩
    · have hi : i < st.length := by have := lt_of_some h1; rw [h.len] at this; exact this
      rw [List.getElem?_append_left hi] at h2
      exact RelO.mono (γ := γ) (γ' := γ.push l) (fun _ h => h) (fun _ _ => rfl) (locsKept_push γ l _) (fun _ _ => rfl) (hf.objs i l1 o1 h1 h2)
    · rw [h.len] at h2
      simp at h2
      subst h2
      exact ho

theorem evoX_push {γ : Gh} {w w' : World} {l : Loc} (hos : w'.os = w.os) (ht : w'.tape = w.tape) (hout : w'.output = w.output)
    (hs : w.heap.size ≤ w'.heap.size) (hw : ∀ b, b < w.heap.size → w'.heap[b]? = w.heap[b]?) (hl : ∀ b ∈ l.blks, w.heap.size ≤ b) : EvoX none γ w (γ.push l) w' :=
  ⟨rfl, hos, ht, hout, hs, fun b hb _ _ => hw b hb, fun _ h => h, fun b hb _ => .inl hb, fun b hb hlt => by
    rcases owns_push.1 hb with h1 | h1
    · exact h1
    · have := hl b h1; omega, locsKept_push γ l _⟩

section
variable {cx : Cx} {f : Fenv} {st : List SO}

/-- A new block that the store takes. -/
theorem out_push {γ : Gh} {w : World} {gb : Nat → Nat} {cs : List V} {vs : Array Value} {T : TypeId} (hr : RelW γ st w) (hrow : RelRow γ w cs vs) :
    Out γ w gb ⟨.ptr st.length 0, none, st ++ [.box cs]⟩ (.pointer (some ⟨w.heap.size, 0, none⟩)) (w.alloc (.cells vs T)) := by
  have hw : ∀ b, b < w.heap.size → (w.alloc (.cells vs T)).heap[b]? = w.heap[b]? := fun b hb => heap_alloc_old w _ b hb
  have hpk : ∀ b, γ.pers b → (w.alloc (.cells vs T)).heap[b]? = w.heap[b]? := fun b hb => hw b (hr.plt b hb)
  have hbl : (⟨.pointer (some ⟨w.heap.size, 0, none⟩), none, 0⟩ : Loc).blks = [w.heap.size] := rfl
  refine ⟨γ.push ⟨.pointer (some ⟨w.heap.size, 0, none⟩), none, 0⟩, evoX_push rfl rfl rfl (by simp) hw (by rw [hbl]; simp), ?_, ?_, by simp⟩
  · refine hr.push (by simp) hw (by rw [hbl]; simp) (by rw [hbl]; simp) ⟨rfl, w.heap.size, vs, T, rfl, heap_alloc_at w _, ?_⟩
    exact RelRow.mono (γ := γ) (γ' := γ.push _) (fun _ h => h) hpk (locsKept_push _ _ _) hrow
  · refine RelV.ptr st.length 0 w.heap.size _ (push_get.2 (.inr ⟨hr.len.symm, rfl⟩)) rfl

theorem s_alloc {T : TypeId} {zs : List V} (hz : zvOf cx.P T = some zs) (ho : okCells zs = true) : OpSound cx (.alloc T) f st 0 ⟨.box zs, none, st⟩ := by
  have key : ∀ o : Oper, o.op = .alloc T → ∀ s, OpX cx o f s ⟨.box zs, none, s⟩ := by
    intro o hop s γ w gb ev h1 _ _ _
    obtain ⟨z, hz1, hz2⟩ := run_zero' (w := w) hz
    have hrun : (execOp ev o).run cx.P w = .ok (.value (.pointer (some ⟨w.heap.size, 0, none⟩))) (w.alloc (.cells z.cells T)) := by
      simp [execOp, hop, Instr.alloc, hz1, newVar, newRow]
    rw [hrun]
    refine out_alloc h1 (relRow_of (by rw [← hz2]; simp) ho fun i v x hi hx => ?_)
    rw [← hz2] at hi
    simp only [List.getElem?_map, Array.getElem?_toList, hx, Option.map_some, Option.some.injEq] at hi
    rw [← hi]
    exact relV_constV x
  exact ⟨fun o ho => key o ho st, fun o _ => ⟨by simp, by simp⟩, fun _ o ho s => key o ho s, fun _ => ⟨rfl, rfl⟩, by omega, by omega⟩

theorem s_allocS {T : TypeId} {zs : List V} (hz : zvOf cx.P T = some zs) (ho : okCells zs = true) : OpSound cx (.alloc T) f st 2 ⟨.ptr st.length 0, none, st ++ [.box zs]⟩ := by
  refine ⟨fun o hop γ w gb ev h1 _ _ _ => ?_, fun o _ => ⟨by simp, by simp⟩, by omega, by omega, by omega, by omega⟩
  obtain ⟨z, hz1, hz2⟩ := run_zero' (w := w) hz
  have hrun : (execOp ev o).run cx.P w = .ok (.value (.pointer (some ⟨w.heap.size, 0, none⟩))) (w.alloc (.cells z.cells T)) := by
    simp [execOp, hop, Instr.alloc, hz1, newVar, newRow]
  rw [hrun]
  refine out_push h1 (relRow_of (by rw [← hz2]; simp) ho fun i v x hi hx => ?_)
  rw [← hz2] at hi
  simp only [List.getElem?_map, Array.getElem?_toList, hx, Option.map_some, Option.some.injEq] at hi
  rw [← hi]
  exact relV_constV x

theorem cellsV_plain {v : V} {cs : List V} (h : cellsV v = some cs) : plainV v = true := by cases v <;> first | rfl | (simp [cellsV] at h)

theorem s_box {T : TypeId} {x : Operand} {v : V} {cs : List V} (hv : opnd f x = v) (hc : cellsV v = some cs) (ho : okCells cs = true) :
    OpSound cx (.box T x) f st 0 ⟨.box cs, none, st⟩ := by
  have key : ∀ o : Oper, o.op = .box T x → ∀ s, OpX cx o f s ⟨.box cs, none, s⟩ := by
    intro o hop s γ w gb ev h1 _ h3 _
    have hx := opnd_plain (x := x) h3 (by rw [hop]; simp [Op.operands]) hv (cellsV_plain hc)
    have hrun : (execOp ev o).run cx.P w = .ok (.value (.pointer (some ⟨w.heap.size, 0, none⟩))) (w.alloc (.cells (ev x).cells T)) := by
      simp [execOp, hop, Instr.box, newVar, newRow]
    rw [hrun]
    exact out_alloc h1 (relRow_cells hx hc ho)
  exact ⟨fun o ho => key o ho st, fun o _ => ⟨by simp, by simp⟩, fun _ o ho s => key o ho s, fun _ => ⟨rfl, rfl⟩, by omega, by omega⟩

theorem s_boxS {T : TypeId} {x : Operand} {v : V} {cs : List V} (hv : opnd f x = v) (hc : cellsV v = some cs) (ho : okCells cs = true) :
    OpSound cx (.box T x) f st 2 ⟨.ptr st.length 0, none, st ++ [.box cs]⟩ := by
  refine ⟨fun o hop γ w gb ev h1 _ h3 _ => ?_, fun o _ => ⟨by simp, by simp⟩, by omega, by omega, by omega, by omega⟩
  have hx := opnd_plain (x := x) h3 (by rw [hop]; simp [Op.operands]) hv (cellsV_plain hc)
  have hrun : (execOp ev o).run cx.P w = .ok (.value (.pointer (some ⟨w.heap.size, 0, none⟩))) (w.alloc (.cells (ev x).cells T)) := by
    simp [execOp, hop, Instr.box, newVar, newRow]
  rw [hrun]
  exact out_push h1 (relRow_cells hx hc ho)

/-! ### Loads -/
def loadAbs (P : Program) (t : TypeId) (cs : List V) (off : Nat) : Option V :=
  match agOf P t with
  | some true => match szOf P t with
    | some n => if off + n ≤ cs.length then some (.agg ((cs.drop off).take n)) else none
    | none => none
  | some false => cs[off]?
  | none => none

theorem load_row {γ : Gh} {w : World} {P : Program} {t T : TypeId} {b off : Nat} {cs : List V} {vs : Array Value} {fr : Nat × Nat} {v : V}
    (hh : w.heap[b]? = some (.cells vs T fr)) (hrow : RelRow γ w cs vs) (hl : loadAbs P t cs off = some v) :
    ∃ x, (loadVar t ⟨b, off, none⟩).run P w = .ok x w ∧ RelV γ w v x := by
  have hcell : ∀ j, w.cell? ⟨b, j, none⟩ = vs[j]? := fun j => by simp [World.cell?, hh]
  unfold loadAbs at hl
  split at hl
  · next ha =>
    split at hl
    · next n hn =>
      split at hl
      · next hle =>
        injection hl with hl
        subst hl
        have hlen : ((vs.toList.drop off).take n).length = n := by simp [hrow.1]; omega
        refine ⟨.agg ((vs.toList.drop off).take n).toArray, run_loadVar_agg ha (by rw [hlen]; exact hn) (fun j v hj => ?_), .agg _ _ (by simp [hrow.1]) fun i u x hi hx => ?_⟩
        · rw [add_mk, hcell]
          rw [List.getElem?_take] at hj
          split at hj
          · simpa using hj
          · cases hj
        · rw [List.getElem?_take] at hi
          simp only [List.getElem?_toArray, List.getElem?_take] at hx
          split at hi
          · next hin =>
            rw [if_pos hin] at hx
            simp at hi hx
            exact (hrow.2 _ _ _ hi hx).1
          · cases hi
      · cases hl
    · cases hl
  · next ha =>
    have hlt := lt_of_some hl
    have hv : vs[off]? = some (vs[off]'(by rw [hrow.1]; exact hlt)) := Array.getElem?_eq_getElem _
    exact ⟨_, run_loadVar_one ha (by rw [hcell]; exact hv), (hrow.2 _ _ _ hl hv).1⟩
  · cases hl

def loadC (P : Program) (t : TypeId) (cs : List C) (off : Nat) : Option V :=
  match agOf P t with
  | some true => match szOf P t with
    | some n => if off + n ≤ cs.length then some (.agg (((cs.drop off).take n).map .c)) else none
    | none => none
  | some false => (cs[off]?).map .c
  | none => none

theorem load_ep {γ : Gh} {w : World} {P : Program} {t : TypeId} {cells : List C} {off : Nat} {x : Value} {v : V} (hx : RelV γ w (.ep cells off) x) (hl : loadC P t cells off = some v) :
    ∃ a y, x = .pointer (some a) ∧ (loadVar t a).run P w = .ok y w ∧ RelV γ w v y := by
  cases hx with
  | ep _ _ a f hp hs hcell hr =>
    have hcell' : ∀ j c, cells[off + j]? = some c → w.cell? ((a.add off).add j) = some (f (off + j)) := fun j c hj => by rw [add_add]; exact hcell _ _ hj
    refine ⟨a.add off, ?_⟩
    unfold loadC at hl
    split at hl
    · next ha =>
      split at hl
      · next n hn =>
        split at hl
        · next hle =>
          injection hl with hl
          subst hl
          have hlen : ((List.range n).map fun j => f (off + j)).length = n := by simp
          refine ⟨.agg ((List.range n).map fun j => f (off + j)).toArray, rfl, run_loadVar_agg ha (by rw [hlen]; exact hn) (fun j v hj => ?_), .agg _ _ (by simp; omega) fun i u x hi hx => ?_⟩
          · simp only [List.getElem?_map, Option.map_eq_some_iff] at hj
            obtain ⟨k, hk, rfl⟩ := hj
            have hkn : k = j ∧ j < n := by
              rw [List.getElem?_eq_some_iff] at hk
              obtain ⟨h1, h2⟩ := hk
              simp at h1 h2
              exact ⟨h2.symm, h1⟩
            obtain ⟨rfl, hkn⟩ := hkn
            exact hcell' k _ (List.getElem?_eq_getElem (by omega))
          · simp only [List.getElem?_map, Option.map_eq_some_iff] at hi
            obtain ⟨c, hc, rfl⟩ := hi
            rw [List.getElem?_take] at hc
            split at hc
            · next hin =>
              rw [List.getElem?_drop] at hc
              simp only [List.getElem?_toArray, List.getElem?_map] at hx
              rw [List.getElem?_range hin] at hx
              simp at hx
              rw [← hx]
              exact .c _ _ (hr _ _ hc)
            · cases hc
        · cases hl
      · cases hl
    · next ha =>
      cases hc : cells[off]? with
      | none => rw [hc] at hl; cases hl
      | some c =>
        rw [hc] at hl
        injection hl with hl
        subst hl
        exact ⟨f off, rfl, run_loadVar_one ha (hcell _ _ hc), .c _ _ (hr _ _ hc)⟩
    · cases hl

theorem s_load_lp {t : TypeId} {s d off : Nat} {cs : List V} {v : V} (ha : opnd f (.tmp s) = .lp d off) (hb : f d = .box cs) (hl : loadAbs cx.P t cs off = some v) (hp : plainV v = true) :
    OpSound cx (.load t (.tmp s)) f st 0 ⟨v, none, st⟩ := by
  refine sound_plain hp fun o hop st γ w gb ev h1 _ h3 h4 => ?_
  have hx := opnd_rel (x := .tmp s) h3 (by simp [Op.operands])
  rw [ha] at hx
  have hx' : ev (.tmp s) = .pointer (some ⟨gb d, off, none⟩) := hx
  have hc : Cont γ w (gb d) cs := by
    obtain ⟨k1, k2⟩ := h4 s rfl
    simp only [opnd] at ha
    cases hf : f s with
    | box c =>
      rw [hf] at ha
      simp only [slotV, V.lp.injEq] at ha
      obtain ⟨rfl, rfl⟩ := ha
      exact k1 cs hb
    | lp d' off' =>
      rw [hf] at ha
      simp only [slotV, V.lp.injEq] at ha
      obtain ⟨rfl, rfl⟩ := ha
      exact k2 _ _ cs hf hb
    | _ => rw [hf] at ha; simp [slotV] at ha
  obtain ⟨_, _, _, vs, T, hh, hrow⟩ := hc
  obtain ⟨x, hrun, hrel⟩ := load_row hh hrow hl
  exact ⟨x, by simp [execOp, hop, hx', Instr.loadAt, Instr.sureAddr, hrun], hrel⟩

theorem s_load_box {t : TypeId} {d : Nat} {cs : List V} {v : V} (hb : f d = .box cs) (hl : loadAbs cx.P t cs 0 = some v) (hp : plainV v = true) :
    OpSound cx (.load t (.tmp d)) f st 4 ⟨v, none, st⟩ := by
  have h := s_load_lp (cx := cx) (st := st) (t := t) (s := d) (d := d) (off := 0) (by simp only [opnd, hb, slotV]) hb hl hp
  exact ⟨h.x, h.side, fun _ => h.c0 (.inl rfl), fun _ => ⟨rfl, rfl⟩, by omega, fun _ => ⟨d, cs, rfl, hb⟩⟩
theorem s_load_ep {t : TypeId} {a : Operand} {cells : List C} {off : Nat} {v : V} (ha : opnd f a = .ep cells off) (hl : loadC cx.P t cells off = some v) :
    OpSound cx (.load t a) f st 0 ⟨v, none, st⟩ := by
  have hp : plainV v = true := by
    unfold loadC at hl
    split at hl <;> (try split at hl) <;> (try split at hl) <;> simp at hl
    · subst hl; rfl
    · obtain ⟨c, _, rfl⟩ := hl; rfl
  refine sound_plain hp fun o hop st γ w gb ev h1 _ h3 _ => ?_
  have hx := opnd_plain (x := a) h3 (by simp [Op.operands]) ha rfl
  obtain ⟨ad, y, he, hrun, hrel⟩ := load_ep hx hl
  exact ⟨y, by simp [execOp, hop, he, Instr.loadAt, Instr.sureAddr, hrun], hrel⟩

theorem s_load_ptr {t : TypeId} {a : Operand} {id off : Nat} {cs : List V} {v : V} (ha : opnd f a = .ptr id off) (hs : st[id]? = some (.box cs)) (hl : loadAbs cx.P t cs off = some v)
    (hp : plainV v = true) : OpSound cx (.load t a) f st 1 ⟨v, none, st⟩ := by
  refine sound_read hp fun o hop γ w gb ev h1 _ h3 _ => ?_
  have hx := opnd_plain (x := a) h3 (by simp [Op.operands]) ha rfl
  generalize hev : ev a = y at hx
  cases hx with
  | ptr _ _ b l hloc hb =>
    obtain ⟨_, b', vs, T, hb', hh, hrow⟩ := h1.objs id l _ hloc hs
    rw [hb] at hb'
    simp at hb'
    subst hb'
    obtain ⟨x, hrun, hrel⟩ := load_row hh hrow hl
    exact ⟨x, by simp [execOp, hop, hev, Instr.loadAt, Instr.sureAddr, hrun], hrel⟩
theorem s_load_tptr {t T : TypeId} {a : Operand} {id off : Nat} {cs : List V} {v : V} (ha : opnd f a = .ptr id off) (hs : st[id]? = some (.tbox T cs)) (hl : loadAbs cx.P t cs off = some v)
    (hp : plainV v = true) : OpSound cx (.load t a) f st 1 ⟨v, none, st⟩ := by
  refine sound_read hp fun o hop γ w gb ev h1 _ h3 _ => ?_
  have hx := opnd_plain (x := a) h3 (by simp [Op.operands]) ha rfl
  generalize hev : ev a = y at hx
  cases hx with
  | ptr _ _ b l hloc hb =>
    obtain ⟨_, b', vs, hb', hh, hrow⟩ := h1.objs id l _ hloc hs
    rw [hb] at hb'
    simp at hb'
    subst hb'
    obtain ⟨x, hrun, hrel⟩ := load_row hh hrow hl
    exact ⟨x, by simp [execOp, hop, hev, Instr.loadAt, Instr.sureAddr, hrun], hrel⟩
end
end Go.L1
namespace Go.L1
open Go

def storeAbs (P : Program) (t : TypeId) (cs : List V) (off : Nat) (v : V) : Option (List V) :=
  match cellsV v, szOf P t with
  | some us, some n => if us.length = n ∧ off + n ≤ cs.length ∧ okCells us = true then some (cs.take off ++ us ++ cs.drop (off + n)) else none
  | _, _ => none

section
variable {cx : Cx} {f : Fenv} {st : List SO}

theorem store_row {γ : Gh} {w : World} {P : Program} {t T : TypeId} {b off : Nat} {cs cs' : List V} {vs : Array Value} {v : V} {x : Value}
    (hh : w.heap[b]? = some (.cells vs T (0, 0))) (hrow : RelRow γ w cs vs) (hx : RelV γ w v x) (hs : storeAbs P t cs off v = some cs') :
    ∃ vs' : Array Value, (storeVar t ⟨b, off, none⟩ x).run P w = .ok () (w.setRow b vs') ∧ RelRow γ w cs' vs' := by
  unfold storeAbs at hs
  split at hs
  · next us n hus hn =>
    split at hs
    · next hcond =>
      obtain ⟨h1, h2, h3⟩ := hcond
      injection hs with hs
      subst hs
      have hr := relRow_cells hx hus h3
      have hsz : x.cells.size = n := by rw [hr.1, h1]
      refine ⟨(vs.toList.take off ++ x.cells.toList ++ vs.toList.drop (off + x.cells.toList.length)).toArray, ?_, ?_, ?_⟩
      · have hst := run_storeCells_at (P := P) b off T x.cells.toList 0 vs w hh (by simp [hsz, hrow.1]; omega) (fun u hu => by
          obtain ⟨i, hi⟩ := List.mem_iff_getElem?.1 hu
          have hlt := lt_of_some hi
          have hui : us[i]? = some (us[i]'(by simp [hr.1] at hlt; omega)) := List.getElem?_eq_getElem _
          exact (hr.2 i _ u hui (by simpa using hi)).2)
        unfold storeVar
        simp only [Sem.run_bind, run_sizeOf' hn, Result.andThen_ok, hsz, ne_eq, ite_not]
        simpa using hst
      · simp [hrow.1, hr.1, h1]
      · intro i u y hi hy
        simp only [List.getElem?_toArray] at hy
        rw [List.append_assoc, List.getElem?_append] at hi
        rw [List.append_assoc, List.getElem?_append] at hy
        have ht : (cs.take off).length = off := by simp; omega
        have ht' : (vs.toList.take off).length = off := by simp [hrow.1]; omega
        rw [ht] at hi
        rw [ht'] at hy
        split at hi
        · next hlt =>
          rw [if_pos hlt] at hy
          rw [List.getElem?_take_of_lt hlt] at hi hy
          exact hrow.2 i u y hi (by simpa using hy)
        · next hge =>
          rw [if_neg hge] at hy
          rw [List.getElem?_append] at hi hy
          have hl2 : x.cells.toList.length = us.length := by simp [hr.1]
          rw [hl2] at hy
          split at hi
          · next hlt =>
            rw [if_pos hlt] at hy
            exact hr.2 _ u y hi (by simpa using hy)
          · next hge2 =>
            rw [if_neg hge2] at hy
            rw [List.getElem?_drop] at hi hy
            rw [h1] at hi hy
            exact hrow.2 _ u y hi (by simpa using hy)
    · cases hs
  · cases hs

theorem s_store_lp {t : TypeId} {s d off : Nat} {x : Operand} {cs cs' : List V} {v : V} (ha : opnd f (.tmp s) = .lp d off) (hb : f d = .box cs) (hv : opnd f x = v)
    (hs : storeAbs cx.P t cs off v = some cs') : OpSound cx (.store t (.tmp s) x) f st 2 ⟨.tup [], some (d, cs'), st⟩ := by
  have hp : plainV v = true := by
    unfold storeAbs at hs
    split at hs
    · next us n hus _ => exact cellsV_plain hus
    · cases hs
  refine ⟨fun o hop γ w gb ev h1 _ h3 h4 => ?_, fun o hop => ⟨by simp, fun d' cs1 he => ?_⟩, by omega, by omega, by omega, by omega⟩
  · rw [hop] at h3 h4
    have hx := opnd_rel (x := .tmp s) h3 (by simp [Op.operands])
    rw [ha] at hx
    have hx' : ev (.tmp s) = .pointer (some ⟨gb d, off, none⟩) := hx
    have hval := opnd_plain (x := x) h3 (by simp [Op.operands]) hv hp
    have hc : Cont γ w (gb d) cs := by
      obtain ⟨k1, k2⟩ := h4 s rfl
      simp only [opnd] at ha
      cases hf : f s with
      | box c =>
        rw [hf] at ha
        simp only [slotV, V.lp.injEq] at ha
        obtain ⟨rfl, rfl⟩ := ha
        exact k1 cs hb
      | lp d' off' =>
        rw [hf] at ha
        simp only [slotV, V.lp.injEq] at ha
        obtain ⟨rfl, rfl⟩ := ha
        exact k2 _ _ cs hf hb
      | _ => rw [hf] at ha; simp [slotV] at ha
    obtain ⟨c1, c2, c3, vs, T, hh, hrow⟩ := hc
    obtain ⟨vs', hrun, hrow'⟩ := store_row hh hrow hval hs
    have hrun' : (execOp ev o).run cx.P w = .ok .skip (w.setRow (gb d) vs') := by
      simp [execOp, hop, hx', Instr.storeAt, Instr.sureAddr, hrun]
    rw [hrun']
    have hother : ∀ b, b ≠ gb d → (w.setRow (gb d) vs').heap[b]? = w.heap[b]? := fun b hb => setRow_other w (gb d) b vs' hb
    have hpk : ∀ b, γ.pers b → (w.setRow (gb d) vs').heap[b]? = w.heap[b]? := fun b hb => hother b (fun h => c1 (h ▸ hb))
    refine ⟨γ, ⟨rfl, rfl, rfl, rfl, by simp, fun b _ _ hne => hother b (fun h => hne (by simp [h])), fun _ h => h, fun _ h _ => .inl h, fun _ h _ => h, .refl _ _⟩, ?_, .tup [] #[] rfl (by simp), ?_⟩
    · have h := h1
      refine ⟨h.len, by simpa using h.basesz, fun b hb => ⟨(h.base b hb).1, (hpk b (h.base b hb).1).trans (h.base b hb).2⟩, fun b hb => by simpa using h.plt b hb,
        fun b hb => by simpa using h.olt b hb, h.apart, h.inj, h.two, fun i l o hl ho => ?_⟩
      exact (h.objs i l o hl ho).mono (fun _ h => h) hpk (.refl _ _) (fun b hb => hother b (fun he => c2 (he ▸ ⟨i, l, hl, hb⟩)))
    · intro d' cs1 he
      simp only [Option.some.injEq, Prod.mk.injEq] at he
      obtain ⟨rfl, rfl⟩ := he
      exact ⟨c1, c2, by simpa using c3, vs', T, setRow_heap w _ vs vs' T (0, 0) hh, hrow'.mono (fun _ h => h) hpk (.refl _ _)⟩
  · simp only [Option.some.injEq, Prod.mk.injEq] at he
    obtain ⟨rfl, rfl⟩ := he
    exact ⟨comes_of_opnd (x := .tmp s) (by rw [hop]; simp [Op.operands]) ha ⟨cs, hb⟩, by rw [hop]; rfl⟩

theorem s_store_box {t : TypeId} {d : Nat} {x : Operand} {cs cs' : List V} {v : V} (hb : f d = .box cs) (hv : opnd f x = v)
    (hs : storeAbs cx.P t cs 0 v = some cs') : OpSound cx (.store t (.tmp d) x) f st 3 ⟨.tup [], some (d, cs'), st⟩ := by
  have h := s_store_lp (st := st) (t := t) (s := d) (d := d) (off := 0) (x := x) (by simp only [opnd, hb, slotV]) hb hv hs
  exact ⟨h.x, h.side, by omega, by omega, fun _ o ho => ⟨rfl, d, cs', cs, by rw [ho]; rfl, rfl, hb, by rw [ho]; rfl⟩, by omega⟩

theorem s_store_ptr {t : TypeId} {a x : Operand} {id off : Nat} {cs cs' : List V} {v : V} (ha : opnd f a = .ptr id off) (ho : st[id]? = some (.box cs)) (hv : opnd f x = v)
    (hs : storeAbs cx.P t cs off v = some cs') : OpSound cx (.store t a x) f st 2 ⟨.tup [], none, st.set id (.box cs')⟩ := by
  have hp : plainV v = true := by
    unfold storeAbs at hs
    split at hs
    · next us n hus _ => exact cellsV_plain hus
    · cases hs
  refine ⟨fun o hop γ w gb ev h1 _ h3 h4 => ?_, fun o hop => ⟨by simp, by simp⟩, by omega, by omega, by omega, by omega⟩
  rw [hop] at h3 h4
  have hx := opnd_plain (x := a) h3 (by simp [Op.operands]) ha rfl
  have hval := opnd_plain (x := x) h3 (by simp [Op.operands]) hv hp
  generalize hev : ev a = y at hx
  cases hx with
  | ptr _ _ b l hloc hb =>
    obtain ⟨hb2, b', vs, T, hb', hh, hrow⟩ := h1.objs id l _ hloc ho
    rw [hb] at hb'
    simp at hb'
    subst hb'
    obtain ⟨vs', hrun, hrow'⟩ := store_row hh hrow hval hs
    have hrun' : (execOp ev o).run cx.P w = .ok .skip (w.setRow b vs') := by
      simp [execOp, hop, hev, Instr.storeAt, Instr.sureAddr, hrun]
    rw [hrun']
    have hown : γ.owns b := ⟨id, l, hloc, by unfold Loc.blks; rw [hb]; simp [blkOf]⟩
    have hother : ∀ b', b' ≠ b → (w.setRow b vs').heap[b']? = w.heap[b']? := fun b' hb' => setRow_other w b b' vs' hb'
    have hpk : ∀ b', γ.pers b' → (w.setRow b vs').heap[b']? = w.heap[b']? := fun b' hb' => hother b' (fun h => h1.apart b' hb' (h ▸ hown))
    refine ⟨γ, ⟨rfl, rfl, rfl, rfl, by simp, fun b' _ hno _ => hother b' (fun h => hno (h ▸ hown)), fun _ h => h, fun _ h _ => .inl h, fun _ h _ => h, .refl _ _⟩, ?_, .tup [] #[] rfl (by simp), by simp⟩
    have h := h1
    refine ⟨by simp [h.len], by simpa using h.basesz, fun b hb => ⟨(h.base b hb).1, (hpk b (h.base b hb).1).trans (h.base b hb).2⟩, fun b hb => by simpa using h.plt b hb,
      fun b hb => by simpa using h.olt b hb, h.apart, h.inj, h.two, fun i l' o' hl' ho' => ?_⟩
    by_cases hi : i = id
    · subst hi
      have hll : l' = l := Option.some.inj (hl'.symm.trans hloc)
      subst hll
      rw [List.getElem?_set_self (lt_of_some ho)] at ho'
      injection ho' with ho'
      subst ho'
      exact ⟨hb2, b, vs', T, hb, setRow_heap w _ vs vs' T (0, 0) hh, hrow'.mono (fun _ h => h) hpk (.refl _ _)⟩
    · simp only at ho'
      rw [List.getElem?_set_ne (Ne.symm hi)] at ho'
      refine (h.objs i l' o' hl' ho').mono (fun _ h => h) hpk (.refl _ _) (fun b' hb' => hother b' (fun he => hi ?_))
      subst he
      exact h.inj i id l' l b' hl' hloc hb' (by unfold Loc.blks; rw [hb]; simp [blkOf])

theorem s_store_tptr {t TT : TypeId} {a x : Operand} {id off : Nat} {cs cs' : List V} {v : V} (ha : opnd f a = .ptr id off) (ho : st[id]? = some (.tbox TT cs)) (hv : opnd f x = v)
    (hs : storeAbs cx.P t cs off v = some cs') : OpSound cx (.store t a x) f st 2 ⟨.tup [], none, st.set id (.tbox TT cs')⟩ := by
  have hp : plainV v = true := by
    unfold storeAbs at hs
    split at hs
    · next us n hus _ => exact cellsV_plain hus
    · cases hs
  refine ⟨fun o hop γ w gb ev h1 _ h3 h4 => ?_, fun o hop => ⟨by simp, by simp⟩, by omega, by omega, by omega, by omega⟩
  rw [hop] at h3 h4
  have hx := opnd_plain (x := a) h3 (by simp [Op.operands]) ha rfl
  have hval := opnd_plain (x := x) h3 (by simp [Op.operands]) hv hp
  generalize hev : ev a = y at hx
  cases hx with
  | ptr _ _ b l hloc hb =>
    obtain ⟨hb2, b', vs, hb', hh, hrow⟩ := h1.objs id l _ hloc ho
    rw [hb] at hb'
    simp at hb'
    subst hb'
    obtain ⟨vs', hrun, hrow'⟩ := store_row hh hrow hval hs
    have hrun' : (execOp ev o).run cx.P w = .ok .skip (w.setRow b vs') := by
      simp [execOp, hop, hev, Instr.storeAt, Instr.sureAddr, hrun]
    rw [hrun']
    have hown : γ.owns b := ⟨id, l, hloc, by unfold Loc.blks; rw [hb]; simp [blkOf]⟩
    have hother : ∀ b', b' ≠ b → (w.setRow b vs').heap[b']? = w.heap[b']? := fun b' hb' => setRow_other w b b' vs' hb'
    have hpk : ∀ b', γ.pers b' → (w.setRow b vs').heap[b']? = w.heap[b']? := fun b' hb' => hother b' (fun h => h1.apart b' hb' (h ▸ hown))
    refine ⟨γ, ⟨rfl, rfl, rfl, rfl, by simp, fun b' _ hno _ => hother b' (fun h => hno (h ▸ hown)), fun _ h => h, fun _ h _ => .inl h, fun _ h _ => h, .refl _ _⟩, ?_, .tup [] #[] rfl (by simp), by simp⟩
    have h := h1
    refine ⟨by simp [h.len], by simpa using h.basesz, fun b hb => ⟨(h.base b hb).1, (hpk b (h.base b hb).1).trans (h.base b hb).2⟩, fun b hb => by simpa using h.plt b hb,
      fun b hb => by simpa using h.olt b hb, h.apart, h.inj, h.two, fun i l' o' hl' ho' => ?_⟩
    by_cases hi : i = id
    · subst hi
      have hll : l' = l := Option.some.inj (hl'.symm.trans hloc)
      subst hll
      rw [List.getElem?_set_self (lt_of_some ho)] at ho'
      injection ho' with ho'
      subst ho'
      exact ⟨hb2, b, vs', hb, setRow_heap w _ vs vs' TT (0, 0) hh, hrow'.mono (fun _ h => h) hpk (.refl _ _)⟩
    · simp only at ho'
      rw [List.getElem?_set_ne (Ne.symm hi)] at ho'
      refine (h.objs i l' o' hl' ho').mono (fun _ h => h) hpk (.refl _ _) (fun b' hb' => hother b' (fun he => hi ?_))
      subst he
      exact h.inj i id l' l b' hl' hloc hb' (by unfold Loc.blks; rw [hb]; simp [blkOf])

/-! ### Addresses -/
theorem run_fieldAt {P : Program} {w : World} {t : TypeId} {k o : Nat} {a : Addr} (h : fOff P t k = some o) :
    (Instr.fieldAt t (.pointer (some a)) k).run P w = .ok (.pointer (some (a.add o))) w := by
  unfold fOff at h
  split at h
  · next fs hu =>
    cases hk : fs[k]? with
    | none => rw [hk] at h; cases h
    | some fl =>
      rw [hk] at h
      simp only [Option.bind_some] at h
      split at h
      · next n hn =>
        injection h with h
        subst h
        simp [Instr.fieldAt, underlying, hu, hk, Instr.sureAddr, fieldPlace, run_sizeOf' hn]
      · cases h
  · cases h

theorem s_fieldAddr_lp {t : TypeId} {x : Operand} {k o d off : Nat} (hx : opnd f x = .lp d off) (hb : isBoxAt f d) (hf : fOff cx.P t k = some o) :
    OpSound cx (.fieldAddr t x k) f st 0 ⟨.lp d (off + o), none, st⟩ :=
  sound_val (fun oo hop st γ w gb ev _ _ h3 _ => by
    have h := opnd_rel (x := x) h3 (by simp [Op.operands])
    rw [hx] at h
    have h' : ev x = .pointer (some ⟨gb d, off, none⟩) := h
    exact ⟨.pointer (some (Addr.add ⟨gb d, off, none⟩ o)), by simp [execOp, hop, h', run_fieldAt hf], by rw [add_mk]; rfl⟩)
    (fun oo hop d' off' he => by
      injection he with he
      subst he
      exact comes_of_opnd (x := x) (by rw [hop]; simp [Op.operands]) hx hb)
theorem s_fieldAddr_ep {t : TypeId} {x : Operand} {k o off : Nat} {cells : List C} (hx : opnd f x = .ep cells off) (hf : fOff cx.P t k = some o) :
    OpSound cx (.fieldAddr t x k) f st 0 ⟨.ep cells (off + o), none, st⟩ :=
  sound_plain rfl fun oo hop st γ w gb ev _ _ h3 _ => by
    have h := opnd_plain (x := x) h3 (by simp [Op.operands]) hx rfl
    generalize hev : ev x = y at h
    cases h with
    | ep _ _ a fn hp hs hcell hr =>
      exact ⟨.pointer (some ((a.add off).add o)), by simp [execOp, hop, hev, run_fieldAt hf], by rw [add_add]; exact .ep _ _ a fn hp hs hcell hr⟩
theorem s_fieldAddr_ptr {t : TypeId} {x : Operand} {k o id off : Nat} (hx : opnd f x = .ptr id off) (hf : fOff cx.P t k = some o) :
    OpSound cx (.fieldAddr t x k) f st 0 ⟨.ptr id (off + o), none, st⟩ :=
  sound_plain rfl fun oo hop st γ w gb ev _ _ h3 _ => by
    have h := opnd_plain (x := x) h3 (by simp [Op.operands]) hx rfl
    generalize hev : ev x = y at h
    cases h with
    | ptr _ _ b l hl hb =>
      exact ⟨.pointer (some (Addr.add ⟨b, off, none⟩ o)), by simp [execOp, hop, hev, run_fieldAt hf], by rw [add_mk]; exact .ptr _ _ b l hl hb⟩

/-- A slice's element size; an array's length and element size. -/
def elS (P : Program) (t : TypeId) : Option Nat := match P.underlying t with
  | some (.slice e) => szOf P e
  | _ => none
def elA (P : Program) (t : TypeId) : Option (Nat × Nat) := match P.underlying t with
  | some (.array n e) => (szOf P e).map fun s => (n, s)
  | _ => none

theorem rel_sl {γ : Gh} {w : World} {xs : List (List C)} {x : Value} (h : RelV γ w (.c (.sl xs)) x) :
    (xs = [] ∧ x = .slice none 0 0) ∨ ∃ (esz : Nat) (a : Addr) (len cap : Nat) (fn : Nat → Nat → Value), x = .slice (some a) len cap ∧ (xs ≠ [] → γ.pers a.block) ∧ (xs ≠ [] → a.spot = none) ∧ xs.length = len ∧ len ≤ cap ∧ cap ≤ maxLen ∧
      (∀ (i : Nat) x, xs[i]? = some x → x.length = esz) ∧ (∀ (i : Nat) x (j : Nat) c, xs[i]? = some x → x[j]? = some c → w.cell? (a.add (i * esz + j)) = some (fn i j)) ∧
      ∀ (i : Nat) x (j : Nat) c, xs[i]? = some x → x[j]? = some c → RelC γ.pers w c (fn i j) := by
  cases h with
  | c _ _ h =>
    cases h with
    | nilsl => exact .inl ⟨rfl, rfl⟩
    | sl _ esz a len cap fn hp hs hl hc hm hz hcell hr => exact .inr ⟨esz, a, len, cap, fn, rfl, hp, hs, hl, hc, hm, hz, hcell, hr⟩

theorem s_indexAddr {t : TypeId} {x i : Operand} {xs : List (List C)} {k : IntKind} {n : Int} {esz : Nat} {el : List C} (hx : opnd f x = .c (.sl xs)) (hi : opnd f i = .c (.int k n))
    (he : elS cx.P t = some esz) (h0 : 0 ≤ n) (hel : xs[n.toNat]? = some el) (hz : el.length = esz) : OpSound cx (.indexAddr t x i) f st 0 ⟨.ep el 0, none, st⟩ :=
  sound_plain rfl fun oo hop st γ w gb ev _ _ h3 _ => by
    have h := opnd_plain (x := x) h3 (by simp [Op.operands]) hx rfl
    have hi' := rel_int (opnd_plain (x := i) h3 (by simp [Op.operands]) hi rfl)
    have hlt := lt_of_some hel
    unfold elS at he
    split at he
    · next e hu =>
      rcases rel_sl h with ⟨rfl, _⟩ | ⟨esz', a, len, cap, fn, hx', hp, hs, hl, hc, hm, hz', hcell, hr⟩
      · simp at hlt
      · have he' : esz' = esz := by rw [← hz' _ _ hel, hz]
        subst he'
        have hlen : n < (len : Int) := by omega
        refine ⟨.pointer (some (a.add (n.toNat * esz'))), ?_, ?_⟩
        · simp [execOp, hop, hx', hi', Instr.indexAt, asIntOf, underlying, hu, h0, hlen, run_sizeOf' he]
        · have : a.add (n.toNat * esz') = (a.add (n.toNat * esz')).add 0 := by unfold Addr.add; simp
          rw [this]
          have hne : xs ≠ [] := by intro h; rw [h] at hel; cases hel
          refine .ep el 0 (a.add (n.toNat * esz')) (fn n.toNat) (by rw [block_add]; exact hp hne) (spot_add _ _ (hs hne)) (fun j c hj => ?_) (fun j c hj => hr _ _ _ _ hel hj)
          rw [add_add]
          exact hcell _ _ _ _ hel hj
    · cases he

theorem s_indexAddr_arr {t : TypeId} {x i : Operand} {k : IntKind} {n : Int} {len esz d off : Nat} (hx : opnd f x = .lp d off) (hb : isBoxAt f d) (hi : opnd f i = .c (.int k n))
    (he : elA cx.P t = some (len, esz)) (h0 : 0 ≤ n) (hn : n < len) : OpSound cx (.indexAddr t x i) f st 0 ⟨.lp d (off + n.toNat * esz), none, st⟩ :=
  sound_val (fun oo hop st γ w gb ev _ _ h3 _ => by
    have h := opnd_rel (x := x) h3 (by simp [Op.operands])
    rw [hx] at h
    have h' : ev x = .pointer (some ⟨gb d, off, none⟩) := h
    have hi' := rel_int (opnd_plain (x := i) h3 (by simp [Op.operands]) hi rfl)
    unfold elA at he
    split at he
    · next nn e hu =>
      simp only [Option.map_eq_some_iff, Prod.mk.injEq] at he
      obtain ⟨s, hs, rfl, rfl⟩ := he
      exact ⟨.pointer (some (Addr.add ⟨gb d, off, none⟩ (n.toNat * s))), by simp [execOp, hop, h', hi', Instr.indexAt, asIntOf, underlying, hu, h0, hn, Instr.sureAddr, run_sizeOf' hs], by rw [add_mk]; rfl⟩
    · cases he)
    (fun oo hop d' off' he' => by
      injection he' with he'
      subst he'
      exact comes_of_opnd (x := x) (by rw [hop]; simp [Op.operands]) hx hb)
end
end Go.L1
namespace Go.L1
open Go

/-! ### Binary operations on plain cells -/

/-! ### Operations on bits, closed to simp and to the kernel (a product with a great number would be unrolled) -/
theorem bAnd_ex : ∃ f : IntKind → Int → Int → Int, f = fun k a b => k.wrap (BitVec.ofInt k.bits a &&& BitVec.ofInt k.bits b).toNat := ⟨_, rfl⟩
noncomputable def bAnd : IntKind → Int → Int → Int := Classical.choose bAnd_ex
theorem bAnd_eq : bAnd = fun k a b => k.wrap (BitVec.ofInt k.bits a &&& BitVec.ofInt k.bits b).toNat := Classical.choose_spec bAnd_ex
theorem bOr_ex : ∃ f : IntKind → Int → Int → Int, f = fun k a b => k.wrap (BitVec.ofInt k.bits a ||| BitVec.ofInt k.bits b).toNat := ⟨_, rfl⟩
noncomputable def bOr : IntKind → Int → Int → Int := Classical.choose bOr_ex
theorem bOr_eq : bOr = fun k a b => k.wrap (BitVec.ofInt k.bits a ||| BitVec.ofInt k.bits b).toNat := Classical.choose_spec bOr_ex
theorem bXor_ex : ∃ f : IntKind → Int → Int → Int, f = fun k a b => k.wrap (BitVec.ofInt k.bits a ^^^ BitVec.ofInt k.bits b).toNat := ⟨_, rfl⟩
noncomputable def bXor : IntKind → Int → Int → Int := Classical.choose bXor_ex
theorem bXor_eq : bXor = fun k a b => k.wrap (BitVec.ofInt k.bits a ^^^ BitVec.ofInt k.bits b).toNat := Classical.choose_spec bXor_ex
theorem bAndNot_ex : ∃ f : IntKind → Int → Int → Int, f = fun k a b => k.wrap (BitVec.ofInt k.bits a &&& ~~~BitVec.ofInt k.bits b).toNat := ⟨_, rfl⟩
noncomputable def bAndNot : IntKind → Int → Int → Int := Classical.choose bAndNot_ex
theorem bAndNot_eq : bAndNot = fun k a b => k.wrap (BitVec.ofInt k.bits a &&& ~~~BitVec.ofInt k.bits b).toNat := Classical.choose_spec bAndNot_ex
theorem bNot_ex : ∃ f : IntKind → Int → Int, f = fun k n => k.wrap (BitVec.ofInt k.bits (if k.signed then -1 else k.max) ^^^ BitVec.ofInt k.bits n).toNat := ⟨_, rfl⟩
noncomputable def bNot : IntKind → Int → Int := Classical.choose bNot_ex
theorem bNot_eq : bNot = fun k n => k.wrap (BitVec.ofInt k.bits (if k.signed then -1 else k.max) ^^^ BitVec.ofInt k.bits n).toNat := Classical.choose_spec bNot_ex
theorem bShl_ex : ∃ f : IntKind → Int → Int → Int, f = fun k a b => k.wrap (a * 2 ^ min b.toNat k.bits) := ⟨_, rfl⟩
noncomputable def bShl : IntKind → Int → Int → Int := Classical.choose bShl_ex
theorem bShl_eq : bShl = fun k a b => k.wrap (a * 2 ^ min b.toNat k.bits) := Classical.choose_spec bShl_ex
theorem bShr_ex : ∃ f : IntKind → Int → Int → Int, f = fun k a b => a.fdiv (2 ^ min b.toNat k.bits) := ⟨_, rfl⟩
noncomputable def bShr : IntKind → Int → Int → Int := Classical.choose bShr_ex
theorem bShr_eq : bShr = fun k a b => a.fdiv (2 ^ min b.toNat k.bits) := Classical.choose_spec bShr_ex
/-- Two abstract cells, by an operator; none: not computed here. -/
noncomputable def binC (op : BinOp) : C → C → Option C
  | .int k a, .int k' b => match op with
    | .shl => if 0 ≤ b then some (.int k (bShl k a b)) else none
    | .shr => if 0 ≤ b then some (.int k (bShr k a b)) else none
    | op => if k = k' then match op with
      | .add => some (.int k (k.wrap (a + b)))
      | .sub => some (.int k (k.wrap (a - b)))
      | .mul => some (.int k (k.wrap (a * b)))
      | .quo => if b = 0 then none else some (.int k (k.wrap (a.tdiv b)))
      | .rem => if b = 0 then none else some (.int k (a.tmod b))
      | .and => some (.int k (bAnd k a b))
      | .or => some (.int k (bOr k a b))
      | .xor => some (.int k (bXor k a b))
      | .andNot => some (.int k (bAndNot k a b))
      | .eql => some (.bool (a == b))
      | .neq => some (.bool (a != b))
      | .lss => some (.bool (decide (a < b)))
      | .leq => some (.bool (decide (a ≤ b)))
      | .gtr => some (.bool (decide (a > b)))
      | .geq => some (.bool (decide (a ≥ b)))
      | _ => none else none
  | .str a, .str b => match op with
    | .add => if a.length + b.length ≤ maxLen then some (.str (a ++ b)) else none
    | .eql => some (.bool (a == b))
    | .neq => some (.bool (!(a == b)))
    | .lss => some (.bool (Op.bytesLess a b))
    | .leq => some (.bool (Op.bytesLess a b || a == b))
    | .gtr => some (.bool (!(Op.bytesLess a b || a == b)))
    | .geq => some (.bool (!(Op.bytesLess a b)))
    | _ => none
  | _, _ => none

section
variable {cx : Cx} {f : Fenv} {st : List SO}

def cval : C → Value
  | .int k n => .int k n
  | .bool b => .bool b
  | _ => undef

theorem run_binC {P : Program} {w : World} {pers : Nat → Prop} {op : BinOp} {t : TypeId} {a b c : C} {x y : Value} (ha : RelC pers w a x) (hb : RelC pers w b y) (h : binC op a b = some c) :
    ∃ z, (binOp op t x y).run P w = .ok z w ∧ RelC pers w c z := by
  cases ha with
  | int k m =>
    cases hb with
    | int k' n =>
      by_cases hs : op = .shl
      · subst hs
        simp only [binC] at h
        split at h
        · next h0 => injection h with h; subst h; exact ⟨.int _ _, by simp [binOp, Op.shift, bShl_eq, bShr_eq]; intro h; omega, .int _ _⟩
        · cases h
      · by_cases hs' : op = .shr
        · subst hs'
          simp only [binC] at h
          split at h
          · next h0 => injection h with h; subst h; exact ⟨.int _ _, by simp [binOp, Op.shift, bShl_eq, bShr_eq]; intro h; omega, .int _ _⟩
          · cases h
        · by_cases hk : k = k'
          · subst hk
            cases op with
            | add => simp only [binC, if_true] at h; injection h with h; subst h; exact ⟨.int k (k.wrap (m + n)), by simp [binOp, Op.intArith], .int _ _⟩
            | sub => simp only [binC, if_true] at h; injection h with h; subst h; exact ⟨.int k (k.wrap (m - n)), by simp [binOp, Op.intArith], .int _ _⟩
            | mul => simp only [binC, if_true] at h; injection h with h; subst h; exact ⟨.int k (k.wrap (m * n)), by simp [binOp, Op.intArith], .int _ _⟩
            | and => simp only [binC, if_true] at h; injection h with h; subst h; exact ⟨.int k (bAnd k m n), by simp [binOp, Op.intBits, bAnd_eq], .int _ _⟩
            | or => simp only [binC, if_true] at h; injection h with h; subst h; exact ⟨.int k (bOr k m n), by simp [binOp, Op.intBits, bOr_eq], .int _ _⟩
            | xor => simp only [binC, if_true] at h; injection h with h; subst h; exact ⟨.int k (bXor k m n), by simp [binOp, Op.intBits, bXor_eq], .int _ _⟩
            | andNot => simp only [binC, if_true] at h; injection h with h; subst h; exact ⟨.int k (bAndNot k m n), by simp [binOp, Op.intBits, bAndNot_eq], .int _ _⟩
            | eql => simp only [binC, if_true] at h; injection h with h; subst h; exact ⟨.bool (m == n), by simp [binOp, Op.intCmp], .bool _⟩
            | neq => simp only [binC, if_true] at h; injection h with h; subst h; exact ⟨.bool (m != n), by simp [binOp, Op.intCmp], .bool _⟩
            | lss => simp only [binC, if_true] at h; injection h with h; subst h; exact ⟨.bool (decide (m < n)), by simp [binOp, Op.intCmp], .bool _⟩
            | leq => simp only [binC, if_true] at h; injection h with h; subst h; exact ⟨.bool (decide (m ≤ n)), by simp [binOp, Op.intCmp], .bool _⟩
            | gtr => simp only [binC, if_true] at h; injection h with h; subst h; exact ⟨.bool (decide (m > n)), by simp [binOp, Op.intCmp], .bool _⟩
            | geq => simp only [binC, if_true] at h; injection h with h; subst h; exact ⟨.bool (decide (m ≥ n)), by simp [binOp, Op.intCmp], .bool _⟩
            | quo =>
              simp only [binC, if_true] at h
              split at h
              · cases h
              · next h0 => injection h with h; subst h; exact ⟨.int k (k.wrap (m.tdiv n)), by simp [binOp, Op.intDiv, h0], .int _ _⟩
            | rem =>
              simp only [binC, if_true] at h
              split at h
              · cases h
              · next h0 => injection h with h; subst h; exact ⟨.int k (m.tmod n), by simp [binOp, Op.intDiv, h0], .int _ _⟩
            | shl => exact absurd rfl hs
            | shr => exact absurd rfl hs'
          · cases op <;> simp [binC, hk] at h <;> first | (exact absurd rfl hs) | (exact absurd rfl hs')
    | _ => simp [binC] at h
  | str s hs =>
    cases hb with
    | str u hu =>
      have e1 : s.toList = s.data.toList := ByteArray.toList_eq s
      have e2 : u.toList = u.data.toList := ByteArray.toList_eq u
      have sz : ∀ v : ByteArray, v.size = v.data.toList.length := fun v => by simp
      cases op with
      | add =>
        simp only [binC] at h
        split at h
        · next hle =>
          injection h with h
          subst h
          have hle' : s.size + u.size ≤ maxLen := by rw [sz, sz]; exact hle
          refine ⟨.string (s ++ u), by simp [binOp, Op.stringOp]; unfold maxLen at hle'; omega, ?_⟩
          have : s.data.toList ++ u.data.toList = (s ++ u).data.toList := by simp
          rw [this]
          exact .str _ (by simpa using hle')
        · cases h
      | eql => simp only [binC] at h; injection h with h; subst h; exact ⟨.bool (s.data.toList == u.data.toList), by simp [binOp, Op.stringOp, e1, e2], .bool _⟩
      | neq => simp only [binC] at h; injection h with h; subst h; exact ⟨.bool (!(s.data.toList == u.data.toList)), by simp [binOp, Op.stringOp, e1, e2], .bool _⟩
      | lss => simp only [binC] at h; injection h with h; subst h; exact ⟨.bool (Op.bytesLess s.data.toList u.data.toList), by simp [binOp, Op.stringOp, e1, e2], .bool _⟩
      | leq => simp only [binC] at h; injection h with h; subst h; exact ⟨.bool (Op.bytesLess s.data.toList u.data.toList || s.data.toList == u.data.toList), by simp [binOp, Op.stringOp, e1, e2], .bool _⟩
      | gtr => simp only [binC] at h; injection h with h; subst h; exact ⟨.bool (!(Op.bytesLess s.data.toList u.data.toList || s.data.toList == u.data.toList)), by simp [binOp, Op.stringOp, e1, e2], .bool _⟩
      | geq => simp only [binC] at h; injection h with h; subst h; exact ⟨.bool (!(Op.bytesLess s.data.toList u.data.toList)), by simp [binOp, Op.stringOp, e1, e2], .bool _⟩
      | _ => simp [binC] at h
    | _ => simp [binC] at h
  | _ => simp [binC] at h

theorem eqGuard_none {P : Program} {w : World} {op : BinOp} {t : TypeId} {xo yo : Operand} {x y : Value} (h : (∀ vs, x ≠ .agg vs) ∧ x ≠ .nilIface) :
    (eqGuard op t xo yo x y).run P w = .ok () w := by
  unfold eqGuard
  cases x <;> simp_all <;> (try split) <;> simp_all

theorem RelC.noAgg {pers : Nat → Prop} {w : World} {c : C} {v : Value} (h : RelC pers w c v) : (∀ vs, v ≠ .agg vs) ∧ v ≠ .nilIface := by
  cases h <;> simp

theorem s_bin {op : BinOp} {t t' : TypeId} {x y : Operand} {a b c : C} (hx : opnd f x = .c a) (hy : opnd f y = .c b) (h : binC op a b = some c) :
    OpSound cx (.binOp op t x y t') f st 0 ⟨.c c, none, st⟩ :=
  sound_plain rfl fun oo hop st γ w gb ev _ _ h3 _ => by
    have h1 := opnd_plain (x := x) h3 (by simp [Op.operands]) hx rfl
    have h2 := opnd_plain (x := y) h3 (by simp [Op.operands]) hy rfl
    have k1 : RelC γ.pers w a (ev x) := by cases h1 with | c _ _ h => exact h
    have k2 : RelC γ.pers w b (ev y) := by cases h2 with | c _ _ h => exact h
    obtain ⟨z, hz, hrel⟩ := run_binC (P := cx.P) (t := t) k1 k2 h
    exact ⟨z, by simp [execOp, hop, eqGuard_none k1.noAgg, hz], .c _ _ hrel⟩

/-- '==' and '!=' at types that compare bit by bit. -/
def eqKind (P : Program) (t : TypeId) : Bool := match P.underlying t with
  | some .bool => true
  | _ => false

theorem s_eqBool {t t' : TypeId} {x y : Operand} {a b : Bool} (hx : opnd f x = .c (.bool a)) (hy : opnd f y = .c (.bool b)) (ht : eqKind cx.P t = true) :
    OpSound cx (.binOp .eql t x y t') f st 0 ⟨.c (.bool (a == b)), none, st⟩ :=
  sound_plain rfl fun oo hop st γ w gb ev _ _ h3 _ => by
    have h1 := rel_bool (opnd_plain (x := x) h3 (by simp [Op.operands]) hx rfl)
    have h2 := rel_bool (opnd_plain (x := y) h3 (by simp [Op.operands]) hy rfl)
    have hu : cx.P.underlying t = some .bool := by
      unfold eqKind at ht
      split at ht
      · assumption
      · cases ht
    refine ⟨.bool (a == b), ?_, .c _ _ (.bool _)⟩
    have hg := eqGuard_none (P := cx.P) (w := w) (op := .eql) (t := t) (xo := x) (yo := y) (x := ev x) (y := ev y) (by rw [h1]; simp)
    have he := run_equalIn_bool' (P := cx.P) w 9999 t a b hu
    simp only [execOp, hop, h1, h2, Sem.run_bind, Sem.run_pure] at hg ⊢
    simp [hg, binOp, Op.equal, Op.maxDepth, he]
theorem s_neqBool {t t' : TypeId} {x y : Operand} {a b : Bool} (hx : opnd f x = .c (.bool a)) (hy : opnd f y = .c (.bool b)) (ht : eqKind cx.P t = true) :
    OpSound cx (.binOp .neq t x y t') f st 0 ⟨.c (.bool (!(a == b))), none, st⟩ :=
  sound_plain rfl fun oo hop st γ w gb ev _ _ h3 _ => by
    have h1 := rel_bool (opnd_plain (x := x) h3 (by simp [Op.operands]) hx rfl)
    have h2 := rel_bool (opnd_plain (x := y) h3 (by simp [Op.operands]) hy rfl)
    have hu : cx.P.underlying t = some .bool := by
      unfold eqKind at ht
      split at ht
      · assumption
      · cases ht
    refine ⟨.bool (!(a == b)), ?_, .c _ _ (.bool _)⟩
    have hg := eqGuard_none (P := cx.P) (w := w) (op := .neq) (t := t) (xo := x) (yo := y) (x := ev x) (y := ev y) (by rw [h1]; simp)
    have he := run_equalIn_bool' (P := cx.P) w 9999 t a b hu
    simp only [execOp, hop, h1, h2, Sem.run_bind, Sem.run_pure] at hg ⊢
    simp [hg, binOp, Op.equal, Op.maxDepth, he]

/-! ### One operand -/
theorem s_not {t : TypeId} {x : Operand} {a : Bool} (hx : opnd f x = .c (.bool a)) : OpSound cx (.unOp .not t x) f st 0 ⟨.c (.bool (!a)), none, st⟩ :=
  sound_plain rfl fun oo hop st γ w gb ev _ _ h3 _ => by
    have h1 := rel_bool (opnd_plain (x := x) h3 (by simp [Op.operands]) hx rfl)
    exact ⟨.bool (!a), by simp [execOp, hop, h1, Op.unary], .c _ _ (.bool _)⟩
theorem s_neg {t : TypeId} {x : Operand} {k : IntKind} {n : Int} (hx : opnd f x = .c (.int k n)) : OpSound cx (.unOp .neg t x) f st 0 ⟨.c (.int k (k.wrap (0 - n))), none, st⟩ :=
  sound_plain rfl fun oo hop st γ w gb ev _ _ h3 _ => by
    have h1 := rel_int (opnd_plain (x := x) h3 (by simp [Op.operands]) hx rfl)
    exact ⟨.int k (k.wrap (0 - n)), by simp [execOp, hop, h1, Op.unary, Op.intArith], .c _ _ (.int _ _)⟩
theorem s_compl {t : TypeId} {x : Operand} {k : IntKind} {n : Int} (hx : opnd f x = .c (.int k n)) :
    OpSound cx (.unOp .xor t x) f st 0 ⟨.c (.int k (bNot k n)), none, st⟩ :=
  sound_plain rfl fun oo hop st γ w gb ev _ _ h3 _ => by
    have h1 := rel_int (opnd_plain (x := x) h3 (by simp [Op.operands]) hx rfl)
    exact ⟨cval (.int k (bNot k n)), by simp [execOp, hop, h1, Op.unary, Op.intBits, bNot_eq]; rfl, .c _ _ (.int _ _)⟩

def intKindOf (P : Program) (t : TypeId) : Option IntKind := match P.underlying t with
  | some (.int k) => some k
  | _ => none
theorem s_convInt {src dst : TypeId} {x : Operand} {k k' : IntKind} {n : Int} (hx : opnd f x = .c (.int k n)) (hs : (cx.P.underlying src).isSome = true) (hd : intKindOf cx.P dst = some k') :
    OpSound cx (.convert src dst x) f st 0 ⟨.c (.int k' (k'.wrap n)), none, st⟩ :=
  sound_plain rfl fun oo hop st γ w gb ev _ _ h3 _ => by
    have h1 := rel_int (opnd_plain (x := x) h3 (by simp [Op.operands]) hx rfl)
    have hu : cx.P.underlying dst = some (.int k') := by
      unfold intKindOf at hd
      split at hd
      · next hh => injection hd with hd; rw [hh, hd]
      · cases hd
    obtain ⟨d, hsd⟩ := Option.isSome_iff_exists.1 hs
    exact ⟨.int k' (k'.wrap n), by simp [execOp, hop, h1, convert, underlying, hu, hsd, Conv.intToInt], .c _ _ (.int _ _)⟩

/-! ### Parts -/
theorem rel_agg {γ : Gh} {w : World} {cs : List V} {x : Value} (h : RelV γ w (.agg cs) x) :
    ∃ vs : Array Value, x = .agg vs ∧ vs.size = cs.length ∧ ∀ (i : Nat) v x, cs[i]? = some v → vs[i]? = some x → RelV γ w v x := by
  cases h with | agg _ vs hl hh => exact ⟨vs, rfl, hl, hh⟩
theorem rel_tup {γ : Gh} {w : World} {cs : List V} {x : Value} (h : RelV γ w (.tup cs) x) :
    ∃ vs : Array Value, x = .tuple vs ∧ vs.size = cs.length ∧ ∀ (i : Nat) v x, cs[i]? = some v → vs[i]? = some x → RelV γ w v x := by
  cases h with | tup _ vs hl hh => exact ⟨vs, rfl, hl, hh⟩

theorem s_extract {x : Operand} {i : Nat} {cs : List V} {v : V} (hx : opnd f x = .tup cs) (hi : cs[i]? = some v) (hp : plainV v = true) :
    OpSound cx (.extract x i) f st 0 ⟨v, none, st⟩ :=
  sound_plain hp fun oo hop st γ w gb ev _ _ h3 _ => by
    obtain ⟨vs, h1, h2, h4⟩ := rel_tup (opnd_plain (x := x) h3 (by simp [Op.operands]) hx rfl)
    have hlt := lt_of_some hi
    have hv : vs[i]? = some (vs[i]'(by omega)) := Array.getElem?_eq_getElem _
    exact ⟨_, by simp [execOp, hop, h1, Instr.extract, hv], h4 i v _ hi hv⟩

/-- A field's offset and type. -/
def fTy (P : Program) (t : TypeId) (k : Nat) : Option (Nat × TypeId) :=
  match P.underlying t with
  | some (.struct fs) => (fs[k]?).map fun f => (f.offset, f.type)
  | _ => none

theorem part_row {γ : Gh} {w : World} {P : Program} {t : TypeId} {cs : List V} {vs : Array Value} {off : Nat} {v : V} (hl : vs.size = cs.length)
    (h : ∀ (i : Nat) v x, cs[i]? = some v → vs[i]? = some x → RelV γ w v x) (ha : loadAbs P t cs off = some v) :
    ∃ y, (part t vs off).run P w = .ok y w ∧ RelV γ w v y := by
  unfold loadAbs at ha
  split at ha
  · next hag =>
    split at ha
    · next n hn =>
      split at ha
      · next hle =>
        injection ha with ha
        subst ha
        refine ⟨.agg (vs.extract off (off + n)), by simp [part, run_isAgg' hag, run_sizeOf' hn], .agg _ _ (by simp; omega) fun i u x hi hx => ?_⟩
        rw [List.getElem?_take] at hi
        split at hi
        · next hin =>
          rw [List.getElem?_drop] at hi
          have : (vs.extract off (off + n))[i]? = vs[off + i]? := by
            rw [Array.getElem?_extract]
            rw [if_pos (by omega)]
          rw [this] at hx
          exact h _ _ _ hi hx
        · cases hi
      · cases ha
    · cases ha
  · next hag =>
    have hlt := lt_of_some ha
    have hv : vs[off]? = some (vs[off]'(by omega)) := Array.getElem?_eq_getElem _
    exact ⟨_, by simp [part, run_isAgg' hag, hv], h _ _ _ ha hv⟩
  · cases ha

theorem s_field {t t' : TypeId} {x : Operand} {k off : Nat} {cs : List V} {v : V} (hx : opnd f x = .agg cs) (hf : fTy cx.P t k = some (off, t')) (ha : loadAbs cx.P t' cs off = some v)
    (hp : plainV v = true) : OpSound cx (.field t x k) f st 0 ⟨v, none, st⟩ :=
  sound_plain hp fun oo hop st γ w gb ev _ _ h3 _ => by
    obtain ⟨vs, h1, h2, h4⟩ := rel_agg (opnd_plain (x := x) h3 (by simp [Op.operands]) hx rfl)
    obtain ⟨y, hy, hrel⟩ := part_row h2 h4 ha
    unfold fTy at hf
    split at hf
    · next fs hu =>
      simp only [Option.map_eq_some_iff, Prod.mk.injEq] at hf
      obtain ⟨fl, hfl, rfl, rfl⟩ := hf
      exact ⟨y, by simp [execOp, hop, h1, Instr.field, underlying, hu, hfl, asAgg, hy], hrel⟩
    · cases hf

/-! ### Indexing values -/
def isStr (P : Program) (t : TypeId) : Bool := match P.underlying t with
  | some .string => true
  | _ => false
theorem isStr_spec {P : Program} {t : TypeId} (h : isStr P t = true) : P.underlying t = some .string := by
  unfold isStr at h
  split at h
  · assumption
  · cases h

theorem s_indexStr {t : TypeId} {x i : Operand} {l : List UInt8} {k : IntKind} {n : Int} {b : UInt8} (hx : opnd f x = .c (.str l)) (hi : opnd f i = .c (.int k n)) (ht : isStr cx.P t = true)
    (h0 : 0 ≤ n) (hb : l[n.toNat]? = some b) : OpSound cx (.index t x i) f st 0 ⟨.c (.int .u8 b.toNat), none, st⟩ :=
  sound_plain rfl fun oo hop st γ w gb ev _ _ h3 _ => by
    obtain ⟨s, h1, rfl, _⟩ := rel_str (opnd_plain (x := x) h3 (by simp [Op.operands]) hx rfl)
    have hi' := rel_int (opnd_plain (x := i) h3 (by simp [Op.operands]) hi rfl)
    have hlt : n.toNat < s.size := by have := lt_of_some hb; simpa using this
    have hb' : s[n.toNat]? = some b := by
      rw [getElem?_pos s n.toNat hlt]
      have : s.data.toList[n.toNat]? = some (s[n.toNat]) := by
        rw [List.getElem?_eq_getElem (by simpa using hlt)]
        rfl
      rw [this] at hb
      exact hb
    exact ⟨.int .u8 b.toNat, by simp [execOp, hop, h1, hi', Instr.index, asIntOf, underlying, isStr_spec ht, h0, hb'], .c _ _ (.int _ _)⟩

/-! ### Functions as values -/
theorem s_makeFunc {g : FuncId} {caps : Array Operand} {vs : List V} (hl : vs.length = caps.size) (hv : ∀ (i : Nat) x v, caps[i]? = some x → vs[i]? = some v → opnd f x = v ∧ plainV v = true) :
    OpSound cx (.makeFunc (.func g) #[] caps) f st 0 ⟨.clo g vs, none, st⟩ :=
  sound_plain rfl fun oo hop st γ w gb ev _ _ h3 _ => by
    refine ⟨.func (.func g) #[] (caps.map ev), by simp [execOp, hop, Instr.makeFunc], .clo g vs _ (by simp [hl]) fun i v x hi hx => ?_⟩
    rw [Array.getElem?_map] at hx
    cases hc : caps[i]? with
    | none => rw [hc] at hx; cases hx
    | some o =>
      rw [hc] at hx
      injection hx with hx
      subst hx
      obtain ⟨e1, e2⟩ := hv i o v hc hi
      exact opnd_plain (x := o) h3 (by simp only [Op.operands]; exact Array.mem_append.2 (.inr (Array.mem_of_getElem? hc))) e1 e2

theorem s_nilCheck_lp {x : Operand} {d off : Nat} (hx : opnd f x = .lp d off) (hb : isBoxAt f d) : OpSound cx (.nilCheck x) f st 0 ⟨.lp d off, none, st⟩ :=
  sound_val (fun oo hop st γ w gb ev _ _ h3 _ => by
    have h := opnd_rel (x := x) h3 (by simp [Op.operands])
    rw [hx] at h
    have h' : ev x = .pointer (some ⟨gb d, off, none⟩) := h
    exact ⟨.pointer (some ⟨gb d, off, none⟩), by simp [execOp, hop, h'], rfl⟩)
    (fun oo hop d' off' he => by
      injection he with he
      subst he
      exact comes_of_opnd (x := x) (by rw [hop]; simp [Op.operands]) hx hb)
theorem s_nilCheck_ptr {x : Operand} {id off : Nat} (hx : opnd f x = .ptr id off) : OpSound cx (.nilCheck x) f st 0 ⟨.ptr id off, none, st⟩ :=
  sound_plain rfl fun oo hop st γ w gb ev _ _ h3 _ => by
    have h := opnd_plain (x := x) h3 (by simp [Op.operands]) hx rfl
    generalize hev : ev x = y at h
    cases h with
    | ptr _ _ b l hl hb => exact ⟨.pointer (some ⟨b, off, none⟩), by simp [execOp, hop, hev], .ptr _ _ b l hl hb⟩
theorem s_nilCheck_ep {x : Operand} {cells : List C} {off : Nat} (hx : opnd f x = .ep cells off) : OpSound cx (.nilCheck x) f st 0 ⟨.ep cells off, none, st⟩ :=
  sound_plain rfl fun oo hop st γ w gb ev _ _ h3 _ => by
    have h := opnd_plain (x := x) h3 (by simp [Op.operands]) hx rfl
    generalize hev : ev x = y at h
    cases h with
    | ep _ _ a fn hp hs hcell hr => exact ⟨.pointer (some (a.add off)), by simp [execOp, hop, hev], .ep _ _ a fn hp hs hcell hr⟩

/-! ### Lengths -/
theorem run_len {P : Program} {w : World} {o : Oper} {ev : Operand → Value} {x : Operand} {ts : Array TypeId} (ho : o.op = .call { callee := .builtin .len, args := #[x], argTypes := ts }) :
    (execOp ev o).run P w = ((Builtin.len_ ts o.type #[ev x]).run P w).andThen fun v w => .ok (.value v) w := by
  simp [execOp, ho, resolve, invoke, builtin]

def isSl (P : Program) (t : TypeId) : Bool := match P.underlying t with
  | some (.slice _) => true
  | _ => false
theorem isSl_spec {P : Program} {t : TypeId} (h : isSl P t = true) : ∃ e, P.underlying t = some (.slice e) := by
  unfold isSl at h
  split at h
  · next e he => exact ⟨e, he⟩
  · cases h

theorem s_len_sl {x : Operand} {t : TypeId} {xs : List (List C)} (hx : opnd f x = .c (.sl xs)) (ht : isSl cx.P t = true) :
    OpSound cx (.call { callee := .builtin .len, args := #[x], argTypes := #[t] }) f st 0 ⟨.c (.int .i64 xs.length), none, st⟩ :=
  sound_plain rfl fun oo hop st γ w gb ev _ _ h3 _ => by
    have h := opnd_plain (x := x) h3 (by simp [Op.operands, Call.operands]) hx rfl
    obtain ⟨e, he⟩ := isSl_spec ht
    refine ⟨.int .i64 xs.length, ?_, .c _ _ (.int _ _)⟩
    rw [run_len hop]
    rcases rel_sl h with ⟨rfl, hx'⟩ | ⟨esz, a, len, cap, fn, hx', _, _, hl, _⟩
    · simp [Builtin.len_, underlying, he, hx', goInt]
    · simp [Builtin.len_, underlying, he, hx', goInt, hl]
theorem s_len_str {x : Operand} {t : TypeId} {l : List UInt8} (hx : opnd f x = .c (.str l)) (ht : isStr cx.P t = true) :
    OpSound cx (.call { callee := .builtin .len, args := #[x], argTypes := #[t] }) f st 0 ⟨.c (.int .i64 l.length), none, st⟩ :=
  sound_plain rfl fun oo hop st γ w gb ev _ _ h3 _ => by
    obtain ⟨s, h1, rfl, _⟩ := rel_str (opnd_plain (x := x) h3 (by simp [Op.operands, Call.operands]) hx rfl)
    refine ⟨.int .i64 s.data.toList.length, ?_, .c _ _ (.int _ _)⟩
    rw [run_len hop]
    simp [Builtin.len_, underlying, isStr_spec ht, h1, goInt]
end
end Go.L1
namespace Go.L1
open Go

/-! ### References lie in the store -/
inductive RefsLt (n : Nat) : V → Prop
  | undef : RefsLt n .undef
  | c (x : C) : RefsLt n (.c x)
  | agg (cs : List V) (h : ∀ v, v ∈ cs → RefsLt n v) : RefsLt n (.agg cs)
  | tup (cs : List V) (h : ∀ v, v ∈ cs → RefsLt n v) : RefsLt n (.tup cs)
  | ptr (id off : Nat) (h : id < n) : RefsLt n (.ptr id off)
  | ep (cells : List C) (off : Nat) : RefsLt n (.ep cells off)
  | own (id e : Nat) (h : id < n) : RefsLt n (.own id e)
  | odp (id e : Nat) (h : id < n) : RefsLt n (.odp id e)
  | psl (id off len : Nat) (h : id < n) : RefsLt n (.psl id off len)
  | mref (id : Nat) (h : id < n) : RefsLt n (.mref id)
  | clo (f : FuncId) (caps : List V) (h : ∀ v, v ∈ caps → RefsLt n v) : RefsLt n (.clo f caps)
  | gp (g : Nat) : RefsLt n (.gp g)
  | gv (g : Nat) : RefsLt n (.gv g)
  | anyb : RefsLt n .anyb

theorem mem_idx {α β : Type} {cs : List α} {vs : Array β} (hl : vs.size = cs.length) {v : α} (hv : v ∈ cs) : ∃ (i : Nat) (x : β), cs[i]? = some v ∧ vs[i]? = some x := by
  obtain ⟨i, hi⟩ := List.mem_iff_getElem?.1 hv
  have hlt := lt_of_some hi
  exact ⟨i, vs[i]'(by omega), hi, Array.getElem?_eq_getElem _⟩

theorem relV_refs {γ : Gh} {w : World} {v : V} {x : Value} (h : RelV γ w v x) : RefsLt γ.locs.length v := by
  induction h with
  | undef x => exact .undef
  | c x v h => exact .c x
  | agg cs vs hl _ ih => exact .agg cs fun v hv => let ⟨i, x, h1, h2⟩ := mem_idx hl hv; ih i v x h1 h2
  | tup cs vs hl _ ih => exact .tup cs fun v hv => let ⟨i, x, h1, h2⟩ := mem_idx hl hv; ih i v x h1 h2
  | ptr id off b l h hb => exact .ptr id off (lt_of_some h)
  | ep cells off a f => exact .ep cells off
  | own id e l x h => exact .own id e (lt_of_some h)
  | odp id e l x h => exact .odp id e (lt_of_some h)
  | psl id off len b cap l h => exact .psl id off len (lt_of_some h)
  | mref id b l h hb => exact .mref id (lt_of_some h)
  | clo f caps vs hl _ ih => exact .clo f caps fun v hv => let ⟨i, x, h1, h2⟩ := mem_idx hl hv; ih i v x h1 h2
  | gp g => exact .gp g
  | gv g x hp hc => exact .gv g
  | anyb b => exact .anyb

/-- The ghost with the objects from n on forgotten. -/
def Gh.cut (γ : Gh) (n : Nat) : Gh := { γ with locs := γ.locs.take n }
theorem cut_get {γ : Gh} {n i : Nat} {l : Loc} : (γ.cut n).locs[i]? = some l ↔ i < n ∧ γ.locs[i]? = some l := by
  unfold Gh.cut
  simp only [List.getElem?_take]
  by_cases h : i < n <;> simp [h]
theorem cut_owns {γ : Gh} {n b : Nat} (h : (γ.cut n).owns b) : γ.owns b := by
  obtain ⟨i, l, h1, h2⟩ := h
  exact ⟨i, l, (cut_get.1 h1).2, h2⟩

theorem relV_cut {γ : Gh} {w : World} {n : Nat} {v : V} {x : Value} (hr : RefsLt n v) (h : RelV γ w v x) : RelV (γ.cut n) w v x := by
  induction h with
  | undef x => exact .undef x
  | c x v h => exact .c x v h
  | agg cs vs hl _ ih =>
    cases hr with
    | agg _ hb => exact .agg cs vs hl fun i v x hi hx => ih i v x hi hx (hb v (List.mem_of_getElem? hi))
  | tup cs vs hl _ ih =>
    cases hr with
    | tup _ hb => exact .tup cs vs hl fun i v x hi hx => ih i v x hi hx (hb v (List.mem_of_getElem? hi))
  | ptr id off b l h hb =>
    cases hr with
    | ptr _ _ hid => exact .ptr id off b l (cut_get.2 ⟨hid, h⟩) hb
  | ep cells off a f hp hs hcell hr' => exact .ep cells off a f hp hs hcell hr'
  | own id e l x h hf he h1 hx =>
    cases hr with
    | own _ _ hid => exact .own id e l x (cut_get.2 ⟨hid, h⟩) hf he h1 hx
  | odp id e l x h hf he h1 hx =>
    cases hr with
    | odp _ _ hid => exact .odp id e l x (cut_get.2 ⟨hid, h⟩) hf he h1 hx
  | psl id off len b cap l h hb hc hm =>
    cases hr with
    | psl _ _ _ hid => exact .psl id off len b cap l (cut_get.2 ⟨hid, h⟩) hb hc hm
  | mref id b l h hb =>
    cases hr with
    | mref _ hid => exact .mref id b l (cut_get.2 ⟨hid, h⟩) hb
  | clo f caps vs hl _ ih =>
    cases hr with
    | clo _ _ hb => exact .clo f caps vs hl fun i v x hi hx => ih i v x hi hx (hb v (List.mem_of_getElem? hi))
  | gp g => exact .gp g
  | gv g x hp hc => exact .gv g x hp hc
  | anyb b => exact .anyb b

def ObjRefs (n : Nat) : SO → Prop
  | .box cs => ∀ v ∈ cs, RefsLt n v
  | .tbox _ cs => ∀ v ∈ cs, RefsLt n v
  | _ => True
def StOk (st : List SO) : Prop := ∀ o ∈ st, ObjRefs st.length o

theorem relW_stOk {γ : Gh} {st : List SO} {w : World} (h : RelW γ st w) : StOk st := by
  intro o ho
  obtain ⟨i, hi⟩ := List.mem_iff_getElem?.1 ho
  have hlt := lt_of_some hi
  have hl : γ.locs[i]? = some (γ.locs[i]'(by rw [h.len]; exact hlt)) := List.getElem?_eq_getElem _
  have h1 := h.objs i _ o hl hi
  cases o with
  | box cs =>
    obtain ⟨_, b, vs, T, _, _, hrow⟩ := h1
    intro v hv
    obtain ⟨j, x, k1, k2⟩ := mem_idx hrow.1 hv
    rw [← h.len]
    exact relV_refs (hrow.2 j v x k1 k2).1
  | tbox T cs =>
    obtain ⟨_, b, vs, _, _, hrow⟩ := h1
    intro v hv
    obtain ⟨j, x, k1, k2⟩ := mem_idx hrow.1 hv
    rw [← h.len]
    exact relV_refs (hrow.2 j v x k1 k2).1
  | _ => exact trivial

theorem relO_cut {γ : Gh} {w : World} {n : Nat} {l : Loc} {o : SO} (hr : ObjRefs n o) (h : RelO γ w l o) : RelO (γ.cut n) w l o := by
  cases o with
  | dead => exact trivial
  | box cs =>
    obtain ⟨k1, b, vs, T, k2, k3, k4⟩ := h
    exact ⟨k1, b, vs, T, k2, k3, k4.1, fun i v x hi hx => ⟨relV_cut (hr v (List.mem_of_getElem? hi)) (k4.2 i v x hi hx).1, (k4.2 i v x hi hx).2⟩⟩
  | arr ety esz e xs => exact h
  | map ka va es => exact h
  | siter str pos => exact h
  | tbox T cs =>
    obtain ⟨k1, b, vs, k2, k3, k4⟩ := h
    exact ⟨k1, b, vs, k2, k3, k4.1, fun i v x hi hx => ⟨relV_cut (hr v (List.mem_of_getElem? hi)) (k4.2 i v x hi hx).1, (k4.2 i v x hi hx).2⟩⟩

theorem relW_cut {γ : Gh} {st extra : List SO} {w : World} (ho : ∀ o ∈ st, ObjRefs st.length o) (h : RelW γ (st ++ extra) w) : RelW (γ.cut st.length) st w := by
  refine ⟨by simp [Gh.cut, h.len], h.basesz, h.base, h.plt, fun b hb => h.olt b (cut_owns hb), fun b hb ho => h.apart b hb (cut_owns ho),
    fun i j l l' b h1 h2 => h.inj i j l l' b (cut_get.1 h1).2 (cut_get.1 h2).2, fun i l h1 => h.two i l (cut_get.1 h1).2, fun i l o h1 h2 => ?_⟩
  have h3 := cut_get.1 h1
  exact relO_cut (ho o (List.mem_of_getElem? h2)) (h.objs i l o h3.2 (by rw [List.getElem?_append_left h3.1]; exact h2))

theorem locsKept_cut (γ : Gh) {n m : Nat} (h : n ≤ m) : LocsKept n γ (γ.cut m) :=
  fun _ l hid hl => ⟨l, cut_get.2 ⟨by omega, hl⟩, fun _ => rfl, fun _ => rfl, rfl, Nat.le_refl _⟩
theorem evo_cut {γ : Gh} {w : World} {n m : Nat} (h : n ≤ m) : Evo n γ w (γ.cut m) w :=
  ⟨rfl, rfl, rfl, rfl, Nat.le_refl _, fun _ _ _ => rfl, fun _ h => h, fun _ h _ => .inl h, fun _ h _ => cut_owns h, locsKept_cut γ h⟩

section
variable {cx : Cx}

/-- Forget the store's last objects. -/
theorem weak_cut {f : Fenv} {st extra : List SO} (hn : cx.n0 ≤ st.length) (ho : StOk st) (hf : ∀ d, plainV (f d) = true → RefsLt st.length (f d)) (hb : ∀ d cs, f d = .box cs → ∀ v ∈ cs, RefsLt st.length v) :
    Weak cx f (st ++ extra) f st := by
  rintro γ0 w0 a w ⟨γ, gb, sg⟩
  refine ⟨γ.cut st.length, gb, ⟨?_, sg.n0, relW_cut ho sg.rel, sg.g, sg.size, sg.defers.mono (fun _ _ _ _ _ => rfl) (fun _ _ _ h => .inl h) (fun _ _ _ h => cut_owns h), fun d => ?_, fun d cs hd => ?_, sg.inj⟩⟩
  · have he := sg.evo
    refine ⟨he.base, he.os, he.tape, he.output, he.size, he.keep, he.pers, he.newp, fun b hb => he.newo b (cut_owns hb), he.locs.trans (locsKept_cut γ hn)⟩
  · have hs := sg.slots d
    cases hv : f d with
    | box cs =>
      rw [hv] at hs
      obtain ⟨h1, vs, T, h2, h3⟩ := hs
      exact ⟨h1, vs, T, h2, h3.1, fun i v x hi hx => ⟨relV_cut (hb d cs hv v (List.mem_of_getElem? hi)) (h3.2 i v x hi hx).1, (h3.2 i v x hi hx).2⟩⟩
    | lp d' off => rw [hv] at hs; exact hs
    | _ => rw [hv] at hs; exact relV_cut (by rw [← hv]; exact hf d (by rw [hv]; rfl)) hs
  · obtain ⟨h1, h2, h3, h4⟩ := sg.boxes d cs hd
    exact ⟨h1, h2, h3, fun h => h4 (cut_owns h)⟩

/-- Has the function a body? -/
def fnB (P : Program) (g : FuncId) : Bool := match P.funcs[g]? with
  | some fn => fn.body.isSome && fn.name != "runtime.NumGoroutine"
  | none => false

/-- **A function's contract**: called at related arguments, over a world that holds the store 'st', it returns 'res' and leaves the store 'st''. -/
def FnOK (P : Program) (G : World → Prop) (g : FuncId) (args : List V) (st : List SO) (res : V) (st' : List SO) : Prop :=
  fnB P g = true ∧ ∀ γ w (vals : Array Value), RelW γ st w → G γ.base → vals.size = args.length → (∀ (i : Nat) v x, args[i]? = some v → vals[i]? = some x → RelV γ w v x) →
    Calls P g vals w (fun e w' => ∃ γ' x, e = .returned x ∧ RelW γ' st' w' ∧ RelV γ' w' res x ∧ Evo γ.locs.length γ w γ' w')

theorem callFunc_run {P : Program} {g : FuncId} {args : Array Value} {w : World} (h : fnB P g = true) : (callFunc g args).run P w = .ok (.enter g args) w := by
  unfold fnB at h
  unfold callFunc
  split at h
  · next fn hf =>
    simp only [Bool.and_eq_true, bne_iff_ne, ne_eq] at h
    have hb : ∃ c, fn.body = some c := Option.isSome_iff_exists.1 h.1
    obtain ⟨c, hb⟩ := hb
    simp [hf, h.2, hb]
  · cases h

theorem s_call_gen {f : Fenv} {st st' : List SO} {fo : Operand} {args : Array Operand} {ts : Array TypeId} {g : FuncId} {caps vs : List V} {res : V}
    (hf : (caps = [] ∧ opnd f fo = .c (.fn g)) ∨ opnd f fo = .clo g caps) (hv : args.toList.map (opnd f) = vs) (hp : vs.all plainV = true) (hres : plainV res = true)
    (h : FnOK cx.P cx.G g (vs ++ caps) st res st') {o : Oper} (hop : o.op = .call { callee := .value fo, args, argTypes := ts }) :
    OpX cx o f st ⟨res, none, st'⟩ := by
  intro γ w gb ev h1 h2 h3 _
  rw [hop] at h3
  have hfo := opnd_rel (x := fo) h3 (by simp [Op.operands, Call.operands])
  have key : ∃ cvs : Array Value, ev fo = .func (.func g) #[] cvs ∧ cvs.size = caps.length ∧ ∀ (i : Nat) v x, caps[i]? = some v → cvs[i]? = some x → RelV γ w v x := by
    rcases hf with ⟨rfl, hf⟩ | hf
    · rw [hf] at hfo
      have hfo' : RelV γ w (.c (.fn g)) (ev fo) := hfo
      refine ⟨#[], ?_, rfl, by simp⟩
      generalize ev fo = y at hfo'
      cases hfo' with | c _ _ h => cases h; rfl
    · rw [hf] at hfo
      have hfo' : RelV γ w (.clo g caps) (ev fo) := hfo
      generalize ev fo = y at hfo'
      cases hfo' with | clo _ _ cvs hl hh => exact ⟨cvs, rfl, hl, hh⟩
  obtain ⟨cvs, hev, hcl, hcr⟩ := key
  have hrun : (execOp ev o).run cx.P w = .ok (.enter g (args.map ev ++ cvs)) w := by
    simp [execOp, hop, resolve, hev, Deferred.ofValue, invoke, callFunc_run h.1]
  rw [hrun]
  have hvl : vs.length = args.size := by rw [← hv]; simp
  refine (h.2 γ w (args.map ev ++ cvs) h1 h2 (by simp [hcl, hvl]) fun i v x hi hx => ?_).mono ?_
  · rw [List.getElem?_append] at hi
    rw [Array.getElem?_append] at hx
    split at hi
    · next hlt =>
      rw [if_pos (by simp; omega)] at hx
      rw [← hv, List.getElem?_map] at hi
      rw [Array.getElem?_map] at hx
      cases ha : args[i]? with
      | none => rw [ha] at hx; cases hx
      | some oo =>
        rw [ha] at hx
        simp only [Array.getElem?_toList, ha, Option.map_some, Option.some.injEq] at hi hx
        subst hx
        have hpv : plainV v = true := by
          refine List.all_eq_true.1 hp v ?_
          rw [← hv, List.mem_map]
          exact ⟨oo, by simpa using Array.mem_of_getElem? ha, hi⟩
        exact opnd_plain (x := oo) h3 (by simp only [Op.operands, Call.operands]; exact Array.mem_append.2 (.inr (Array.mem_of_getElem? ha))) hi hpv
    · next hge =>
      rw [if_neg (by simp; omega)] at hx
      simp only [Array.size_map] at hx
      rw [hvl] at hi
      exact hcr _ v x hi hx
  · rintro e w' ⟨γ', x, rfl, e1, e2, e3⟩
    refine ⟨x, rfl, γ', ⟨e3.base, e3.os, e3.tape, e3.output, e3.size, fun b hb ho _ => e3.keep b hb ho, e3.pers, e3.newp, e3.newo, e3.locs⟩, e1, ?_, by simp⟩
    cases res <;> first | exact e2 | (simp [plainV] at hres)

theorem side_plain {o : Oper} {f : Fenv} {v : V} {st : List SO} (h : plainV v = true) : Side o f ⟨v, none, st⟩ :=
  ⟨fun d off hv => by simp only at hv; rw [hv] at h; simp [plainV] at h, by simp⟩

/-- A call whatever the store: class 0. -/
theorem s_call0 {f : Fenv} {st : List SO} {fo : Operand} {args : Array Operand} {ts : Array TypeId} {g : FuncId} {caps vs : List V} {res : V}
    (hf : (caps = [] ∧ opnd f fo = .c (.fn g)) ∨ opnd f fo = .clo g caps) (hv : args.toList.map (opnd f) = vs) (hp : vs.all plainV = true) (hres : plainV res = true)
    (h : ∀ s, FnOK cx.P cx.G g (vs ++ caps) s res s) : OpSound cx (.call { callee := .value fo, args, argTypes := ts }) f st 0 ⟨res, none, st⟩ :=
  ⟨fun _ hop => s_call_gen hf hv hp hres (h st) hop, fun _ _ => side_plain hres, fun _ _ hop s => s_call_gen hf hv hp hres (h s) hop, fun _ => ⟨rfl, rfl⟩, by omega, by omega⟩
/-- A call that leaves the store: class 1. -/
theorem s_call1 {f : Fenv} {st : List SO} {fo : Operand} {args : Array Operand} {ts : Array TypeId} {g : FuncId} {caps vs : List V} {res : V}
    (hf : (caps = [] ∧ opnd f fo = .c (.fn g)) ∨ opnd f fo = .clo g caps) (hv : args.toList.map (opnd f) = vs) (hp : vs.all plainV = true) (hres : plainV res = true)
    (h : FnOK cx.P cx.G g (vs ++ caps) st res st) : OpSound cx (.call { callee := .value fo, args, argTypes := ts }) f st 1 ⟨res, none, st⟩ :=
  ⟨fun o hop => s_call_gen hf hv hp hres h hop, fun o _ => side_plain hres, by omega, fun _ => ⟨rfl, rfl⟩, by omega, by omega⟩
/-- A call that turns the store: class 2. -/
theorem s_call2 {f : Fenv} {st st' : List SO} {fo : Operand} {args : Array Operand} {ts : Array TypeId} {g : FuncId} {caps vs : List V} {res : V}
    (hf : (caps = [] ∧ opnd f fo = .c (.fn g)) ∨ opnd f fo = .clo g caps) (hv : args.toList.map (opnd f) = vs) (hp : vs.all plainV = true) (hres : plainV res = true)
    (h : FnOK cx.P cx.G g (vs ++ caps) st res st') : OpSound cx (.call { callee := .value fo, args, argTypes := ts }) f st 2 ⟨res, none, st'⟩ :=
  ⟨fun o hop => s_call_gen hf hv hp hres h hop, fun o _ => side_plain hres, by omega, by omega, by omega, by omega⟩

/-! ### A function's body -/
def argE : List V → Nat → Env
  | [], _ => []
  | v :: r, k => (k, v) :: argE r (k + 1)
theorem get_argE : ∀ (vs : List V) (k d : Nat), getE (argE vs k) d = if k ≤ d then (vs[d - k]?).getD .undef else .undef
  | [], k, d => by simp [argE, getE]
  | v :: r, k, d => by
    simp only [argE, getE]
    rw [get_argE r (k + 1) d]
    by_cases h : k = d
    · subst h; simp
    · rw [if_neg h]
      by_cases h1 : k ≤ d
      · rw [if_pos (by omega), if_pos h1]
        have : d - k = (d - (k + 1)) + 1 := by omega
        rw [this]
        simp
      · rw [if_neg (by omega), if_neg h1]

/-- One result's value. -/
def resOne (P : Program) (e : Env) : ResultVar → Option V
  | .tmp t => some (getE e t)
  | .cell a t => match getE e a with
    | .box cs => loadAbs P t cs 0
    | _ => none
def resVs (P : Program) (e : Env) : List ResultVar → Option (List V)
  | [] => some []
  | r :: rest => match resOne P e r, resVs P e rest with
    | some v, some vs => if plainV v = true then some (v :: vs) else none
    | _, _ => none
def resAll (P : Program) (e : Env) (rs : List ResultVar) : Option V :=
  match resVs P e rs with
  | some [v] => some v
  | some vs => some (.tup vs)
  | none => none

def resSem (tmps : Array Value) : ResultVar → Sem Value
  | .tmp t => pure (tmps.getD t undef)
  | .cell c t => do loadVar t (← asAddr (tmps.getD c undef))
theorem results_eq (fn : Func) (tmps : Array Value) : results fn tmps = (do
    let vs ← fn.results.mapM (resSem tmps)
    pure (if h : vs.size = 1 then vs[0] else .tuple vs)) := by
  unfold results
  congr 1

theorem resOne_run {γ0 γ : Gh} {w0 w : World} {gb : Nat → Nat} {e : Env} {st : List SO} {a : Act} {r : ResultVar} {v : V} (sg : StG cx γ0 w0 γ gb (getE e) st a w)
    (h : resOne cx.P e r = some v) (hp : plainV v = true) :
    ∃ x, (resSem a.tmps r).run cx.P w = .ok x w ∧ RelV γ w v x := by
  cases r with
  | tmp t =>
    simp only [resOne, Option.some.injEq] at h
    have hs := sg.slots t
    rw [h] at hs
    exact ⟨_, rfl, hs.plain hp⟩
  | cell c t =>
    simp only [resOne] at h
    split at h
    · next cs hc =>
      have hs := sg.slots c
      rw [hc] at hs
      obtain ⟨h1, vs, T, h2, h3⟩ := hs
      obtain ⟨x, hx, hr⟩ := load_row h2 h3 h
      refine ⟨x, ?_, hr⟩
      simp only [resSem, h1, asAddr, Sem.run_bind, Sem.run_pure, Result.andThen_ok]
      exact hx
    · cases h

theorem resVs_run {γ0 γ : Gh} {w0 w : World} {gb : Nat → Nat} {e : Env} {st : List SO} {a : Act} (sg : StG cx γ0 w0 γ gb (getE e) st a w) : ∀ (rs : List ResultVar) (vs : List V),
    resVs cx.P e rs = some vs → ∃ xs : List Value, (rs.mapM (resSem a.tmps)).run cx.P w = .ok xs w ∧
      xs.length = vs.length ∧ ∀ (i : Nat) v x, vs[i]? = some v → xs[i]? = some x → RelV γ w v x
  | [], vs, h => by
    simp only [resVs, Option.some.injEq] at h
    subst h
    exact ⟨[], rfl, rfl, by simp⟩
  | r :: rest, vs, h => by
    simp only [resVs] at h
    split at h
    · next v vs' h1 h2 =>
      split at h
      · next hp =>
        injection h with h
        subst h
        obtain ⟨x, hx, hr⟩ := resOne_run sg h1 hp
        obtain ⟨xs, hxs, hl, hrs⟩ := resVs_run sg rest vs' h2
        refine ⟨x :: xs, ?_, by simp [hl], fun i u y hi hy => ?_⟩
        · rw [List.mapM_cons]
          simp only [Sem.run_bind, Sem.run_pure]
          rw [hx]
          simp only [Result.andThen_ok]
          rw [hxs]
          rfl
        · cases i with
          | zero => simp at hi hy; subst hi hy; exact hr
          | succ i => simp at hi hy; exact hrs i u y hi hy
      · cases h
    · cases h

theorem resAll_run {γ0 γ : Gh} {w0 w : World} {gb : Nat → Nat} {e : Env} {st : List SO} {a : Act} {fn : Func} {v : V} (sg : StG cx γ0 w0 γ gb (getE e) st a w)
    (h : resAll cx.P e fn.results.toList = some v) : ∃ x, (results fn a.tmps).run cx.P w = .ok x w ∧ RelV γ w v x := by
  unfold resAll at h
  have main : ∀ vs, resVs cx.P e fn.results.toList = some vs → ∃ xs : Array Value, (results fn a.tmps).run cx.P w = .ok (if h : xs.size = 1 then xs[0] else .tuple xs) w ∧
      xs.size = vs.length ∧ ∀ (i : Nat) v x, vs[i]? = some v → xs[i]? = some x → RelV γ w v x := by
    intro vs hvs
    obtain ⟨xs, hxs, hl, hr⟩ := resVs_run sg _ _ hvs
    refine ⟨xs.toArray, ?_, by simp [hl], fun i v x hi hx => hr i v x hi (by simpa using hx)⟩
    rw [results_eq, Array.mapM_eq_mapM_toList]
    simp only [Sem.run_bind, Sem.run_map]
    rw [hxs]
    rfl
  split at h
  · next u hu =>
    injection h with h
    subst h
    obtain ⟨xs, h1, h2, h3⟩ := main _ hu
    have h2' : xs.size = 1 := h2
    rw [dif_pos h2'] at h1
    exact ⟨_, h1, h3 0 u _ rfl (by rw [Array.getElem?_eq_getElem (by omega)])⟩
  · next vs hne hvs =>
    injection h with h
    subst h
    obtain ⟨xs, h1, h2, h3⟩ := main _ hvs
    have h2' : ¬ xs.size = 1 := by
      intro h4
      rw [h2] at h4
      match vs, h4 with
      | [u], _ => exact hne u rfl
    rw [dif_neg h2'] at h1
    exact ⟨_, h1, .tup _ _ h2 h3⟩
  · cases h

/-- What a body must come to: some weaker state in which the results read 'r' and the store is 'st''. -/
def EndsX (cx : Cx) (rs : List ResultVar) (res : V) (st' : List SO) : Exit → Env → List SO → Prop := fun x e st =>
  (x = .normal ∨ x = .ret) ∧ ∃ e' extra, WeakE cx e st e' (st' ++ extra) ∧ resAll cx.P e' rs = some res ∧ StOk st' ∧ RefsLt st'.length res ∧ cx.n0 ≤ st'.length

/-- Book-keeping: one block turns that no data touch. -/
theorem RelW.turn {γ : Gh} {st : List SO} {w w' : World} {l : Nat} (hr : RelW γ st w) (hs : w'.heap.size = w.heap.size) (hw : ∀ b, b ≠ l → w'.heap[b]? = w.heap[b]?)
    (hp : ¬ γ.pers l) (ho : ¬ γ.owns l) : RelW γ st w' := by
  have hpk : ∀ b, γ.pers b → w'.heap[b]? = w.heap[b]? := fun b h => hw b (fun e => hp (e ▸ h))
  refine ⟨hr.len, by rw [hs]; exact hr.basesz, fun b hb' => ⟨(hr.base b hb').1, (hpk b (hr.base b hb').1).trans (hr.base b hb').2⟩, fun b h => by rw [hs]; exact hr.plt b h,
    fun b h => by rw [hs]; exact hr.olt b h, hr.apart, hr.inj, hr.two, fun i l1 o hl1 ho1 => ?_⟩
  exact (hr.objs i l1 o hl1 ho1).mono (fun _ h => h) hpk (.refl _ _) (fun b hb' => hw b (fun e => ho (e ▸ ⟨i, l1, hl1, hb'⟩)))
theorem StG.turn {γ0 γ : Gh} {w0 w0' w w' : World} {gb : Nat → Nat} {f : Fenv} {st : List SO} {a a' : Act} {l : Nat} (sg : StG cx γ0 w0 γ gb f st a w)
    (ht : a'.tmps = a.tmps) (hs0 : w0'.heap.size = w0.heap.size) (hs : w'.heap.size = w.heap.size) (hos : w'.os = w0'.os) (htp : w'.tape = w0'.tape) (hout : w'.output = w0'.output)
    (hw : ∀ b, b ≠ l → w'.heap[b]? = w.heap[b]?) (hw0 : ∀ b, b ≠ l → w0'.heap[b]? = w0.heap[b]?) (hll : l < w0.heap.size → w'.heap[l]? = w0'.heap[l]?)
    (hp : ¬ γ.pers l) (ho : ¬ γ.owns l) (hb : ∀ d cs, f d = .box cs → gb d ≠ l) (hm : Marks w0'.heap.size γ w' a'.defers) : StG cx γ0 w0' γ gb f st a' w' := by
  have hpk : ∀ b, γ.pers b → w'.heap[b]? = w.heap[b]? := fun b h => hw b (fun e => hp (e ▸ h))
  have he := sg.evo
  refine ⟨⟨he.base, hos, htp, hout, by rw [hs0, hs]; exact he.size, fun b hb' hob => ?_, he.pers, fun b h hlt => he.newp b h (hs0 ▸ hlt), fun b h hlt => he.newo b h (hs0 ▸ hlt), he.locs⟩,
    sg.n0, sg.rel.turn hs hw hp ho, sg.g, by rw [ht]; exact sg.size, hm, fun d => ?_, fun d cs hd => ?_, sg.inj⟩
  · by_cases e : b = l
    · subst e; exact hll (hs0 ▸ hb')
    · rw [hw b e, hw0 b e]; exact he.keep b (hs0 ▸ hb') hob
  · rw [ht]
    have hsd := sg.slots d
    cases hv : f d with
    | box cs =>
      rw [hv] at hsd
      obtain ⟨h1, vs, T, h2, h3⟩ := hsd
      exact ⟨h1, vs, T, by rw [hw _ (hb d cs hv)]; exact h2, h3.mono (fun _ h => h) hpk (.refl _ _)⟩
    | lp d' off => rw [hv] at hsd; exact hsd
    | _ => rw [hv] at hsd; exact RelV.mono (γ' := γ) (fun _ h => h) hpk (.refl _ _) hsd
  · obtain ⟨h1, h2, h3, h4⟩ := sg.boxes d cs hd
    exact ⟨by rw [hs0]; exact h1, by rw [hs]; exact h2, h3, h4⟩
theorem map_mark_inj : ∀ {xs ys : List Nat}, xs.map mark = ys.map mark → xs = ys
  | [], [], _ => rfl
  | [], _ :: _, h => by cases h
  | _ :: _, [], h => by cases h
  | x :: xs, y :: ys, h => by
    simp only [List.map_cons, List.cons.injEq] at h
    have h1 : x = y := by have := h.1; simp only [mark, Deferred.mk.injEq, Target.collected.injEq, and_true] at this; exact this
    rw [h1, map_mark_inj h.2]
/-- A frame with marks on its way out. -/
theorem leaves_marks {γ0 γ : Gh} {w0 : World} {gb : Nat → Nat} {f : Fenv} {st : List SO} {n : Nat} {fn : Func} {R : Ending → World → Prop} {tm : Array Value} : ∀ (Ds : List Nat) (a : Act) (w : World),
    a.defers = Ds.map mark → a.tmps = tm → StG cx γ0 w0 γ gb f st a w →
    (∀ a' w', a'.tmps = tm → StG cx γ0 w0 γ gb f st a' w' → LeavesIn Fence.wide n cx.P fn tm R [] .returning w') → LeavesInM Fence.wide n cx.P fn tm R (Ds.map mark) .returning w
  | [], a, w, _, ht, sg, h => h a w ht sg
  | D :: Ds, a, w, hd, ht, sg, h => by
    obtain ⟨Es, e1, e2, e3⟩ := sg.defers
    rw [hd] at e1
    have := map_mark_inj e1
    subst this
    obtain ⟨k1, k2, k3, k4⟩ := e3 D (List.mem_cons_self ..)
    refine ⟨by simp, .inl ⟨D, _, rfl, run_takeDeferred k2, ?_⟩⟩
    have sg' : StG cx γ0 w0 γ gb f st { a with defers := Ds.map mark } (w.putObj D (.deferred none)) :=
      sg.turn (l := D) rfl rfl World.putObj_size sg.evo.os sg.evo.tape sg.evo.output (fun b hb => World.putObj_heap_other hb) (fun _ _ => rfl) (fun h => by omega) k3 k4
        (fun d cs hd he => by
          have hs := sg.slots d
          rw [hd] at hs
          obtain ⟨_, vs, T, hh, _⟩ := hs
          rw [he, k2] at hh
          cases hh)
        ⟨Ds, rfl, (List.nodup_cons.1 e2).2, fun D' hD' => by
          obtain ⟨j1, j2, j3, j4⟩ := e3 D' (List.mem_cons_of_mem _ hD')
          exact ⟨j1, (World.putObj_heap_other (fun e : D' = D => (List.nodup_cons.1 e2).1 (by rw [← e]; exact hD'))).trans j2, j3, j4⟩⟩
    exact leaves_marks Ds { a with defers := Ds.map mark } _ rfl ht sg' h

/-- What is asked where a body ends: some weaker state, in which the results are read. -/
def Gives (cx : Cx) (fn : Func) (res : V) (st' : List SO) (e : Env) (st : List SO) : Prop :=
  ∃ e' st2, WeakE cx e st e' st2 ∧ ∀ γ0 w0 γ gb a w, StG cx γ0 w0 γ gb (getE e') st2 a w →
    ∃ γ' v, (results fn a.tmps).run cx.P w = .ok v w ∧ RelW γ' st' w ∧ RelV γ' w res v ∧ Evo cx.n0 γ0 w0 γ' w
theorem EndsX.gives {fn : Func} {res : V} {st' : List SO} {x : Exit} {e : Env} {st : List SO} (h : EndsX cx fn.results.toList res st' x e st) : Gives cx fn res st' e st := by
  obtain ⟨_, e', extra, hweak, hres, hok, hrefs, hn⟩ := h
  refine ⟨e', _, hweak, fun γ0 w0 γ gb a w sg => ?_⟩
  obtain ⟨v, hv, hrel⟩ := resAll_run sg hres
  exact ⟨γ.cut st'.length, v, hv, relW_cut hok sg.rel, relV_cut hrefs hrel, sg.evo.trans (evo_cut (γ := γ) (w := w) hn) (Nat.le_refl _)⟩

theorem fn_intro_g {P : Program} {G : World → Prop} {g : FuncId} {fn : Func} {c : Code} {L : LCode} {N : Nat} {ks : Nat → List Nat} {args : List V} {st st' : List SO} {res : V}
    (hf : P.funcs[g]? = some fn) (hb : fn.body = some c) (hN : fn.ntmps = N) (hname : fnB P g = true) (hl : light c = L) (hB : codeB N ks c = true) (ha : args.length ≤ N)
    (h : StOk st → TriX ⟨P, G, N, st.length⟩ ks L (argE args 0) st (fun x e st2 => (x = .normal ∨ x = .ret) ∧ Gives ⟨P, G, N, st.length⟩ fn res st' e st2)) : FnOK P G g args st res st' := by
  refine ⟨hname, fun γ w vals hW hG hsz hargs => ?_⟩
  refine callsIn_wide.1 (callsIn_of_wp_marks (n := 0) hf hb trivial ?_)
  have h1 := h (relW_stOk hW) c hl hB
  have hst : St ⟨P, G, N, st.length⟩ γ w (getE (argE args 0)) st { tmps := vals ++ Array.replicate (fn.ntmps - vals.size) undef, defers := [] } w := by
    have hnobox : ∀ d cs, getE (argE args 0) d ≠ .box cs := by
      intro d cs hd
      rw [get_argE] at hd
      simp only [Nat.zero_le, if_true, Nat.sub_zero] at hd
      cases hv : args[d]? with
      | none => rw [hv] at hd; cases hd
      | some v =>
        rw [hv] at hd
        simp only [Option.getD_some] at hd
        subst hd
        have hlt := lt_of_some hv
        have := hargs d _ (vals[d]'(by omega)) hv (Array.getElem?_eq_getElem _)
        cases this
    refine ⟨γ, fun _ => 0, ⟨by rw [hW.len.symm]; exact .refl _ _ _, hW.len, hW, hG, by simp [hN]; omega, .nil, fun d => ?_, fun d cs hd => absurd hd (hnobox d cs), fun d _ cs _ hd => absurd hd (hnobox d cs)⟩⟩
    rw [get_argE]
    simp only [Nat.zero_le, if_true, Nat.sub_zero]
    cases hv : args[d]? with
    | none => exact .undef _
    | some v =>
      have hlt := lt_of_some hv
      have hx : (vals ++ Array.replicate (fn.ntmps - vals.size) undef).getD d undef = vals[d]'(by omega) := by
        simp [Array.getElem?_append_left (show d < vals.size by omega), Array.getElem?_eq_getElem (show d < vals.size by omega)]
      simp only [Option.getD_some]
      rw [hx]
      exact (hargs d v _ hv (Array.getElem?_eq_getElem _)).toS
  refine wpIn_mono (h1 γ w _ w hst none 0 (.inl rfl)) ?_
  rintro x a w' ⟨f', st2, ⟨e2, rfl, hx, e', st3, hweak, hgive⟩, hs⟩
  obtain ⟨γ', gb, sg⟩ := hweak γ w a w' hs
  obtain ⟨Ds, hds, _⟩ := sg.defers
  have fin : LeavesInM Fence.wide 0 P fn a.tmps (fun e w' => ∃ γ' x, e = .returned x ∧ RelW γ' st' w' ∧ RelV γ' w' res x ∧ Evo γ.locs.length γ w γ' w') a.defers .returning w' := by
    rw [hds]
    refine leaves_marks Ds a w' hds rfl sg fun a' w'' ht sg' => ?_
    obtain ⟨γ2, v, hv, k1, k2, k3⟩ := hgive _ _ _ _ _ _ sg'
    rw [ht] at hv
    refine ⟨v, hv, γ2, v, rfl, k1, k2, ?_⟩
    rw [sg.n0]
    exact k3
  rcases hx with rfl | rfl <;> exact fin
theorem fn_intro {P : Program} {G : World → Prop} {g : FuncId} {fn : Func} {c : Code} {L : LCode} {N : Nat} {ks : Nat → List Nat} {args : List V} {st st' : List SO} {res : V}
    (hf : P.funcs[g]? = some fn) (hb : fn.body = some c) (hN : fn.ntmps = N) (hname : fnB P g = true) (hl : light c = L) (hB : codeB N ks c = true) (ha : args.length ≤ N)
    (h : StOk st → TriX ⟨P, G, N, st.length⟩ ks L (argE args 0) st (EndsX ⟨P, G, N, st.length⟩ fn.results.toList res st')) : FnOK P G g args st res st' :=
  fn_intro_g hf hb hN hname hl hB ha (fun hst => (h hst).mono fun _ _ _ hq => ⟨hq.1, hq.gives⟩)
end
end Go.L1
namespace Go.L1
open Go

theorem foldl_splice (off : Nat) : ∀ (us : List Value) (k : Nat) (cells : Array Value), off + k + us.length ≤ cells.size →
    ((us.zipIdx k).foldl (fun cs p => cs.setIfInBounds (off + p.2) p.1) cells).toList = cells.toList.take (off + k) ++ us ++ cells.toList.drop (off + k + us.length)
  | [], k, cells, _ => by simp
  | u :: us, k, cells, h => by
    simp only [List.zipIdx_cons, List.foldl_cons]
    simp only [List.length_cons] at h
    rw [foldl_splice off us (k + 1) _ (by simp; omega)]
    rw [Array.toList_setIfInBounds]
    have h1 : (cells.toList.set (off + k) u).take (off + (k + 1)) = cells.toList.take (off + k) ++ [u] := by
      rw [show off + (k + 1) = (off + k) + 1 by omega, List.take_add_one]
      rw [List.take_set_of_le (Nat.le_refl _)]
      rw [List.getElem?_set_self (by simp; omega)]
      rfl
    have h2 : (cells.toList.set (off + k) u).drop (off + (k + 1) + us.length) = cells.toList.drop (off + k + (us.length + 1)) := by
      rw [List.drop_set_of_lt (by omega)]
      congr 1
      omega
    rw [h1, h2]
    simp

def fillV (pl : Nat → Option (Nat × Nat)) (cells : List V) : List (Nat × V) → Option (List V)
  | [] => some cells
  | (i, v) :: rest => match pl i, cellsV v with
    | some (off, sz), some us => if us.length = sz ∧ off + us.length ≤ cells.length then fillV pl (cells.take off ++ us ++ cells.drop (off + us.length)) rest else none
    | _, _ => none

theorem fill_rel {γ : Gh} {w : World} (pl : Nat → Option (Nat × Nat)) : ∀ (ps : List (Nat × V)) (qs : List (Nat × Value)) (cells cells' : List V) (vs : Array Value),
    vs.size = cells.length → (∀ (i : Nat) v x, cells[i]? = some v → vs[i]? = some x → RelV γ w v x) →
    ps.map (·.1) = qs.map (·.1) → (∀ (i : Nat) p q, ps[i]? = some p → qs[i]? = some q → RelV γ w p.2 q.2) → (∀ p ∈ ps, ∀ us, cellsV p.2 = some us → okCells us = true) →
    fillV pl cells ps = some cells' →
    ∃ vs' : Array Value, Instr.fill pl vs qs = some vs' ∧ vs'.size = cells'.length ∧ ∀ (i : Nat) v x, cells'[i]? = some v → vs'[i]? = some x → RelV γ w v x
  | [], qs, cells, cells', vs, hsz, hr, hm, _, _, h => by
    have : qs = [] := by cases qs <;> simp at hm ⊢
    subst this
    simp only [fillV, Option.some.injEq] at h
    subst h
    exact ⟨vs, rfl, hsz, hr⟩
  | (i, v) :: ps, qs, cells, cells', vs, hsz, hr, hm, hq, hok, h => by
    cases qs with
    | nil => simp at hm
    | cons q qs =>
      obtain ⟨j, x⟩ := q
      simp only [List.map_cons, List.cons.injEq] at hm
      obtain ⟨rfl, hm⟩ := hm
      simp only [fillV] at h
      split at h
      · next off sz us hpl hus =>
        split at h
        · next hcond =>
          obtain ⟨h1, h2⟩ := hcond
          have hrel : RelV γ w v x := hq 0 _ _ rfl rfl
          have hrow := relRow_cells hrel hus (hok _ (List.mem_cons_self ..) us hus)
          have hxs : x.cells.size = us.length := hrow.1
          have hfold : (x.cells.zipIdx.foldl (fun cs (c, j) => cs.setIfInBounds (off + j) c) vs).toList = vs.toList.take off ++ x.cells.toList ++ vs.toList.drop (off + us.length) := by
            rw [← Array.foldl_toList, Array.toList_zipIdx]
            have := foldl_splice off x.cells.toList 0 vs (by simp [hxs, hsz]; omega)
            simp only [Nat.add_zero, Array.length_toList, hxs] at this
            exact this
          have hnew := fill_rel pl ps qs (cells.take off ++ us ++ cells.drop (off + us.length)) cells' (x.cells.zipIdx.foldl (fun cs (c, j) => cs.setIfInBounds (off + j) c) vs)
            (by rw [← Array.length_toList, hfold]; simp [hsz, hxs]) (fun k u y hk hy => by
              rw [← Array.getElem?_toList, hfold] at hy
              rw [List.append_assoc, List.getElem?_append] at hk hy
              have e1 : (cells.take off).length = off := by simp; omega
              have e2 : (vs.toList.take off).length = off := by simp [hsz]; omega
              rw [e1] at hk
              rw [e2] at hy
              split at hk
              · next hlt =>
                rw [if_pos hlt] at hy
                rw [List.getElem?_take_of_lt hlt] at hk hy
                exact hr k u y hk (by simpa using hy)
              · next hge =>
                rw [if_neg hge] at hy
                rw [List.getElem?_append] at hk hy
                have e3 : x.cells.toList.length = us.length := by simp [hxs]
                rw [e3] at hy
                split at hk
                · next hlt =>
                  rw [if_pos hlt] at hy
                  exact (hrow.2 _ u y hk (by simpa using hy)).1
                · next hge2 =>
                  rw [if_neg hge2] at hy
                  rw [List.getElem?_drop] at hk hy
                  exact hr _ u y hk (by simpa using hy)) hm (fun k p q hp hq' => hq (k + 1) p q (by simpa using hp) (by simpa using hq'))
            (fun p hp => hok p (List.mem_cons_of_mem _ hp)) h
          obtain ⟨vs', e1, e2, e3⟩ := hnew
          refine ⟨vs', ?_, e2, e3⟩
          simp only [Instr.fill, hpl]
          rw [if_neg (by simp [hxs, h1, hsz]; omega)]
          exact e1
        · cases h
      · cases h

/-- Where a literal's parts go. -/
def plOf (P : Program) (t : TypeId) : Option (List (Nat × Nat)) :=
  match P.underlying t with
  | some (.struct fs) => fs.toList.mapM fun f => (szOf P f.type).map fun s => (f.offset, s)
  | _ => none

section
variable {cx : Cx} {f : Fenv} {st : List SO}

theorem mapM_places {P : Program} {w : World} : ∀ (fs : List Field) (pl : List (Nat × Nat)), (fs.mapM fun f => (szOf P f.type).map fun s => (f.offset, s)) = some pl →
    (fs.mapM (fun f => do pure (f.offset, ← sizeOf f.type) : Field → Sem (Nat × Nat))).run P w = .ok pl w
  | [], pl, h => by simp at h; subst h; rfl
  | fl :: fs, pl, h => by
    rw [List.mapM_cons] at h ⊢
    cases hs : szOf P fl.type with
    | none => rw [hs] at h; simp at h
    | some s =>
      rw [hs] at h
      cases hr : (fs.mapM fun f => (szOf P f.type).map fun s => (f.offset, s)) with
      | none => rw [hr] at h; simp at h
      | some pl' =>
        rw [hr] at h
        simp at h
        subst h
        simp only [Sem.run_bind, run_sizeOf' hs, Result.andThen_ok, Sem.run_pure, mapM_places fs pl' hr]

def partsV (f : Fenv) (parts : Array (Nat × Operand)) : List (Nat × V) := parts.toList.map fun p => (p.1, opnd f p.2)

theorem parts_rel {γ : Gh} {w : World} {gb : Nat → Nat} {ev : Operand → Value} {xs : Array Operand} {parts : Array (Nat × Operand)} (h3 : EvOk γ w gb f ev xs)
    (hmem : ∀ p ∈ parts, p.2 ∈ xs) (hp : (partsV f parts).all (fun p => plainV p.2) = true) :
    (partsV f parts).map (·.1) = (parts.map (fun (i, x) => (i, ev x))).toList.map (·.1) ∧
    ∀ (i : Nat) p q, (partsV f parts)[i]? = some p → (parts.map (fun (i, x) => (i, ev x))).toList[i]? = some q → RelV γ w p.2 q.2 := by
  refine ⟨by simp [partsV], fun i p q hi hq => ?_⟩
  have hpl := List.all_eq_true.1 hp p (List.mem_of_getElem? hi)
  simp only [partsV, List.getElem?_map, Option.map_eq_some_iff] at hi
  obtain ⟨a, ha, rfl⟩ := hi
  simp only [Array.toList_map, List.getElem?_map, ha, Option.map_some, Option.some.injEq] at hq
  subst hq
  exact opnd_plain (x := a.2) h3 (hmem a (by simpa using List.mem_of_getElem? ha)) rfl hpl

theorem s_build {t : TypeId} {parts : Array (Nat × Operand)} {zs cs : List V} {pl : List (Nat × Nat)} (hz : zvOf cx.P t = some zs) (hpl : plOf cx.P t = some pl)
    (hp : (partsV f parts).all (fun p => plainV p.2 && ((cellsV p.2).map okCells).getD true) = true) (hf : fillV (pl[·]?) zs (partsV f parts) = some cs) :
    OpSound cx (.build t parts) f st 0 ⟨.agg cs, none, st⟩ :=
  sound_plain rfl fun oo hop st γ w gb ev _ _ h3 _ => by
    obtain ⟨z, hz1, hz2⟩ := run_zero' (w := w) hz
    have hp1 : (partsV f parts).all (fun p => plainV p.2) = true := List.all_eq_true.2 fun p hp' => by
      have := List.all_eq_true.1 hp p hp'
      simp only [Bool.and_eq_true] at this
      exact this.1
    obtain ⟨r1, r2⟩ := parts_rel (parts := parts) h3 (fun p hp' => by simp [Op.operands]; exact ⟨p.1, hp'⟩) hp1
    obtain ⟨vs', e1, e2, e3⟩ := fill_rel (γ := γ) (w := w) (pl[·]?) (partsV f parts) (parts.map (fun (i, x) => (i, ev x))).toList zs cs z.cells (by rw [← hz2]; simp)
      (fun i v x hi hx => by
        rw [← hz2] at hi
        simp only [List.getElem?_map, Array.getElem?_toList, hx, Option.map_some, Option.some.injEq] at hi
        rw [← hi]
        exact relV_constV x) r1 r2 (fun p hp' us hus => by
        have := List.all_eq_true.1 hp p hp'
        simp only [Bool.and_eq_true, hus, Option.map_some, Option.getD_some] at this
        exact this.2) hf
    refine ⟨.agg vs', ?_, .agg _ _ e2 e3⟩
    unfold plOf at hpl
    split at hpl
    · next fs hu =>
      have hm := mapM_places (w := w) _ _ hpl
      have hm' : (fs.mapM (fun f => do pure (f.offset, ← sizeOf f.type) : Field → Sem (Nat × Nat))).run cx.P w = .ok pl.toArray w := by
        rw [Array.mapM_eq_mapM_toList]
        simp only [Sem.run_map]
        rw [hm]
        rfl
      have e1' : Instr.fill (fun i => pl.toArray[i]?) z.cells (parts.map (fun (i, x) => (i, ev x))).toList = some vs' := by
        simpa using e1
      simp only [execOp, hop, Sem.run_bind, Sem.run_pure, Instr.build, hz1, Result.andThen_ok, underlying, run_program, hu, hm', e1']
    · cases hpl

/-- The plain cells of a value. -/
def cellsC : V → Option (List C)
  | .c x => some [x]
  | .agg cs => cs.mapM fun | .c x => some x | _ => none
  | _ => none

theorem mapM_c : ∀ (cs : List V) (l : List C), (cs.mapM fun | .c x => some x | _ => none) = some l → cs = l.map .c
  | [], l, h => by simp at h; subst h; rfl
  | v :: cs, l, h => by
    rw [List.mapM_cons] at h
    cases v with
    | c x =>
      cases hr : (cs.mapM fun | .c x => some x | _ => none : Option (List C)) with
      | none => rw [hr] at h; simp at h
      | some l' => rw [hr] at h; simp at h; subst h; simp [mapM_c cs l' hr]
    | _ => simp at h
theorem cellsC_cells {v : V} {l : List C} (h : cellsC v = some l) : cellsV v = some (l.map .c) := by
  cases v with
  | c x => simp [cellsC] at h; subst h; rfl
  | agg cs => simp only [cellsC] at h; simp [cellsV, mapM_c cs l h]
  | _ => simp [cellsC] at h

/-- Elements in order: the parts of a slice's literal. -/
def elemsOf (f : Fenv) (esz : Nat) : Nat → List (Nat × Operand) → Option (List (List C))
  | _, [] => some []
  | k, (i, x) :: rest => if i = k then match cellsC (opnd f x), elemsOf f esz (k + 1) rest with
      | some l, some r => if l.length = esz then some (l :: r) else none
      | _, _ => none else none

theorem elemsOf_spec {esz : Nat} : ∀ (ps : List (Nat × Operand)) (k : Nat) (xs : List (List C)), elemsOf f esz k ps = some xs →
    xs.length = ps.length ∧ (∀ x ∈ xs, x.length = esz) ∧
    ∀ (pre : List V), pre.length = k * esz → ∀ (suf : List V), suf.length = ps.length * esz →
      fillV (fun i => some (i * esz, esz)) (pre ++ suf) (ps.map fun p => (p.1, opnd f p.2)) = some (pre ++ (xs.flatten.map .c))
  | [], k, xs, h => by
    simp only [elemsOf, Option.some.injEq] at h
    subst h
    refine ⟨rfl, by simp, fun pre _ suf hs => ?_⟩
    have : suf = [] := List.eq_nil_of_length_eq_zero (by simpa using hs)
    simp [fillV, this]
  | (i, x) :: rest, k, xs, h => by
    simp only [elemsOf] at h
    split at h
    · next hik =>
      subst hik
      split at h
      · next l r hl hr =>
        split at h
        · next hlen =>
          injection h with h
          subst h
          obtain ⟨h1, h2, h3⟩ := elemsOf_spec rest (i + 1) r hr
          refine ⟨by simp [h1], by simpa [hlen] using h2, fun pre hpre suf hsuf => ?_⟩
          simp only [List.map_cons, fillV, cellsC_cells hl, List.length_map]
          have hsl : esz ≤ suf.length := by rw [hsuf]; simp [Nat.add_mul]
          rw [if_pos ⟨hlen, by simp [hpre, hlen]; omega⟩]
          have e1 : (pre ++ suf).take (i * esz) = pre := by rw [← hpre]; simp
          have e2 : (pre ++ suf).drop (i * esz + l.length) = suf.drop esz := by
            rw [hlen, ← hpre, List.drop_append]
            simp
          rw [e1, e2]
          have := h3 (pre ++ l.map .c) (by simp [hpre, hlen, Nat.add_mul]) (suf.drop esz) (by simp [hsuf, Nat.add_mul])
          rw [this]
          simp
        · cases h
      · cases h
    · cases h

theorem buildSlice_run {P : Program} {w : World} {t e : TypeId} {esz len : Nat} {parts : Array (Nat × Value)} {vs' : Array Value} {z : Value} (hu : P.underlying t = some (.slice e))
    (hs : szOf P e = some esz) (hbig : len * esz ≤ 2 ^ 24) (hz : (zeroValue e).run P w = .ok z w) (zs : Array Value) (hzs : zs = if len * esz = 0 then #[] else z.cells)
    (hf : Instr.fill (fun i => some (i * esz, esz)) ((Array.range (len * esz)).map (zs[· % zs.size]!)) parts.toList = some vs') :
    (Instr.buildSlice t len parts).run P w = .ok (.slice (some ⟨w.heap.size, 0, none⟩) len len) (w.alloc (.cells vs' e)) := by
  unfold Instr.buildSlice
  simp only [Sem.run_bind, underlying, run_program, Result.andThen_ok, hu, run_sizeOf' hs, Sem.run_pure]
  rw [if_neg (by omega)]
  subst hzs
  by_cases h0 : len * esz = 0
  · rw [if_pos h0] at hf
    have e0 : ∀ g : Nat → Value, (Array.range 0).map g = #[] := fun g => by simp
    simp only [h0, e0] at hf
    simp only [h0, if_true, Sem.run_pure, Result.andThen_ok, e0]
    simp [hf, newRow]
  · rw [if_neg h0] at hf
    simp only [h0, if_false, Sem.run_bind, hz, Result.andThen_ok, Sem.run_pure]
    simp [hf, newRow]

/-- What a slice's literal makes: a new block whose cells are the elements'. -/
theorem buildSlice_rel {γ : Gh} {w : World} {gb : Nat → Nat} {ev : Operand → Value} {t e : TypeId} {esz len : Nat} {parts : Array (Nat × Operand)} {xs : List (List C)}
    (h3 : EvOk γ w gb f ev (Op.buildSlice t len parts).operands) (hu : cx.P.underlying t = some (.slice e)) (hs : szOf cx.P e = some esz) (hbig : len * esz ≤ 2 ^ 24)
    (hz : (zvOf cx.P e).isSome = true) (hx : elemsOf f esz 0 parts.toList = some xs) (hlen : xs.length = len) :
    ∃ vs : Array Value, (Instr.buildSlice t len (parts.map fun (i, x) => (i, ev x))).run cx.P w = .ok (.slice (some ⟨w.heap.size, 0, none⟩) len len) (w.alloc (.cells vs e)) ∧
      vs.size = len * esz ∧ (∀ x ∈ xs, x.length = esz) ∧ ∀ (i : Nat) c v, xs.flatten[i]? = some c → vs[i]? = some v → RelC γ.pers w c v := by
  obtain ⟨zz, hzz⟩ := Option.isSome_iff_exists.1 hz
  obtain ⟨z, hz1, hz2⟩ := run_zero' (w := w) hzz
  obtain ⟨k1, k2, k3⟩ := elemsOf_spec _ _ _ hx
  have hpl : parts.toList.length = len := by rw [← k1, hlen]
  have hfill := k3 [] (by simp) (List.replicate (len * esz) .undef) (by simp [← hpl])
  simp only [List.nil_append] at hfill
  have cellsAll : ∀ (ps : List (Nat × Operand)) (k : Nat) (ys : List (List C)), elemsOf f esz k ps = some ys → ∀ p ∈ ps, ∃ l, cellsC (opnd f p.2) = some l := by
    intro ps
    induction ps with
    | nil => intro _ _ _ p hp; cases hp
    | cons q rest ih =>
      intro k ys h p hp
      obtain ⟨i, x⟩ := q
      simp only [elemsOf] at h
      split at h
      · split at h
        · next l r hl hr =>
          rcases List.mem_cons.1 hp with rfl | hp
          · exact ⟨l, hl⟩
          · exact ih _ _ hr p hp
        · cases h
      · cases h
  have hp1 : (partsV f parts).all (fun p => plainV p.2) = true := List.all_eq_true.2 fun p hp' => by
    simp only [partsV, List.mem_map] at hp'
    obtain ⟨q, hq, rfl⟩ := hp'
    obtain ⟨l, hl⟩ := cellsAll _ _ _ hx q hq
    exact cellsV_plain (cellsC_cells hl)
  obtain ⟨r1, r2⟩ := parts_rel (parts := parts) h3 (fun p hp' => by simp [Op.operands]; exact ⟨p.1, hp'⟩) hp1
  have hok : ∀ p ∈ partsV f parts, ∀ us, cellsV p.2 = some us → okCells us = true := by
    intro p hp' us hus
    simp only [partsV, List.mem_map] at hp'
    obtain ⟨q, hq, rfl⟩ := hp'
    obtain ⟨l, hl⟩ := cellsAll _ _ _ hx q hq
    rw [cellsC_cells hl] at hus
    injection hus with hus
    subst hus
    simp [okCells, okCell]
  obtain ⟨vs', e1, e2, e3⟩ := fill_rel (γ := γ) (w := w) (fun i => some (i * esz, esz)) (partsV f parts) (parts.map (fun (i, x) => (i, ev x))).toList (List.replicate (len * esz) .undef)
    (xs.flatten.map .c) ((Array.range (len * esz)).map ((if len * esz = 0 then #[] else z.cells)[· % (if len * esz = 0 then #[] else z.cells).size]!)) (by simp)
    (fun i v x hi _ => by
      rw [List.getElem?_replicate] at hi
      split at hi
      · injection hi with hi; rw [← hi]; exact .undef _
      · cases hi) r1 r2 hok hfill
  have hflat : xs.flatten.length = len * esz := by
    have : ∀ l : List (List C), (∀ x ∈ l, x.length = esz) → l.flatten.length = l.length * esz := by
      intro l
      induction l with
      | nil => intro _; simp
      | cons a l ih => intro h; simp [ih (fun x hx => h x (List.mem_cons_of_mem _ hx)), h a (List.mem_cons_self ..), Nat.add_mul]; omega
    rw [this xs k2, hlen]
  refine ⟨vs', buildSlice_run hu hs hbig hz1 _ rfl e1, by rw [e2, List.length_map]; exact hflat, k2, fun i c v hi hv => ?_⟩
  have := e3 i (.c c) v (by rw [List.getElem?_map, hi]; rfl) hv
  cases this with | c _ _ h => exact h

theorem rowIdx {xs : List (List C)} {esz : Nat} (hz : ∀ x ∈ xs, x.length = esz) : ∀ (i : Nat) x (j : Nat) c, xs[i]? = some x → x[j]? = some c → xs.flatten[i * esz + j]? = some c := by
  induction xs with
  | nil => intro i x j c hi; simp at hi
  | cons a xs ih =>
    intro i x j c hi hj
    have ha := hz a (List.mem_cons_self ..)
    cases i with
    | zero =>
      simp at hi
      subst hi
      simp only [List.flatten_cons, Nat.zero_mul, Nat.zero_add]
      rw [List.getElem?_append_left (lt_of_some hj)]
      exact hj
    | succ i =>
      simp only [List.getElem?_cons_succ] at hi
      simp only [List.flatten_cons]
      rw [List.getElem?_append_right (by rw [ha, Nat.add_mul]; omega)]
      have : (i + 1) * esz + j - a.length = i * esz + j := by rw [ha, Nat.add_mul]; omega
      rw [this]
      exact ih (fun x hx => hz x (List.mem_cons_of_mem _ hx)) i x j c hi hj

/-- A new block that all may read from now on. -/
theorem out_pers {γ : Gh} {w : World} {gb : Nat → Nat} {e : TypeId} {esz : Nat} {xs : List (List C)} {vs : Array Value} (hr : RelW γ st w) (hv : vs.size = xs.length * esz) (hm : xs.length ≤ maxLen)
    (hz : ∀ x ∈ xs, x.length = esz) (hrel : ∀ (i : Nat) c v, xs.flatten[i]? = some c → vs[i]? = some v → RelC γ.pers w c v) :
    Out γ w gb ⟨.c (.sl xs), none, st⟩ (.slice (some ⟨w.heap.size, 0, none⟩) xs.length xs.length) (w.alloc (.cells vs e)) := by
  have hw : ∀ b, b < w.heap.size → (w.alloc (.cells vs e)).heap[b]? = w.heap[b]? := fun b hb => heap_alloc_old w _ b hb
  have hpk : ∀ b, γ.pers b → (w.alloc (.cells vs e)).heap[b]? = w.heap[b]? := fun b hb => hw b (hr.plt b hb)
  let γ' : Gh := { γ with pers := fun b => γ.pers b ∨ b = w.heap.size }
  have hpp : ∀ b, γ.pers b → γ'.pers b := fun b h => .inl h
  have ho : ∀ b, γ'.owns b → γ.owns b := fun b h => h
  have hf := hr.frame (w' := w.alloc (.cells vs e)) (by simp) hw
  refine ⟨γ', ⟨rfl, rfl, rfl, rfl, by simp, fun b hb _ _ => hw b hb, hpp, fun b hb hlt => ?_, fun b hb _ => ho b hb, .refl _ _⟩, ?_, ?_, by simp⟩
  · rcases hb with h | h
    · exact .inl h
    · omega
  · refine ⟨hf.len, hf.basesz, fun b hb => ⟨.inl (hf.base b hb).1, (hf.base b hb).2⟩, fun b hb => ?_, hf.olt, fun b hb ho' => ?_, hf.inj, hf.two, fun i l o hl ho' => ?_⟩
    · rcases hb with h | h
      · exact hf.plt b h
      · rw [h]; simp
    · rcases hb with h | h
      · exact hf.apart b h ho'
      · have := hr.olt b ho'; omega
    · exact RelO.mono (γ := γ) (γ' := γ') hpp (fun _ _ => rfl) (.refl _ _) (fun _ _ => rfl) (hf.objs i l o hl ho')
  · have hcell : ∀ (i : Nat) x (j : Nat) c, xs[i]? = some x → x[j]? = some c → ∃ v, vs[i * esz + j]? = some v ∧ RelC γ.pers w c v := by
      intro i x j c hi hj
      have h1 := rowIdx hz i x j c hi hj
      have hlt : i * esz + j < vs.size := by
        have hj' := lt_of_some hj
        rw [hz x (List.mem_of_getElem? hi)] at hj'
        have hi' := lt_of_some hi
        rw [hv]
        calc i * esz + j < i * esz + esz := by omega
          _ = (i + 1) * esz := by rw [Nat.add_mul]; omega
          _ ≤ xs.length * esz := Nat.mul_le_mul_right _ (by omega)
      exact ⟨_, Array.getElem?_eq_getElem hlt, hrel _ _ _ h1 (Array.getElem?_eq_getElem hlt)⟩
    refine RelV.c _ _ (.sl xs esz ⟨w.heap.size, 0, none⟩ xs.length xs.length (fun i j => vs.getD (i * esz + j) undef) (fun _ => .inr rfl) (fun _ => rfl) rfl (Nat.le_refl _) hm
      (fun i x hi => hz x (List.mem_of_getElem? hi)) (fun i x j c hi hj => ?_) (fun i x j c hi hj => ?_))
    · obtain ⟨v, hv1, _⟩ := hcell i x j c hi hj
      rw [add_mk]
      simp only [Nat.zero_add]
      unfold World.cell?
      simp only [heap_alloc_at]
      simp [hv1]
    · obtain ⟨v, hv1, hv2⟩ := hcell i x j c hi hj
      have : vs.getD (i * esz + j) undef = v := by simp [hv1]
      rw [this]
      exact hv2.mono hpp hpk

theorem s_buildSlice {t e : TypeId} {esz len : Nat} {parts : Array (Nat × Operand)} {xs : List (List C)} (hu : cx.P.underlying t = some (.slice e)) (hs : szOf cx.P e = some esz)
    (hbig : len * esz ≤ 2 ^ 24) (hz : (zvOf cx.P e).isSome = true) (hx : elemsOf f esz 0 parts.toList = some xs) (hlen : xs.length = len) (hm : len ≤ maxLen) :
    OpSound cx (.buildSlice t len parts) f st 0 ⟨.c (.sl xs), none, st⟩ := by
  have key : ∀ o : Oper, o.op = .buildSlice t len parts → ∀ s, OpX cx o f s ⟨.c (.sl xs), none, s⟩ := by
    intro o hop s γ w gb ev h1 _ h3 _
    obtain ⟨vs, hrun, hv, hz', hrel⟩ := buildSlice_rel (hop ▸ h3) hu hs hbig hz hx hlen
    have hrun' : (execOp ev o).run cx.P w = .ok (.value (.slice (some ⟨w.heap.size, 0, none⟩) len len)) (w.alloc (.cells vs e)) := by
      simp only [execOp, hop, Sem.run_bind, Sem.run_pure, hrun, Result.andThen_ok]
    rw [hrun']
    subst hlen
    exact out_pers h1 hv hm hz' hrel
  exact ⟨fun o ho => key o ho st, fun o _ => ⟨by simp, by simp⟩, fun _ o ho s => key o ho s, fun _ => ⟨rfl, rfl⟩, by omega, by omega⟩
end
end Go.L1
