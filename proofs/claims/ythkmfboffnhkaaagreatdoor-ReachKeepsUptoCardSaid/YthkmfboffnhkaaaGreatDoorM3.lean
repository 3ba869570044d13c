/-
  L1, part n: pieces of strings, equality of structs, of functions with nil, the greater of two numbers. Generic in the program.
  L1, part o: arrays of a function's own: made, grown, read. Generic in the program.
  L1, part p: pointers, what strings.Builder does. Generic in the program.
-/
import Derived.Test.YthkmfboffnhkaaaGreatDoorM2
import Derived.Laws.StructEq
import Derived.Lib.SliceRun
import Derived.Laws.OwnMore
import Derived.Laws.BytesString
import Derived.Laws.BytesArg
import Derived.Lib.AppendStr
import Derived.Lib.Builder
import Derived.Lib.UnsafeStr
import Derived.Laws.Externs
set_option linter.all false
namespace Go.L1
open Go

section
variable {cx : Cx} {f : Fenv} {st : List SO}

/-- A bound of a piece. -/
def bndF (f : Fenv) (o : Option Operand) (d : Nat) : Option Nat :=
  match o with
  | none => some d
  | some x => match opnd f x with
    | .c (.int _ n) => if 0 ≤ n then some n.toNat else none
    | _ => none

theorem bndF_spec {γ : Gh} {w : World} {gb : Nat → Nat} {ev : Operand → Value} {xs : Array Operand} (h3 : EvOk γ w gb f ev xs) {o : Option Operand} {d a : Nat}
    (hm : ∀ x, o = some x → x ∈ xs) (h : bndF f o d = some a) : (o = none ∧ a = d) ∨ ∃ x k n, o = some x ∧ ev x = .int k n ∧ 0 ≤ n ∧ a = n.toNat := by
  cases o with
  | none => simp only [bndF, Option.some.injEq] at h; exact .inl ⟨rfl, h.symm⟩
  | some x =>
    simp only [bndF] at h
    split at h
    · next k n hv =>
      split at h
      · next h0 =>
        injection h with h
        exact .inr ⟨x, k, n, rfl, rel_int (opnd_plain h3 (hm x rfl) hv rfl), h0, h.symm⟩
      · cases h
    · cases h

theorem extract_list (s : ByteArray) (a b : Nat) : (s.extract a b).data.toList = (s.data.toList.take b).drop a := by
  simp [ByteArray.data_extract, Array.toList_extract]
  rw [List.drop_take]

theorem s_sliceStr {t : TypeId} {x : Operand} {lo hi : Option Operand} {l : List UInt8} {a b : Nat} (hx : opnd f x = .c (.str l)) (ht : isStr cx.P t = true)
    (ha : bndF f lo 0 = some a) (hb : bndF f hi l.length = some b) (hab : a ≤ b) (hbl : b ≤ l.length) :
    OpSound cx (.slice t x lo hi none) f st 0 ⟨.c (.str ((l.take b).drop a)), none, st⟩ :=
  sound_plain rfl fun oo hop st γ w gb ev _ _ h3 _ => by
    obtain ⟨s, h1, rfl, hs⟩ := rel_str (opnd_plain (x := x) h3 (by simp [Op.operands]) hx rfl)
    have hsz : s.data.toList.length = s.size := by simp
    rw [hsz] at hb hbl
    refine ⟨.string (s.extract a b), ?_, ?_⟩
    · have hu := isStr_spec ht
      rcases bndF_spec h3 (fun y hy => by simp [Op.operands, hy]) ha with ⟨rfl, rfl⟩ | ⟨y, k, n, rfl, hy, h0, rfl⟩ <;>
      rcases bndF_spec h3 (fun y hy => by simp [Op.operands, hy]) hb with ⟨rfl, rfl⟩ | ⟨z, k', n', rfl, hz, h0', rfl⟩
      · simp [execOp, hop, h1, Instr.sliceAt, run_underlying hu, Instr.slice, Instr.sliceBounds]
      · have e1 : n' ≤ s.size := by omega
        simp [execOp, hop, h1, Instr.sliceAt, run_underlying hu, Instr.slice, Instr.sliceBounds, hz, Instr.sliceBound, asIntOf, h0', e1]
      · have e1 : n ≤ s.size := by omega
        simp [execOp, hop, h1, Instr.sliceAt, run_underlying hu, Instr.slice, Instr.sliceBounds, hy, Instr.sliceBound, asIntOf, h0, e1]
      · have e1 : n' ≤ s.size := by omega
        simp [execOp, hop, h1, Instr.sliceAt, run_underlying hu, Instr.slice, Instr.sliceBounds, hy, hz, Instr.sliceBound, asIntOf, h0, h0', e1]
        intro h; omega
    · rw [← extract_list]
      exact .c _ _ (.str _ (by simp [ByteArray.size_extract]; omega))

theorem s_sliceSl {t : TypeId} {x : Operand} {lo hi : Option Operand} {xs : List (List C)} {esz a b : Nat} (hx : opnd f x = .c (.sl xs)) (he : elS cx.P t = some esz)
    (hz : ∀ y ∈ xs, y.length = esz) (hlo : bndF f lo 0 = some a) (hhi : bndF f hi xs.length = some b) (hab : a ≤ b) (hbl : b ≤ xs.length) :
    OpSound cx (.slice t x lo hi none) f st 0 ⟨.c (.sl ((xs.take b).drop a)), none, st⟩ :=
  sound_plain rfl fun oo hop st γ w gb ev _ _ h3 _ => by
    have h := opnd_plain (x := x) h3 (by simp [Op.operands]) hx rfl
    unfold elS at he
    split at he
    case h_2 => cases he
    next e hu =>
    have k1 := bndF_spec h3 (fun y hy => by simp [Op.operands, hy]) hlo
    have k2 := bndF_spec h3 (fun y hy => by simp [Op.operands, hy]) hhi
    rcases rel_sl h with ⟨rfl, hx'⟩ | ⟨esz', ad, len, cap, fn, hx', hp, hs, hl, hc, hm, hz', hcell, hr⟩
    · simp at hbl
      subst hbl
      have ha0 : a = 0 := by omega
      subst ha0
      refine ⟨.slice none 0 0, ?_, .c _ _ .nilsl⟩
      rcases k1 with ⟨rfl, _⟩ | ⟨o1, q1, n1, rfl, hv1, h01, e1⟩ <;> rcases k2 with ⟨rfl, _⟩ | ⟨o2, q2, n2, rfl, hv2, h02, e2⟩
      · simp [execOp, hop, hx', Instr.sliceAt, Instr.slice, underlying, hu, Instr.sliceBounds, run_sizeOf' he]
      · have e3 : n2 = 0 := by omega
        simp [execOp, hop, hx', Instr.sliceAt, Instr.slice, underlying, hu, Instr.sliceBounds, Instr.sliceBound, asIntOf, hv2, e3, run_sizeOf' he]
      · have e3 : n1 = 0 := by omega
        simp [execOp, hop, hx', Instr.sliceAt, Instr.slice, underlying, hu, Instr.sliceBounds, Instr.sliceBound, asIntOf, hv1, e3, run_sizeOf' he]
      · have e3 : n1 = 0 := by omega
        have e4 : n2 = 0 := by omega
        simp [execOp, hop, hx', Instr.sliceAt, Instr.slice, underlying, hu, Instr.sliceBounds, Instr.sliceBound, asIntOf, hv1, hv2, e3, e4, run_sizeOf' he]
    · subst hl
      refine ⟨.slice (some (if cap = a then ad else ad.add (a * esz))) (b - a) (cap - a), ?_, ?_⟩
      · rcases k1 with ⟨rfl, rfl⟩ | ⟨o1, q1, n1, rfl, hv1, h01, rfl⟩ <;> rcases k2 with ⟨rfl, rfl⟩ | ⟨o2, q2, n2, rfl, hv2, h02, rfl⟩
        · by_cases hca : cap = 0 <;> simp [execOp, hop, hx', Instr.sliceAt, Instr.slice, underlying, hu, Instr.sliceBounds, run_sizeOf' he, hca]
        · have e2 : n2 ≤ cap := by omega
          by_cases hca : cap = 0 <;> simp [execOp, hop, hx', Instr.sliceAt, Instr.slice, underlying, hu, Instr.sliceBounds, Instr.sliceBound, asIntOf, hv2, h02, e2, run_sizeOf' he, hca]
          all_goals (try omega)
        · have e1 : n1 ≤ xs.length := by omega
          by_cases hca : cap = n1.toNat <;> simp [execOp, hop, hx', Instr.sliceAt, Instr.slice, underlying, hu, Instr.sliceBounds, Instr.sliceBound, asIntOf, hv1, h01, e1, run_sizeOf' he, hca]
        · have e2 : n2 ≤ cap := by omega
          have e1 : n1 ≤ n2.toNat := by omega
          have e3 : n1 ≤ n2 := by omega
          by_cases hca : cap = n1.toNat
          · have e4 : n2 ≤ max n1 0 := by omega
            simp [execOp, hop, hx', Instr.sliceAt, Instr.slice, underlying, hu, Instr.sliceBounds, Instr.sliceBound, asIntOf, hv1, hv2, h01, h02, e1, e2, e3, e4, run_sizeOf' he, hca]
            try omega
          · simp [execOp, hop, hx', Instr.sliceAt, Instr.slice, underlying, hu, Instr.sliceBounds, Instr.sliceBound, asIntOf, hv1, hv2, h01, h02, e1, e2, e3, run_sizeOf' he, hca]
            try omega
      · have hget : ∀ (i : Nat) y, ((xs.take b).drop a)[i]? = some y → xs[a + i]? = some y := by
          intro i y hi
          rw [List.getElem?_drop] at hi
          have h1 := lt_of_some hi
          simp at h1
          rwa [List.getElem?_take_of_lt (by omega)] at hi
        by_cases hca : cap = a
        · have hnil : (xs.take b).drop a = [] := by
            apply List.eq_nil_of_length_eq_zero
            simp; omega
          rw [hnil, if_pos hca]
          exact .c _ _ (.sl [] esz ad (b - a) (cap - a) fn (fun h => absurd rfl h) (fun h => absurd rfl h) (by simp; omega) (by omega) (by omega) (fun i y hi => by simp at hi) (fun i y j c hi => by simp at hi) (fun i y j c hi => by simp at hi))
        · rw [if_neg hca]
          have hnn : (xs.take b).drop a ≠ [] → xs ≠ [] := fun h1 h2 => h1 (by rw [h2]; simp)
          have hee : ∀ (i : Nat) y, xs[i]? = some y → esz' = esz := fun i y hi => by rw [← hz' i y hi]; exact hz y (List.mem_of_getElem? hi)
          refine .c _ _ (.sl _ esz (ad.add (a * esz)) (b - a) (cap - a) (fun i j => fn (a + i) j) (fun h => by rw [block_add]; exact hp (hnn h)) (fun h => spot_add _ _ (hs (hnn h))) (by simp; omega) (by omega) (by omega)
            (fun i y hi => hz y (List.mem_of_getElem? (hget i y hi))) (fun i y j c hi hj => ?_) (fun i y j c hi hj => hr _ y j c (hget i y hi) hj))
          have h1 := hget i y hi
          have h2 := hcell _ y j c h1 hj
          rw [hee _ y h1] at h2
          rw [add_add, show a * esz + (i * esz + j) = (a + i) * esz + j by rw [Nat.add_mul]; omega]
          exact h2

/-- A piece with its capacity. -/
theorem s_slice3 {t : TypeId} {x mv o2 : Operand} {xs : List (List C)} {esz b m : Nat} (hx : opnd f x = .c (.sl xs)) (he : elS cx.P t = some esz)
    (hz : ∀ y ∈ xs, y.length = esz) (hhi : bndF f (some o2) 0 = some b) (hmx : bndF f (some mv) 0 = some m) (hab : b ≤ m) (hbl : m ≤ xs.length) :
    OpSound cx (.slice t x none (some o2) (some mv)) f st 0 ⟨.c (.sl (xs.take b)), none, st⟩ :=
  sound_plain rfl fun oo hop st γ w gb ev _ _ h3 _ => by
    have h := opnd_plain (x := x) h3 (by simp [Op.operands]) hx rfl
    unfold elS at he
    split at he
    case h_2 => cases he
    next e hu =>
    have k1 := bndF_spec h3 (fun y hy => by cases hy; simp [Op.operands]) hmx
    have k2 := bndF_spec h3 (fun y hy => by cases hy; simp [Op.operands]) hhi
    rcases k1 with ⟨hq, _⟩ | ⟨o1, q1, n1, hq1, hv1, h01, e1⟩
    · cases hq
    rcases k2 with ⟨hq, _⟩ | ⟨o3, q2, n2, hq2, hv2, h02, e2⟩
    · cases hq
    cases hq1
    cases hq2
    rcases rel_sl h with ⟨rfl, hx'⟩ | ⟨esz', ad, len, cap, fn, hx', hp, hs, hl, hc, hm, hz', hcell, hr⟩
    · simp at hbl
      have e3 : n1 = 0 := by omega
      have e4 : n2 = 0 := by omega
      refine ⟨.slice none 0 0, ?_, ?_⟩
      · simp [execOp, hop, hx', Instr.sliceAt, Instr.slice, underlying, hu, Instr.sliceBounds, Instr.sliceBound, asIntOf, hv1, hv2, e3, e4, run_sizeOf' he]
      · rw [List.take_nil]; exact .c _ _ .nilsl
    · subst hl
      have l1 : n1 ≤ cap := by omega
      have l2 : n2 ≤ n1.toNat := by omega
      have l3 : n2 ≤ n1 := by omega
      refine ⟨.slice (some (if m = 0 then ad else ad.add 0)) b m, ?_, ?_⟩
      · by_cases hm0 : m = 0
        · have e3 : n1 = 0 := by omega
          have e4 : n2 = 0 := by omega
          have e5 : b = 0 := by omega
          simp [execOp, hop, hx', Instr.sliceAt, Instr.slice, underlying, hu, Instr.sliceBounds, Instr.sliceBound, asIntOf, hv1, hv2, e3, e4, e5, run_sizeOf' he, hm0]
        · have e5 : ¬ n1 ≤ 0 := by omega
          have e6 : n1.toNat = m := e1.symm
          have e7 : n2.toNat = b := e2.symm
          simp [execOp, hop, hx', Instr.sliceAt, Instr.slice, underlying, hu, Instr.sliceBounds, Instr.sliceBound, asIntOf, hv1, hv2, h01, h02, l1, l2, l3, e5, e6, e7, run_sizeOf' he, hm0]
          try omega
      · have hget : ∀ (i : Nat) y, (xs.take b)[i]? = some y → xs[i]? = some y := by
          intro i y hi
          have h1 := lt_of_some hi
          simp at h1
          rwa [List.getElem?_take_of_lt (by omega)] at hi
        have hnn : xs.take b ≠ [] → xs ≠ [] := fun h1 h2 => h1 (by rw [h2]; simp)
        have hee : ∀ (i : Nat) y, xs[i]? = some y → esz' = esz := fun i y hi => by rw [← hz' i y hi]; exact hz y (List.mem_of_getElem? hi)
        by_cases hm0 : m = 0
        · have hb0 : b = 0 := by omega
          rw [if_pos hm0, hb0]
          exact .c _ _ (.sl [] esz ad 0 m fn (fun h => absurd rfl h) (fun h => absurd rfl h) rfl (by omega) (by omega) (fun i y hi => by simp at hi) (fun i y j c hi => by simp at hi) (fun i y j c hi => by simp at hi))
        · rw [if_neg hm0]
          refine .c _ _ (.sl _ esz (ad.add 0) b m fn (fun h => by rw [block_add]; exact hp (hnn h)) (fun h => spot_add _ _ (hs (hnn h))) (by simp; omega) (by omega) (by omega)
            (fun i y hi => hz y (List.mem_of_getElem? (hget i y hi))) (fun i y j c hi hj => ?_) (fun i y j c hi hj => hr _ y j c (hget i y hi) hj))
          have h1 := hget i y hi
          have h2 := hcell _ y j c h1 hj
          rw [hee _ y h1] at h2
          rw [add_add, Nat.zero_add]
          exact h2

/-! ### Equality of structs of numbers, strings and booleans -/
inductive ET where
  | b
  | i
  | s
  | st (fs : List (Nat × Nat × ET))

/-- How values of a type are compared. -/
def etOf (P : Program) : Nat → TypeId → Option ET
  | 0, _ => none
  | n + 1, t => match P.underlying t with
    | some .bool => some .b
    | some (.int _) => some .i
    | some .string => some .s
    | some (.struct fs) => if P.stoodInHeld t then none else
        (fs.toList.mapM fun f => if f.name = "_" then none else match szOf P f.type, agOf P f.type, etOf P n f.type with
          | some sz, some ag, some T => match ag, T with
            | true, .st _ => some (f.offset, sz, T)
            | false, .b | false, .i | false, .s => some (f.offset, sz, T)
            | _, _ => none
          | _, _, _ => none).map .st
    | _ => none

mutual
def eqE : ET → V → V → Option Bool
  | .b, .c (.bool x), .c (.bool y) => some (x == y)
  | .i, .c (.int k x), .c (.int k' y) => if k = k' then some (x == y) else none
  | .s, .c (.str x), .c (.str y) => some (x == y)
  | .st fs, .agg xs, .agg ys => eqFs fs xs ys
  | _, _, _ => none
def eqFs : List (Nat × Nat × ET) → List V → List V → Option Bool
  | [], _, _ => some true
  | (off, sz, T) :: r, xs, ys => match (partV off sz T xs).bind fun x => (partV off sz T ys).bind fun y => eqE T x y, eqFs r xs ys with
    | some a, some b => some (a && b)
    | _, _ => none
def partV (off sz : Nat) (T : ET) (xs : List V) : Option V :=
  match T with
  | .st _ => if off + sz ≤ xs.length then some (.agg ((xs.drop off).take sz)) else none
  | _ => xs[off]?
end

def agOk : Bool → ET → Prop
  | true, .st _ => True
  | false, .b | false, .i | false, .s => True
  | _, _ => False
theorem partV_load {P : Program} {t : TypeId} {off sz : Nat} {T : ET} {xs : List V} {v : V} {ag : Bool} (hs : szOf P t = some sz) (ha : agOf P t = some ag)
    (hT : agOk ag T) (h : partV off sz T xs = some v) : loadAbs P t xs off = some v := by
  unfold loadAbs
  rw [ha]
  cases ag <;> cases T <;> simp_all [partV, agOk]

theorem eqE_run {P : Program} : ∀ (n : Nat) (t : TypeId) (T : ET), etOf P n t = some T → ∀ (d : Nat), n ≤ d → ∀ (x y : V) (vx vy : Value) (r : Bool) (γ : Gh) (w : World),
    RelV γ w x vx → RelV γ w y vy → eqE T x y = some r → (Op.equalIn d t vx vy).run P w = .ok r w
  | 0, _, _, h => by simp [etOf] at h
  | n + 1, t, T, h => by
    intro d hd x y vx vy r γ w hx hy hr
    obtain ⟨d, rfl⟩ : ∃ d', d = d' + 1 := ⟨d - 1, by omega⟩
    simp only [etOf] at h
    split at h
    · next hu =>
      injection h with h
      subst h
      unfold eqE at hr
      split at hr <;> first | (cases hr; done) | skip
      all_goals try (exfalso; simp_all; done)
      injection hr with hr
      subst hr
      rw [rel_bool hx, rel_bool hy]
      exact run_equalIn_bool' w d t _ _ hu
    · next k0 hu =>
      injection h with h
      subst h
      unfold eqE at hr
      split at hr <;> first | (cases hr; done) | skip
      all_goals try (exfalso; simp_all; done)
      split at hr
      · next hk =>
        subst hk
        injection hr with hr
        subst hr
        rw [rel_int hx, rel_int hy]
        exact run_equalIn_int w d t _ k0 _ _ hu
      · cases hr
    · next hu =>
      injection h with h
      subst h
      unfold eqE at hr
      split at hr <;> first | (cases hr; done) | skip
      all_goals try (exfalso; simp_all; done)
      injection hr with hr
      subst hr
      obtain ⟨a, rfl, rfl, _⟩ := rel_str hx
      obtain ⟨b, rfl, rfl, _⟩ := rel_str hy
      rw [run_equalIn_string w d t a b hu, ByteArray.toList_eq, ByteArray.toList_eq]
    · next fs hu =>
      split at h
      · cases h
      · next hst =>
        simp only [Option.map_eq_some_iff] at h
        obtain ⟨l, hl, rfl⟩ := h
        unfold eqE at hr
        split at hr <;> first | (cases hr; done) | skip
        all_goals try (exfalso; simp_all; done)
        next fs' xs ys he =>
        injection he with he
        subst he
        obtain ⟨vs, rfl, hvl, hvr⟩ := rel_agg hx
        obtain ⟨us, rfl, hul, hur⟩ := rel_agg hy
        have hf : P.fieldsOf t = fs := by unfold Program.fieldsOf; rw [hu]
        rw [run_equalIn_struct w d t vs us (by rw [hf]; exact hu) (by simpa using hst), hf]
        clear hx hy hu hf hst
        generalize fs.toList = fl at hl
        induction fl generalizing l r with
        | nil =>
          simp only [List.mapM_nil] at hl
          injection hl with hl
          subst hl
          simp only [eqFs, Option.some.injEq] at hr
          subst hr
          simp [Op.eqFields]
        | cons fd fl ih =>
          rw [List.mapM_cons] at hl
          simp only [Option.bind_eq_bind, Option.bind_eq_some_iff, Option.pure_def, Option.some.injEq] at hl
          obtain ⟨p, hp, l', hl', rfl⟩ := hl
          obtain ⟨off, sz, T⟩ := p
          split at hp
          · cases hp
          next hnm =>
          split at hp
          case h_2 => cases hp
          next sz' ag T' h1 h2 h3 =>
          have hTag : agOk ag T' ∧ fd.offset = off ∧ sz' = sz ∧ T' = T := by
            cases ag <;> cases T' <;> dsimp only at hp <;> first
              | (cases hp; done)
              | (injection hp with hp; injection hp with e1 hp; injection hp with e2 e3; exact ⟨trivial, e1, e2, e3⟩)
          obtain ⟨hTag, rfl, rfl, rfl⟩ := hTag
          simp only [eqFs] at hr
          split at hr
          case h_2 => cases hr
          next a b ha hb =>
          injection hr with hr
          subst hr
          simp only [Option.bind_eq_some_iff] at ha
          obtain ⟨u, hu1, v, hv1, hab⟩ := ha
          obtain ⟨y1, hy1, hr1⟩ := part_row hvl hvr (partV_load h1 h2 hTag hu1)
          obtain ⟨y2, hy2, hr2⟩ := part_row hul hur (partV_load h1 h2 hTag hv1)
          have heq := eqE_run n fd.type T' h3 d (by omega) u v y1 y2 a γ w hr1 hr2 hab
          have hrest := ih b l' hb hl'
          simp only [Op.eqFields]
          rw [if_pos (by simpa using hnm)]
          simp only [Sem.run_bind, hy1, hy2, Result.andThen_ok, heq, Sem.run_ite, Sem.run_pure]
          cases a with
          | false => simp
          | true => simpa using hrest
    · cases h

/-- A type of struct whose values may be compared. -/
def eqTy (P : Program) (t : TypeId) : Option ET := if P.eqGuardType P.depth t then none else match etOf P 6 t with
  | some (.st fs) => some (.st fs)
  | _ => none

theorem eqTy_spec {P : Program} {t : TypeId} {T : ET} (h : eqTy P t = some T) : P.eqGuardType P.depth t = false ∧ etOf P 6 t = some T := by
  unfold eqTy at h
  split at h
  · cases h
  · next hg =>
    split at h
    · next fs he => injection h with h; subst h; exact ⟨by simpa using hg, he⟩
    · cases h

theorem s_eqSt {t t' : TypeId} {x y : Operand} {xs ys : List V} {T : ET} {r : Bool} (hx : opnd f x = .agg xs) (hy : opnd f y = .agg ys) (ht : eqTy cx.P t = some T)
    (h : eqE T (.agg xs) (.agg ys) = some r) : OpSound cx (.binOp .eql t x y t') f st 0 ⟨.c (.bool r), none, st⟩ :=
  sound_plain rfl fun oo hop st γ w gb ev _ _ h3 _ => by
    have h1 := opnd_plain (x := x) h3 (by simp [Op.operands]) hx rfl
    have h2 := opnd_plain (x := y) h3 (by simp [Op.operands]) hy rfl
    obtain ⟨hg, he⟩ := eqTy_spec ht
    have hrun := eqE_run 6 t T he 10000 (by omega) _ _ _ _ _ γ w h1 h2 h
    obtain ⟨vs, e1, _⟩ := rel_agg h1
    obtain ⟨us, e2, _⟩ := rel_agg h2
    rw [e1, e2] at hrun
    refine ⟨.bool r, ?_, .c _ _ (.bool _)⟩
    simp only [execOp, hop, e1, e2, Sem.run_bind, run_eqGuard_agg w .eql t x y vs us hg, Result.andThen_ok, run_eql_struct, hrun, Sem.run_pure]
theorem s_neqSt {t t' : TypeId} {x y : Operand} {xs ys : List V} {T : ET} {r : Bool} (hx : opnd f x = .agg xs) (hy : opnd f y = .agg ys) (ht : eqTy cx.P t = some T)
    (h : eqE T (.agg xs) (.agg ys) = some r) : OpSound cx (.binOp .neq t x y t') f st 0 ⟨.c (.bool (!r)), none, st⟩ :=
  sound_plain rfl fun oo hop st γ w gb ev _ _ h3 _ => by
    have h1 := opnd_plain (x := x) h3 (by simp [Op.operands]) hx rfl
    have h2 := opnd_plain (x := y) h3 (by simp [Op.operands]) hy rfl
    obtain ⟨hg, he⟩ := eqTy_spec ht
    have hrun := eqE_run 6 t T he 10000 (by omega) _ _ _ _ _ γ w h1 h2 h
    obtain ⟨vs, e1, _⟩ := rel_agg h1
    obtain ⟨us, e2, _⟩ := rel_agg h2
    rw [e1, e2] at hrun
    refine ⟨.bool (!r), ?_, .c _ _ (.bool _)⟩
    simp only [execOp, hop, e1, e2, Sem.run_bind, run_eqGuard_agg w .neq t x y vs us hg, Result.andThen_ok, run_neq_struct, hrun, Sem.run_pure]

/-! ### Functions and nil -/
def isFn (P : Program) (t : TypeId) : Bool := match P.underlying t with
  | some (.func _ _ _) => true
  | _ => false
def nilFnV : V → Option Bool
  | .c .nilfn => some true
  | .c (.fn _) => some false
  | .clo _ _ => some false
  | _ => none
theorem nilFnV_eq {P : Program} {γ : Gh} {w : World} {v : V} {x : Value} {b : Bool} {t : TypeId} (ht : isFn P t = true) (h : nilFnV v = some b) (hx : RelV γ w v x) (d : Nat) :
    (Op.equalIn (d + 1) t x .nilFunc).run P w = .ok b w := by
  unfold isFn at ht
  split at ht
  case h_2 => cases ht
  next a b c hu =>
  unfold nilFnV at h
  split at h
  · injection h with h; subst h
    cases hx with | c _ _ h => cases h; simp [Op.equalIn, run_underlying hu]
  · injection h with h; subst h
    cases hx with | c _ _ h => cases h; simp [Op.equalIn, run_underlying hu]
  · injection h with h; subst h
    cases hx; simp [Op.equalIn, run_underlying hu]
  · cases h
theorem nilFnV_spec {P : Program} {γ : Gh} {w : World} {v : V} {x : Value} {b : Bool} {t : TypeId} (ht : isFn P t = true) (h : nilFnV v = some b) (hx : RelV γ w v x) :
    (Op.equal t x .nilFunc).run P w = .ok b w ∧ ((∀ vs, x ≠ .agg vs) ∧ x ≠ .nilIface) ∧ (binOp .eql t x .nilFunc = do return .bool (← Op.equal t x .nilFunc)) ∧ (binOp .neq t x .nilFunc = do return .bool (!(← Op.equal t x .nilFunc))) := by
  refine ⟨nilFnV_eq ht h hx 9999, ?_⟩
  unfold nilFnV at h
  split at h
  · cases hx with | c _ _ h => cases h; exact ⟨by simp, rfl, rfl⟩
  · cases hx with | c _ _ h => cases h; exact ⟨by simp, rfl, rfl⟩
  · cases hx; exact ⟨by simp, rfl, rfl⟩
  · cases h

theorem s_eqNilFn {t t' : TypeId} {x y : Operand} {v : V} {b : Bool} (hx : opnd f x = v) (hp : plainV v = true) (hy : opnd f y = .c .nilfn) (ht : isFn cx.P t = true) (hb : nilFnV v = some b) :
    OpSound cx (.binOp .eql t x y t') f st 0 ⟨.c (.bool b), none, st⟩ :=
  sound_plain rfl fun oo hop st γ w gb ev _ _ h3 _ => by
    have h1 := opnd_plain (x := x) h3 (by simp [Op.operands]) hx hp
    have h2 : ev y = .nilFunc := by
      have h2 := opnd_plain (x := y) h3 (by simp [Op.operands]) hy rfl
      generalize ev y = z at h2
      cases h2 with | c _ _ h => cases h; rfl
    obtain ⟨k1, k2, k3, k4⟩ := nilFnV_spec (P := cx.P) ht hb h1
    refine ⟨.bool b, ?_, .c _ _ (.bool _)⟩
    have hg := eqGuard_none (P := cx.P) (w := w) (op := .eql) (t := t) (xo := x) (yo := y) (x := ev x) (y := ev y) k2
    rw [h2] at hg
    simp only [execOp, hop, Sem.run_bind, hg, h2, k3, Result.andThen_ok, k1, Sem.run_pure]
theorem s_neqNilFn {t t' : TypeId} {x y : Operand} {v : V} {b : Bool} (hx : opnd f x = v) (hp : plainV v = true) (hy : opnd f y = .c .nilfn) (ht : isFn cx.P t = true) (hb : nilFnV v = some b) :
    OpSound cx (.binOp .neq t x y t') f st 0 ⟨.c (.bool (!b)), none, st⟩ :=
  sound_plain rfl fun oo hop st γ w gb ev _ _ h3 _ => by
    have h1 := opnd_plain (x := x) h3 (by simp [Op.operands]) hx hp
    have h2 : ev y = .nilFunc := by
      have h2 := opnd_plain (x := y) h3 (by simp [Op.operands]) hy rfl
      generalize ev y = z at h2
      cases h2 with | c _ _ h => cases h; rfl
    obtain ⟨k1, k2, k3, k4⟩ := nilFnV_spec (P := cx.P) ht hb h1
    refine ⟨.bool (!b), ?_, .c _ _ (.bool _)⟩
    have hg := eqGuard_none (P := cx.P) (w := w) (op := .neq) (t := t) (xo := x) (yo := y) (x := ev x) (y := ev y) k2
    rw [h2] at hg
    simp only [execOp, hop, Sem.run_bind, hg, h2, k4, Result.andThen_ok, k1, Sem.run_pure]

/-! ### Slices and nil -/
def isNilC : Operand → Bool
  | .const (.slice none 0 0) => true
  | _ => false
theorem isNilC_spec {x : Operand} (h : isNilC x = true) : x = .const (.slice none 0 0) := by
  unfold isNilC at h
  split at h
  · rfl
  · cases h
/-- Is a slice nil? One without elements may be. -/
def nilSlV (eq : Bool) : V → Option V
  | .c (.sl []) => some .anyb
  | .c (.sl (_ :: _)) => some (.c (.bool (!eq)))
  | _ => none
theorem nilSlV_spec {P : Program} {γ : Gh} {w : World} {v r : V} {x : Value} {eq : Bool} {t : TypeId} (ht : isSl P t = true) (h : nilSlV eq v = some r) (hx : RelV γ w v x) :
    plainV r = true ∧ (∃ a n c, x = .slice a n c ∧ RelV γ w r (.bool (a.isNone == eq))) := by
  unfold nilSlV at h
  split at h
  · injection h with h; subst h
    refine ⟨rfl, ?_⟩
    cases hx with
    | c _ _ h => cases h with
      | nilsl => exact ⟨_, _, _, rfl, .anyb _⟩
      | sl xs esz a len cap f => exact ⟨_, _, _, rfl, .anyb _⟩
  · injection h with h; subst h
    refine ⟨rfl, ?_⟩
    cases hx with
    | c _ _ h => cases h with
      | sl xs esz a len cap f => exact ⟨_, _, _, rfl, by cases eq <;> exact .c _ _ (.bool _)⟩
  · cases h
theorem s_eqNilSl {t t' : TypeId} {x y : Operand} {v r : V} (hx : opnd f x = v) (hp : plainV v = true) (hy : isNilC y = true) (ht : isSl cx.P t = true) (hb : nilSlV true v = some r) :
    OpSound cx (.binOp .eql t x y t') f st 0 ⟨r, none, st⟩ := by
  have hrp : plainV r = true := by
    unfold nilSlV at hb
    split at hb <;> first | (injection hb with hb; subst hb; rfl) | cases hb
  refine sound_plain hrp fun oo hop st γ w gb ev _ _ h3 _ => ?_
  have h1 := opnd_plain (x := x) h3 (by simp [Op.operands]) hx hp
  have h2 : ev y = .slice none 0 0 := by
    have h2 := h3 y (by simp [Op.operands])
    rw [isNilC_spec hy] at h2 ⊢
    exact h2
  obtain ⟨_, a, n, c, hxv, hr⟩ := nilSlV_spec (P := cx.P) ht hb h1
  obtain ⟨el, hel⟩ := isSl_spec ht
  refine ⟨_, ?_, hr⟩
  have hg := eqGuard_none (P := cx.P) (w := w) (op := .eql) (t := t) (xo := x) (yo := y) (x := ev x) (y := ev y) (by rw [hxv]; simp)
  rw [h2, hxv] at hg
  simp only [execOp, hop, Sem.run_bind, hg, h2, hxv, Result.andThen_ok, Lib.run_eql_slice_nil w t el a n c 0 0 hel, Sem.run_pure, beq_true]
theorem s_neqNilSl {t t' : TypeId} {x y : Operand} {v r : V} (hx : opnd f x = v) (hp : plainV v = true) (hy : isNilC y = true) (ht : isSl cx.P t = true) (hb : nilSlV false v = some r) :
    OpSound cx (.binOp .neq t x y t') f st 0 ⟨r, none, st⟩ := by
  have hrp : plainV r = true := by
    unfold nilSlV at hb
    split at hb <;> first | (injection hb with hb; subst hb; rfl) | cases hb
  refine sound_plain hrp fun oo hop st γ w gb ev _ _ h3 _ => ?_
  have h1 := opnd_plain (x := x) h3 (by simp [Op.operands]) hx hp
  have h2 : ev y = .slice none 0 0 := by
    have h2 := h3 y (by simp [Op.operands])
    rw [isNilC_spec hy] at h2 ⊢
    exact h2
  obtain ⟨_, a, n, c, hxv, hr⟩ := nilSlV_spec (P := cx.P) ht hb h1
  obtain ⟨el, hel⟩ := isSl_spec ht
  refine ⟨_, ?_, hr⟩
  have hg := eqGuard_none (P := cx.P) (w := w) (op := .neq) (t := t) (xo := x) (yo := y) (x := ev x) (y := ev y) (by rw [hxv]; simp)
  rw [h2, hxv] at hg
  have hq : (binOp .neq t (.slice a n c) (.slice none 0 0)).run cx.P w = .ok (.bool (!a.isNone)) w := by
    simp only [binOp]
    simp [Op.equal, Op.maxDepth, Lib.run_equalIn_slice_nil w 9999 t el a n c 0 0 hel]
  simp only [execOp, hop, Sem.run_bind, hg, h2, hxv, Result.andThen_ok, hq, Sem.run_pure, beq_false]

/-! ### The greater of two numbers -/
theorem s_max {x y : Operand} {ts : Array TypeId} {k k' : IntKind} {a b : Int} (hx : opnd f x = .c (.int k a)) (hy : opnd f y = .c (.int k' b)) :
    OpSound cx (.call { callee := .builtin .max, args := #[x, y], argTypes := ts }) f st 0 ⟨.c (.int k (if b > a then b else a)), none, st⟩ :=
  sound_plain rfl fun oo hop st γ w gb ev _ _ h3 _ => by
    have h1 := rel_int (opnd_plain (x := x) h3 (by simp [Op.operands, Call.operands]) hx rfl)
    have h2 := rel_int (opnd_plain (x := y) h3 (by simp [Op.operands, Call.operands]) hy rfl)
    exact ⟨.int k (if b > a then b else a), by simp [execOp, hop, resolve, invoke, builtin, Builtin.max_, Builtin.max2, h1, h2], .c _ _ (.int _ _)⟩
theorem s_min {x y : Operand} {ts : Array TypeId} {k k' : IntKind} {a b : Int} (hx : opnd f x = .c (.int k a)) (hy : opnd f y = .c (.int k' b)) :
    OpSound cx (.call { callee := .builtin .min, args := #[x, y], argTypes := ts }) f st 0 ⟨.c (.int k (if b < a then b else a)), none, st⟩ :=
  sound_plain rfl fun oo hop st γ w gb ev _ _ h3 _ => by
    have h1 := rel_int (opnd_plain (x := x) h3 (by simp [Op.operands, Call.operands]) hx rfl)
    have h2 := rel_int (opnd_plain (x := y) h3 (by simp [Op.operands, Call.operands]) hy rfl)
    exact ⟨.int k (if b < a then b else a), by simp [execOp, hop, resolve, invoke, builtin, Builtin.min_, Builtin.min2, h1, h2], .c _ _ (.int _ _)⟩
end
end Go.L1
namespace Go.L1
open Go

/-- The element's type of a slice type, its cells and bytes. -/
def ownTy (P : Program) (t : TypeId) : Option (TypeId × Nat × Nat) := match P.underlying t with
  | some (.slice e) => match P.info? e with
    | some i => match i.zero with
      | some z => if z.cells.size = i.size ∧ 0 < i.size then some (e, i.size, i.bytes) else none
      | none => none
    | none => none
  | _ => none
theorem ownTy_spec {P : Program} {t e : TypeId} {esz byt : Nat} (h : ownTy P t = some (e, esz, byt)) :
    ∃ i z, P.underlying t = some (.slice e) ∧ P.info? e = some i ∧ i.zero = some z ∧ i.size = esz ∧ i.bytes = byt ∧ z.cells.size = esz ∧ 0 < esz := by
  unfold ownTy at h
  split at h
  case h_2 => cases h
  next e' hu =>
  split at h
  case h_2 => cases h
  next i hi =>
  split at h
  case h_2 => cases h
  next z hz =>
  split at h
  case isFalse => cases h
  next hc =>
  injection h with h
  injection h with h1 h
  injection h with h2 h3
  subst h1 h2 h3
  exact ⟨i, z, hu, hi, hz, rfl, rfl, hc.1, hc.2⟩

theorem ownBlock_blkOf {v : Value} (h : ∃ a n c, v = .slice a n c) : v.ownBlock = blkOf v := by
  obtain ⟨a, n, c, rfl⟩ := h
  cases a <;> rfl
theorem ownsRow_slice {w : World} {base : Nat} {e : TypeId} {size n : Nat} {v : Value} {xs : List Value} (h : w.ownsRow base e size v n xs) : ∃ a n c, v = .slice a n c := by
  rcases h.2 with ⟨rfl, _⟩ | ⟨g, cap, cur, rfl, _⟩
  · exact ⟨_, _, _, rfl⟩
  · exact ⟨_, _, _, rfl⟩

/-- One store object moved or rewritten within its own block, or into a new one. -/
theorem regrow {γ : Gh} {st : List SO} {w w' : World} {id : Nat} {l : Loc} {v' : Value} {o' : SO} (h : RelW γ st w) (hl : γ.locs[id]? = some l) (h2 : l.blk2 = none) (hfix : l.fix = false)
    (hfix' : (⟨v', none, l.epoch + 1⟩ : Loc).fix = false) (hg : w.grownBy w' (blkOf l.hdr)) (hlt : ∀ b, blkOf v' = some b → b < w'.heap.size)
    (hat : blkOf v' = none ∨ blkOf v' = blkOf l.hdr ∨ blkOf v' = some w.heap.size)
    (ho : RelO { γ with locs := γ.locs.set id ⟨v', none, l.epoch + 1⟩ } w' ⟨v', none, l.epoch + 1⟩ o') :
    RelW { γ with locs := γ.locs.set id ⟨v', none, l.epoch + 1⟩ } (st.set id o') w' ∧ EvoX none γ w { γ with locs := γ.locs.set id ⟨v', none, l.epoch + 1⟩ } w' := by
  have hid := lt_of_some hl
  have hblk : ∀ b, b ∈ l.blks ↔ blkOf l.hdr = some b := fun b => by
    unfold Loc.blks; rw [h2]; simp
  have hblk' : ∀ b, b ∈ (⟨v', none, l.epoch + 1⟩ : Loc).blks ↔ blkOf v' = some b := fun b => by
    unfold Loc.blks; simp
  have keep : ∀ b, b < w.heap.size → ¬ γ.owns b → w'.heap[b]? = w.heap[b]? := fun b hb hno =>
    hg.block b hb fun he => hno ⟨id, l, hl, (hblk b).2 he.symm⟩
  have getset : ∀ i l', (γ.locs.set id ⟨v', none, l.epoch + 1⟩)[i]? = some l' → (i = id ∧ l' = ⟨v', none, l.epoch + 1⟩) ∨ (i ≠ id ∧ γ.locs[i]? = some l') := by
    intro i l' h'
    by_cases hi : i = id
    · subst hi
      rw [List.getElem?_set_self hid] at h'
      injection h' with h'
      exact .inl ⟨rfl, h'.symm⟩
    · rw [List.getElem?_set_ne (Ne.symm hi)] at h'
      exact .inr ⟨hi, h'⟩
  have newo : ∀ b, Gh.owns { γ with locs := γ.locs.set id ⟨v', none, l.epoch + 1⟩ } b → b < w.heap.size → γ.owns b := by
    rintro b ⟨i, l', h', hb⟩ hlt'
    rcases getset i l' h' with ⟨rfl, rfl⟩ | ⟨_, h''⟩
    · rw [hblk'] at hb
      rcases hat with h3 | h3 | h3
      · rw [h3] at hb; cases hb
      · exact ⟨i, l, hl, (hblk b).2 (h3 ▸ hb)⟩
      · rw [h3] at hb; injection hb with hb; omega
    · exact ⟨i, l', h'', hb⟩
  have kept : ∀ n, LocsKept n γ { γ with locs := γ.locs.set id ⟨v', none, l.epoch + 1⟩ } := by
    intro n i l' _ h'
    by_cases hi : i = id
    · subst hi
      have : l' = l := Option.some.inj (h'.symm.trans hl)
      subst this
      refine ⟨⟨v', none, l'.epoch + 1⟩, List.getElem?_set_self hid, fun he => ?_, fun hf => ?_, by rw [hfix', hfix], by simp⟩
      · simp at he
      · rw [hfix] at hf; cases hf
    · exact ⟨l', by simp only; rw [List.getElem?_set_ne (Ne.symm hi)]; exact h', fun _ => rfl, fun _ => rfl, rfl, Nat.le_refl _⟩
  have hpk : ∀ b, γ.pers b → w'.heap[b]? = w.heap[b]? := fun b hb => keep b (h.plt b hb) (h.apart b hb)
  refine ⟨⟨by simp [h.len], Nat.le_trans h.basesz hg.size, fun b hb => ⟨(h.base b hb).1, (hpk b (h.base b hb).1).trans (h.base b hb).2⟩, fun b hb => Nat.lt_of_lt_of_le (h.plt b hb) hg.size, ?_, ?_, ?_, ?_, ?_⟩,
    ⟨rfl, hg.os, hg.tape, hg.output, hg.size, fun b hb hno _ => keep b hb hno, fun _ h => h, fun _ h _ => .inl h, newo, kept _⟩⟩
  · rintro b ⟨i, l', h', hb⟩
    rcases getset i l' h' with ⟨rfl, rfl⟩ | ⟨_, h''⟩
    · exact hlt b ((hblk' b).1 hb)
    · exact Nat.lt_of_lt_of_le (h.olt b ⟨i, l', h'', hb⟩) hg.size
  · intro b hb hbo
    exact h.apart b hb (newo b hbo (h.plt b hb))
  · intro i j l1 l2 b h1 h3 hb1 hb2
    rcases getset i l1 h1 with ⟨rfl, rfl⟩ | ⟨hi, h1'⟩ <;> rcases getset j l2 h3 with ⟨rfl, rfl⟩ | ⟨hj, h3'⟩
    · rfl
    · exfalso
      rw [hblk'] at hb1
      have hlt2 := h.olt b ⟨j, l2, h3', hb2⟩
      rcases hat with h4 | h4 | h4
      · rw [h4] at hb1; cases hb1
      · exact hj (h.inj _ _ _ _ b hl h3' ((hblk b).2 (h4 ▸ hb1)) hb2).symm
      · rw [h4] at hb1; injection hb1 with hb1; omega
    · exfalso
      rw [hblk'] at hb2
      have hlt2 := h.olt b ⟨i, l1, h1', hb1⟩
      rcases hat with h4 | h4 | h4
      · rw [h4] at hb2; cases hb2
      · exact hi (h.inj _ _ _ _ b hl h1' ((hblk b).2 (h4 ▸ hb2)) hb1).symm
      · rw [h4] at hb2; injection hb2 with hb2; omega
    · exact h.inj i j l1 l2 b h1' h3' hb1 hb2
  · intro i l1 h1
    rcases getset i l1 h1 with ⟨rfl, rfl⟩ | ⟨_, h1'⟩
    · unfold Loc.blks
      cases blkOf v' <;> simp
    · exact h.two i l1 h1'
  · intro i l1 o1 h1 ho1
    rcases getset i l1 h1 with ⟨rfl, rfl⟩ | ⟨hi, h1'⟩
    · rw [List.getElem?_set_self (by rw [← h.len]; exact hid)] at ho1
      injection ho1 with ho1
      subst ho1
      exact ho
    · rw [List.getElem?_set_ne (Ne.symm hi)] at ho1
      refine RelO.mono (γ := γ) (fun _ h => h) hpk (kept _) (fun b hb => ?_) (h.objs i l1 o1 h1' ho1)
      refine hg.block b (h.olt b ⟨i, l1, h1', hb⟩) fun he => hi ?_
      exact h.inj i id l1 l b h1' hl hb ((hblk b).2 he.symm)

section
variable {cx : Cx} {f : Fenv} {st : List SO}

/-- The nil slice that a variable begins with, from now on an array of its own. -/
theorem s_adopt (e : TypeId) (esz : Nat) : OpSound cx (.assign (.const (.slice none 0 0))) f st 2 ⟨.own st.length 0, none, st ++ [.arr e esz 0 []]⟩ := by
  refine ⟨fun o hop γ w gb ev h1 _ h3 _ => ?_, fun o _ => ⟨by simp, by simp⟩, by omega, by omega, by omega, by omega⟩
  have hx : ev (.const (.slice none 0 0)) = .slice none 0 0 := h3 (.const (.slice none 0 0)) (by rw [hop]; simp [Op.operands])
  have hrun : (execOp ev o).run cx.P w = .ok (.value (.slice none 0 0)) w := by simp [execOp, hop, hx]
  rw [hrun]
  refine ⟨γ.push ⟨.slice none 0 0, none, 0⟩, evoX_push rfl rfl rfl (Nat.le_refl _) (fun _ _ => rfl) (by intro b hb; cases hb), ?_, ?_, by simp⟩
  · exact h1.push (Nat.le_refl _) (fun _ _ => rfl) (by intro b hb; cases hb) (by simp [Loc.blks, blkOf]) ⟨rfl, rfl, rfl, [], World.ownsRow_nil _ _ _ _, by simp, by simp⟩
  · exact RelV.own st.length 0 _ _ (push_get.2 (.inr ⟨h1.len.symm, rfl⟩)) rfl (Nat.zero_le _) rfl (fun _ => rfl)

theorem ownsRow_lt {w : World} {base : Nat} {e : TypeId} {size n : Nat} {v : Value} {xs : List Value} (h : w.ownsRow base e size v n xs) : ∀ b, blkOf v = some b → b < w.heap.size := by
  intro b hb
  rw [← ownBlock_blkOf (ownsRow_slice h)] at hb
  exact (h.lt b hb).2

theorem flatten_rel {pers pers' : Nat → Prop} {w w' : World} {xs ys : List (List C)} {vs us : List Value} (hl : vs.length = xs.flatten.length)
    (hp : ∀ b, pers b → pers' b) (hw : ∀ b, pers b → w'.heap[b]? = w.heap[b]?)
    (h1 : ∀ (i : Nat) c v, xs.flatten[i]? = some c → vs[i]? = some v → RelC pers w c v) (h2 : ∀ (i : Nat) c v, ys.flatten[i]? = some c → us[i]? = some v → RelC pers w c v) :
    ∀ (i : Nat) c v, (xs ++ ys).flatten[i]? = some c → (vs ++ us)[i]? = some v → RelC pers' w' c v := by
  intro i c v hc hv
  rw [List.flatten_append] at hc
  rcases Nat.lt_or_ge i xs.flatten.length with hi | hi
  · rw [List.getElem?_append_left hi] at hc
    rw [List.getElem?_append_left (by omega)] at hv
    exact (h1 i c v hc hv).mono hp hw
  · rw [List.getElem?_append_right hi] at hc
    rw [List.getElem?_append_right (by omega), hl] at hv
    exact (h2 _ c v hc hv).mono hp hw

theorem flat_len {xs : List (List C)} {esz : Nat} (h : ∀ x ∈ xs, x.length = esz) : xs.flatten.length = xs.length * esz := by
  induction xs with
  | nil => simp
  | cons a l ih => simp [ih (fun x hx => h x (List.mem_cons_of_mem _ hx)), h a (List.mem_cons_self ..), Nat.add_mul]; omega

/-- The elements of a slice that all may read, as the row of cells that append takes. -/
theorem sl_news {γ : Gh} {w : World} {ys : List (List C)} {esz : Nat} {x : Value} (h : RelV γ w (.c (.sl ys)) x) (hz : ∀ y ∈ ys, y.length = esz) :
    (ys = [] ∧ x = .slice none 0 0) ∨ ∃ a cap, x = .slice (some a) ys.length cap ∧ ∃ news : List Value, news.length = ys.length * esz ∧ (∀ (j : Nat) u, news[j]? = some u → w.cell? (a.add j) = some u) ∧
      (∀ u ∈ news, u.oneCell' = true) ∧ ∀ (i : Nat) c v, ys.flatten[i]? = some c → news[i]? = some v → RelC γ.pers w c v := by
  rcases rel_sl h with ⟨rfl, hx⟩ | ⟨esz', a, len, cap, fn, hx, hp, hs, hl, hc, hm, hz', hcell, hr⟩
  · exact .inl ⟨rfl, hx⟩
  · refine .inr ⟨a, cap, by rw [hx, hl], ?_⟩
    have key : ∀ (zs : List (List C)) (off : Nat), (∀ (i : Nat) z, zs[i]? = some z → ys[off + i]? = some z) → ∃ news : List Value, news.length = zs.length * esz ∧
        (∀ (j : Nat) u, news[j]? = some u → w.cell? (a.add (off * esz + j)) = some u) ∧ (∀ u ∈ news, u.oneCell' = true) ∧ ∀ (i : Nat) c v, zs.flatten[i]? = some c → news[i]? = some v → RelC γ.pers w c v := by
      intro zs
      induction zs with
      | nil => intro off _; exact ⟨[], by simp, by simp, by simp, by simp⟩
      | cons z zs ih =>
        intro off hzs
        obtain ⟨news, k1, k2, k3, k4⟩ := ih (off + 1) (fun i y hi => by have := hzs (i + 1) y (by simpa using hi); simpa [Nat.add_assoc, Nat.add_comm 1 i] using this)
        have hz0 : ys[off]? = some z := by simpa using hzs 0 z rfl
        have hzl : z.length = esz := hz z (List.mem_of_getElem? hz0)
        have hee : esz' = esz := by rw [← hz' off z hz0, hzl]
        subst hee
        refine ⟨(List.range z.length).map (fn off) ++ news, by simp [hzl, k1, Nat.add_mul]; omega, fun j u hj => ?_, fun u hu => ?_, fun i c v hc hv => ?_⟩
        · rcases Nat.lt_or_ge j z.length with hjl | hjl
          · rw [List.getElem?_append_left (by simpa using hjl)] at hj
            simp only [List.getElem?_map, List.getElem?_range hjl, Option.map_some, Option.some.injEq] at hj
            rw [← hj]
            exact hcell off z j _ hz0 (List.getElem?_eq_getElem hjl)
          · rw [List.getElem?_append_right (by simpa using hjl)] at hj
            have := k2 _ u hj
            simp only [List.length_map, List.length_range] at this
            rw [Nat.add_mul, Nat.one_mul, Nat.add_assoc] at this
            rw [show off * esz' + j = off * esz' + (esz' + (j - z.length)) by omega]
            exact this
        · rcases List.mem_append.1 hu with hu | hu
          · simp only [List.mem_map, List.mem_range] at hu
            obtain ⟨j, hj, rfl⟩ := hu
            exact (hr off z j _ hz0 (List.getElem?_eq_getElem hj)).one
          · exact k3 u hu
        · simp only [List.flatten_cons] at hc
          rcases Nat.lt_or_ge i z.length with hil | hil
          · rw [List.getElem?_append_left hil] at hc
            rw [List.getElem?_append_left (by simpa using hil)] at hv
            simp only [List.getElem?_map, List.getElem?_range hil, Option.map_some, Option.some.injEq] at hv
            rw [← hv]
            exact hr off z i c hz0 hc
          · rw [List.getElem?_append_right hil] at hc
            rw [List.getElem?_append_right (by simpa using hil)] at hv
            simp only [List.length_map, List.length_range] at hv
            exact k4 _ c v hc hv
    obtain ⟨news, k1, k2, k3, k4⟩ := key ys 0 (fun i z hi => by simpa using hi)
    exact ⟨news, k1, fun j u hj => by simpa using k2 j u hj, k3, k4⟩

theorem run_append {P : Program} {w : World} {o : Oper} {ev : Operand → Value} {x y : Operand} {ts : Array TypeId} (ho : o.op = .call { callee := .builtin .append, args := #[x, y], argTypes := ts }) :
    (execOp ev o).run P w = ((Builtin.append_ ts o.type #[ev x, ev y]).run P w).andThen fun v w => .ok (.value v) w := by
  simp [execOp, ho, resolve, invoke, builtin]

theorem s_append {x y : Operand} {t ety : TypeId} {id e esz byt : Nat} {xs ys : List (List C)} (hx : opnd f x = .own id e) (ho : st[id]? = some (.arr ety esz e xs)) (hy : opnd f y = .c (.sl ys))
    (ht : ownTy cx.P t = some (ety, esz, byt)) (hz : ∀ z ∈ ys, z.length = esz) (hroom : xs.length + ys.length ≤ maxLen) (hbig : (xs.length + ys.length) * byt ≤ 140737488355328) :
    OpSound cx (.call { callee := .builtin .append, args := #[x, y], argTypes := #[t, t] }) f st 2 ⟨.own id (e + 1), none, st.set id (.arr ety esz (e + 1) (xs ++ ys))⟩ := by
  refine ⟨fun o hop γ w gb ev h1 _ h3 _ => ?_, fun o _ => ⟨by simp, by simp⟩, by omega, by omega, by omega, by omega⟩
  rw [hop] at h3
  obtain ⟨i, z, hu, hi, hzz, hsz, hby, hzs, hpos⟩ := ownTy_spec ht
  have hxv := opnd_plain (x := x) h3 (by simp [Op.operands, Call.operands]) hx rfl
  have hyv := opnd_plain (x := y) h3 (by simp [Op.operands, Call.operands]) hy rfl
  generalize hev : ev x = vx at hxv
  cases hxv with
  | own _ _ l _ hloc hfix hle hone hhdr =>
    obtain ⟨hb2, hep, hfix2, vs, hown, hlen, hrel⟩ := h1.objs id l _ hloc ho
    have hvx := hhdr hep
    subst hvx
    have hvl : vs.length = xs.flatten.length := by rw [hown.1, flat_len hlen]
    have fin : ∀ v' w' us, (Builtin.append_ #[t, t] o.type #[l.hdr, ev y]).run cx.P w = .ok v' w' → w'.ownsRow 0 ety esz v' (xs.length + ys.length) (vs ++ us) → w.grownBy w' (blkOf l.hdr) →
        (blkOf v' = none ∨ blkOf v' = blkOf l.hdr ∨ blkOf v' = some w.heap.size) → (∀ (i : Nat) c v, ys.flatten[i]? = some c → us[i]? = some v → RelC γ.pers w c v) →
        UponV cx.P (Out γ w gb ⟨.own id (e + 1), none, st.set id (.arr ety esz (e + 1) (xs ++ ys))⟩) ((execOp ev o).run cx.P w) := by
      intro v' w' us hrun hown' hgr hat hus
      rw [run_append hop, hev, hrun]
      have hf' : (⟨v', none, l.epoch + 1⟩ : Loc).fix = false := by
        obtain ⟨a, n, c, rfl⟩ := ownsRow_slice hown'; rfl
      have hpk : ∀ b, γ.pers b → w'.heap[b]? = w.heap[b]? := fun b hb => hgr.block b (h1.plt b hb) fun he =>
        h1.apart b hb ⟨id, l, hloc, by unfold Loc.blks; rw [← he]; simp⟩
      obtain ⟨hw', hev'⟩ := regrow (o' := .arr ety esz (e + 1) (xs ++ ys)) h1 hloc hb2 hfix hf' hgr (ownsRow_lt hown') hat
        ⟨rfl, by simp [hep], hf', vs ++ us, by simpa using hown', fun q hq => (List.mem_append.1 hq).elim (hlen q) (hz q), flatten_rel hvl (fun _ h => h) hpk hrel hus⟩
      refine ⟨_, hev', hw', ?_, by simp⟩
      exact RelV.own id (e + 1) ⟨v', none, l.epoch + 1⟩ v' (List.getElem?_set_self (lt_of_some hloc)) hf' (by simp [hep]) (by obtain ⟨a, n, c, rfl⟩ := ownsRow_slice hown'; rfl) (fun _ => rfl)
    rcases sl_news hyv hz with ⟨rfl, hyn⟩ | ⟨a, cap, hya, news, k1, k2, k3, k4⟩
    · have hr := run_append_owned_none (P := cx.P) w 0 t o.type ety i esz hu hi l.hdr xs.length vs hown
      rw [← hyn] at hr
      exact fin l.hdr w [] hr (by simpa using hown) ⟨rfl, rfl, rfl, Nat.le_refl _, fun _ _ _ => rfl⟩ (.inr (.inl rfl)) (by simp)
    · obtain ⟨v', w', hr, h5, h6, _, h8⟩ := run_append_own_at (P := cx.P) w 0 t o.type ety i z esz byt hu hi hzz hsz hby hzs hpos l.hdr xs.length vs hown a ys.length cap news k1 k2 k3 hroom hbig (Nat.zero_le _)
      rw [← hya] at hr
      have e1 := ownBlock_blkOf (ownsRow_slice hown)
      have e2 := ownBlock_blkOf (ownsRow_slice h5)
      rw [e1] at h6
      rw [e1, e2] at h8
      exact fin v' w' news hr h5 h6 (.inr h8) k4

theorem s_make {t ety : TypeId} {a b : Operand} {k k' : IntKind} {n : Int} {esz byt : Nat} (ha : opnd f a = .c (.int k 0)) (hb : opnd f b = .c (.int k' n)) (h0 : 0 ≤ n)
    (ht : ownTy cx.P t = some (ety, esz, byt)) (hbig : byt * n.toNat ≤ 281474976710656) (hm : n.toNat ≤ maxLen) :
    OpSound cx (.makeSlice t a b) f st 2 ⟨.own st.length 0, none, st ++ [.arr ety esz 0 []]⟩ := by
  refine ⟨fun o hop γ w gb ev h1 _ h3 _ => ?_, fun o _ => ⟨by simp, by simp⟩, by omega, by omega, by omega, by omega⟩
  rw [hop] at h3
  obtain ⟨i, z, hu, hi, hzz, hsz, hby, hzs, hpos⟩ := ownTy_spec ht
  have e1 := rel_int (opnd_plain (x := a) h3 (by simp [Op.operands]) ha rfl)
  have e2 := rel_int (opnd_plain (x := b) h3 (by simp [Op.operands]) hb rfl)
  obtain ⟨w', hr, hown, hg⟩ := run_make_own (P := cx.P) w 0 t ety i z esz hu hi hzz hsz k k' n.toNat (by rw [hby]; exact hbig) hm (Nat.zero_le _)
  have en : ((n.toNat : Nat) : Int) = n := Int.toNat_of_nonneg h0
  rw [en] at hr
  have hrun : (execOp ev o).run cx.P w = .ok (.value (.slice (some ⟨w.heap.size, 0, none⟩) 0 n.toNat)) w' := by simp [execOp, hop, e1, e2, hr]
  rw [hrun]
  have hw : ∀ b, b < w.heap.size → w'.heap[b]? = w.heap[b]? := fun b hb => hg.block b hb (by simp)
  have hbl : (⟨.slice (some ⟨w.heap.size, 0, none⟩) 0 n.toNat, none, 0⟩ : Loc).blks = [w.heap.size] := rfl
  refine ⟨γ.push ⟨.slice (some ⟨w.heap.size, 0, none⟩) 0 n.toNat, none, 0⟩, evoX_push hg.os hg.tape hg.output hg.size hw (by rw [hbl]; simp), ?_, ?_, by simp⟩
  · exact h1.push hg.size hw (by rw [hbl]; intro b hb; simp at hb; subst hb; exact ⟨Nat.le_refl _, ownsRow_lt hown _ rfl⟩) (by rw [hbl]; simp) ⟨rfl, rfl, rfl, [], hown, by simp, by simp⟩
  · exact RelV.own st.length 0 _ _ (push_get.2 (.inr ⟨h1.len.symm, rfl⟩)) rfl (Nat.zero_le _) rfl (fun _ => rfl)

theorem own_hdr {γ : Gh} {w : World} {id e esz : Nat} {ety : TypeId} {xs : List (List C)} {x : Value} (h1 : RelW γ st w) (ho : st[id]? = some (.arr ety esz e xs)) (hx : RelV γ w (.own id e) x) :
    ∃ l vs, γ.locs[id]? = some l ∧ x = l.hdr ∧ l.epoch = e ∧ l.fix = false ∧ l.blk2 = none ∧ w.ownsRow 0 ety esz x xs.length vs ∧ (∀ y ∈ xs, y.length = esz) ∧
      ∀ (i : Nat) c v, xs.flatten[i]? = some c → vs[i]? = some v → RelC γ.pers w c v := by
  cases hx with
  | own _ _ l _ hloc hfix hle hone hhdr =>
    obtain ⟨hb2, hep, hfix2, vs, hown, hlen, hrel⟩ := h1.objs id l _ hloc ho
    have hvx := hhdr hep
    subst hvx
    exact ⟨l, vs, hloc, rfl, hep, hfix, hb2, hown, hlen, hrel⟩

theorem s_len_own {x : Operand} {t ety : TypeId} {id e esz : Nat} {xs : List (List C)} (hx : opnd f x = .own id e) (ho : st[id]? = some (.arr ety esz e xs)) (ht : isSl cx.P t = true) :
    OpSound cx (.call { callee := .builtin .len, args := #[x], argTypes := #[t] }) f st 1 ⟨.c (.int .i64 xs.length), none, st⟩ :=
  sound_read rfl fun oo hop γ w gb ev h1 _ h3 _ => by
    have h := opnd_plain (x := x) h3 (by simp [Op.operands, Call.operands]) hx rfl
    obtain ⟨l, vs, _, _, _, _, _, hown, _⟩ := own_hdr h1 ho h
    obtain ⟨e, he⟩ := isSl_spec ht
    refine ⟨.int .i64 xs.length, ?_, .c _ _ (.int _ _)⟩
    rw [run_len hop]
    rcases hown.2 with ⟨hv, hn⟩ | ⟨g, cap, cur, hv, _⟩
    · simp [Builtin.len_, underlying, he, hv, goInt, hn]
    · simp [Builtin.len_, underlying, he, hv, goInt]

/-- The bytes that cells hold. -/
def byteOfC : List C → Option UInt8
  | [.int .u8 n] => some (UInt8.ofNat n.toNat)
  | _ => none
def bytesOf (xs : List (List C)) : Option (List UInt8) := xs.mapM byteOfC

def isBytes (P : Program) (t : TypeId) : Bool := match P.underlying t with
  | some (.slice e) => match P.underlying e with
    | some (.int .u8) => true
    | _ => false
  | _ => false

theorem bytesOf_cells {γ : Gh} {w : World} : ∀ (xs : List (List C)) (bs : List UInt8) (vs : List Value), bytesOf xs = some bs → vs.length = xs.flatten.length →
    (∀ (i : Nat) c v, xs.flatten[i]? = some c → vs[i]? = some v → RelC γ.pers w c v) → ∃ ns : List Int, vs = ns.map (Value.int .u8) ∧ ns.map (fun n => UInt8.ofNat n.toNat) = bs ∧ ns.length = xs.length
  | [], bs, vs, h, hl, _ => by
    simp only [bytesOf, List.mapM_nil, Option.pure_def, Option.some.injEq] at h
    subst h
    have : vs = [] := List.eq_nil_of_length_eq_zero (by simpa using hl)
    exact ⟨[], by simp [this], rfl, rfl⟩
  | x :: xs, bs, vs, h, hl, hr => by
    unfold bytesOf at h
    rw [List.mapM_cons] at h
    simp only [Option.bind_eq_bind, Option.bind_eq_some_iff, Option.pure_def, Option.some.injEq] at h
    obtain ⟨b, hb, bs', hbs, rfl⟩ := h
    unfold byteOfC at hb
    split at hb
    case h_2 => cases hb
    next n =>
    injection hb with hb
    subst hb
    cases vs with
    | nil => simp at hl
    | cons v vs =>
      obtain ⟨ns, h1, h2, h3⟩ := bytesOf_cells xs bs' vs hbs (by simpa using hl) (fun i c u hc hu => hr (i + 1) c u (by simpa using hc) (by simpa using hu))
      have hv := hr 0 (.int .u8 n) v (by simp) rfl
      cases hv
      exact ⟨n :: ns, by simp [h1], by simp [h2], by simp [h3]⟩

theorem s_bytesStr {src dst ety : TypeId} {x : Operand} {id e esz : Nat} {xs : List (List C)} {bs : List UInt8} (hx : opnd f x = .own id e) (ho : st[id]? = some (.arr ety esz e xs))
    (hs : isBytes cx.P src = true) (hd : isStr cx.P dst = true) (hb : bytesOf xs = some bs) (hm : xs.length ≤ maxLen) (he1 : esz = 1) :
    OpSound cx (.convert src dst x) f st 1 ⟨.c (.str bs), none, st⟩ :=
  sound_read rfl fun oo hop γ w gb ev h1 _ h3 _ => by
    have h := opnd_plain (x := x) h3 (by simp [Op.operands]) hx rfl
    obtain ⟨l, vs, _, _, _, _, _, hown, hlen, hrel⟩ := own_hdr h1 ho h
    obtain ⟨ns, rfl, hns, hnl⟩ := bytesOf_cells (γ := γ) (w := w) xs bs vs hb (by rw [hown.1, flat_len hlen]) hrel
    unfold isBytes at hs
    split at hs
    case h_2 => cases hs
    next el hu =>
    split at hs
    case h_2 => cases hs
    next hue =>
    have hdst := isStr_spec hd
    subst he1
    rcases hown.2 with ⟨hv, hn⟩ | ⟨g, cap, cur, hv, hrest⟩
    · have hxn : xs = [] := List.eq_nil_of_length_eq_zero hn
      subst hxn
      have hns0 : ns = [] := List.eq_nil_of_length_eq_zero hnl
      subst hns0
      simp at hns
      subst hns
      refine ⟨.string .empty, ?_, .c _ _ (.str .empty (by simp))⟩
      simp [execOp, hop, hv, convert, underlying, hu, hue, hdst, Conv.bytesToString]
    · have hload := run_loadCells_list (P := cx.P) w ⟨g, 0, none⟩ (ns.map (Value.int .u8)) (fun j v hj => hown.cells (g := g) (by rw [hv]; rfl) j v hj)
      rw [List.length_map, hnl] at hload
      have hr := run_bytesToString (P := cx.P) w ⟨g, 0, none⟩ xs.length cap ns hload
      rw [foldl_push_bytes] at hr
      refine ⟨.string ⟨(ns.map fun n => UInt8.ofNat n.toNat).toArray⟩, ?_, ?_⟩
      · simp [execOp, hop, hv, convert, underlying, hu, hue, hdst, hr]
      · rw [← hns]
        have := RelC.str (pers := γ.pers) (w := w) ⟨(ns.map fun n => UInt8.ofNat n.toNat).toArray⟩ (by simp [ByteArray.size]; omega)
        simpa using RelV.c _ _ this

/-- An array of a function's own, from now on for all to read. -/
def frz1 (id ep : Nat) (xs : List (List C)) : V → V
  | .own i e => if i = id ∧ e = ep then .c (.sl xs) else .own i e
  | v => v
/-- .. in the cells of a box or a struct, too. -/
def frzV (id ep : Nat) (xs : List (List C)) : V → V
  | .box cs => .box (cs.map (frz1 id ep xs))
  | .agg cs => .agg (cs.map (frz1 id ep xs))
  | v => frz1 id ep xs v

theorem weak_freeze {f : Fenv} {id e esz : Nat} {ety : TypeId} {xs : List (List C)} (ho : st[id]? = some (.arr ety esz e xs)) :
    Weak cx f st (fun d => frzV id e xs (f d)) (st.set id .dead) := by
  rintro γ0 w0 a w ⟨γ, gb, sg⟩
  have hid : id < γ.locs.length := by rw [sg.rel.len]; exact lt_of_some ho
  obtain ⟨l, hl⟩ : ∃ l, γ.locs[id]? = some l := ⟨_, List.getElem?_eq_getElem hid⟩
  obtain ⟨hb2, hep, hfix, vs, hown, hlen, hrel⟩ := sg.rel.objs id l _ hl ho
  let l' : Loc := ⟨.slice none 0 0, none, l.epoch + 1⟩
  let γ' : Gh := { γ with pers := fun b => γ.pers b ∨ blkOf l.hdr = some b, locs := γ.locs.set id l' }
  have hblk : ∀ b, b ∈ l.blks ↔ blkOf l.hdr = some b := fun b => by unfold Loc.blks; rw [hb2]; simp
  have hpo : ∀ b, blkOf l.hdr = some b → γ.owns b := fun b hb => ⟨id, l, hl, (hblk b).2 hb⟩
  have getset : ∀ i l1, γ'.locs[i]? = some l1 → (i = id ∧ l1 = l') ∨ (i ≠ id ∧ γ.locs[i]? = some l1) := by
    intro i l1 h'
    by_cases hi : i = id
    · subst hi
      rw [List.getElem?_set_self hid] at h'
      injection h' with h'
      exact .inl ⟨rfl, h'.symm⟩
    · rw [List.getElem?_set_ne (Ne.symm hi)] at h'
      exact .inr ⟨hi, h'⟩
  have newo : ∀ b, γ'.owns b → γ.owns b ∧ blkOf l.hdr ≠ some b := by
    rintro b ⟨i, l1, h', hb⟩
    rcases getset i l1 h' with ⟨rfl, rfl⟩ | ⟨hi, h''⟩
    · cases hb
    · refine ⟨⟨i, l1, h'', hb⟩, fun he => hi ?_⟩
      exact sg.rel.inj i id l1 l b h'' hl hb ((hblk b).2 he)
  have kept : ∀ n, LocsKept n γ γ' := by
    intro n i l1 _ h'
    by_cases hi : i = id
    · subst hi
      have : l1 = l := Option.some.inj (h'.symm.trans hl)
      subst this
      refine ⟨l', List.getElem?_set_self hid, fun he => ?_, fun hf => ?_, by rw [hfix]; rfl, by simp [l']⟩
      · simp [l'] at he
      · rw [hfix] at hf; cases hf
    · exact ⟨l1, by show (γ.locs.set id l')[i]? = _; rw [List.getElem?_set_ne (Ne.symm hi)]; exact h', fun _ => rfl, fun _ => rfl, rfl, Nat.le_refl _⟩
  have hpp : ∀ b, γ.pers b → γ'.pers b := fun _ h => .inl h
  have hm : ∀ v x, RelV γ w v x → RelV γ' w v x := fun v x h => h.mono hpp (fun _ _ => rfl) (kept _)
  have hfr : RelC γ'.pers w (.sl xs) l.hdr := by
    rcases hown.2 with ⟨hv, hn⟩ | ⟨g, cap, cur, hv, _, hh, hnc, hcm, hcs, htk⟩
    · have : xs = [] := List.eq_nil_of_length_eq_zero hn
      rw [this, hv]; exact .nilsl
    · have hg : blkOf l.hdr = some g := by rw [hv]; rfl
      rw [hv]
      have hcell : ∀ (i : Nat) x (j : Nat) c, xs[i]? = some x → x[j]? = some c → ∃ v, vs[i * esz + j]? = some v ∧ RelC γ.pers w c v := by
        intro i x j c hi hj
        have h1 := rowIdx hlen i x j c hi hj
        have hlt : i * esz + j < vs.length := by
          have := lt_of_some h1
          rw [flat_len hlen] at this
          rw [hown.1]; exact this
        exact ⟨_, List.getElem?_eq_getElem hlt, hrel _ _ _ h1 (List.getElem?_eq_getElem hlt)⟩
      refine .sl xs esz ⟨g, 0, none⟩ xs.length cap (fun i j => vs.getD (i * esz + j) undef) (fun _ => .inr hg) (fun _ => rfl) rfl hnc hcm (fun i x hi => hlen x (List.mem_of_getElem? hi)) (fun i x j c hi hj => ?_) (fun i x j c hi hj => ?_)
      · obtain ⟨v, hv1, _⟩ := hcell i x j c hi hj
        have := hown.cells (g := g) (by rw [hv]; rfl) _ v hv1
        rw [this]; simp [hv1]
      · obtain ⟨v, hv1, hv2⟩ := hcell i x j c hi hj
        have : vs.getD (i * esz + j) undef = v := by simp [hv1]
        rw [this]; exact hv2.mono hpp (fun _ _ => rfl)
  have one : ∀ v x, RelV γ w v x → RelV γ' w (frz1 id e xs v) x := by
    intro v x h
    cases v with
    | own i e' =>
      simp only [frz1]
      split
      · next h' =>
        obtain ⟨rfl, rfl⟩ := h'
        cases h with
        | own _ _ l1 _ hloc _ _ _ hhdr =>
          have : l1 = l := Option.some.inj (hloc.symm.trans hl)
          subst this
          rw [hhdr hep]
          exact RelV.c _ _ hfr
      · exact hm _ _ h
    | _ => exact hm _ _ h
  have slot : ∀ d, RelS γ' w gb d (frzV id e xs (f d)) (a.tmps.getD d undef) := by
    intro d
    have hs := sg.slots d
    cases hv : f d with
    | box cs =>
      rw [hv] at hs
      obtain ⟨h1, vs1, T, h2, h3⟩ := hs
      refine ⟨h1, vs1, T, h2, by rw [List.length_map]; exact h3.1, fun i v x hi hx => ?_⟩
      rw [List.getElem?_map] at hi
      cases hc : cs[i]? with
      | none => rw [hc] at hi; cases hi
      | some u =>
        rw [hc] at hi
        simp only [Option.map_some, Option.some.injEq] at hi
        subst hi
        exact ⟨one _ _ (h3.2 i u x hc hx).1, (h3.2 i u x hc hx).2⟩
    | agg cs =>
      rw [hv] at hs
      have hs' : RelV γ w (.agg cs) (a.tmps.getD d undef) := hs
      show RelV γ' w (.agg (cs.map (frz1 id e xs))) _
      generalize a.tmps.getD d undef = x at *
      cases hs' with
      | agg _ vs hsz hr =>
        refine .agg _ vs (by rw [List.length_map]; exact hsz) fun i v x hi hx => ?_
        rw [List.getElem?_map] at hi
        cases hc : cs[i]? with
        | none => rw [hc] at hi; cases hi
        | some u =>
          rw [hc] at hi
          simp only [Option.map_some, Option.some.injEq] at hi
          subst hi
          exact one _ _ (hr i u x hc hx)
    | lp d' off => rw [hv] at hs; exact hs
    | own i e' =>
      rw [hv] at hs
      have := one _ _ hs
      simp only [frzV]
      simp only [frz1] at this ⊢
      split at this
      · next h => rw [if_pos h]; exact this
      · next h => rw [if_neg h]; exact this
    | _ => rw [hv] at hs; exact one _ _ hs
  have boxes : ∀ d cs, frzV id e xs (f d) = .box cs → ∃ cs0, f d = .box cs0 := by
    intro d cs h
    cases hv : f d with
    | box cs0 => exact ⟨cs0, rfl⟩
    | own i e' => rw [hv] at h; simp only [frzV, frz1] at h; split at h <;> cases h
    | _ => rw [hv] at h; cases h
  refine ⟨γ', gb, ⟨?_, sg.n0, ?_, sg.g, sg.size, sg.defers.mono (fun _ _ _ _ _ => rfl) (fun D _ _ h => h.imp_right fun h => hpo D h) (fun D _ _ h => (newo D h).1), slot, fun d cs hd => ?_, fun d d' cs cs' h1 h2 => by
    obtain ⟨c1, k1⟩ := boxes d cs h1
    obtain ⟨c2, k2⟩ := boxes d' cs' h2
    exact sg.inj d d' c1 c2 k1 k2⟩⟩
  · have he := sg.evo
    refine ⟨he.base, he.os, he.tape, he.output, he.size, he.keep, fun b hb => .inl (he.pers b hb), fun b hb hlt => ?_, fun b hb hlt => he.newo b (newo b hb).1 hlt, he.locs.trans (kept _)⟩
    rcases hb with hb | hb
    · exact he.newp b hb hlt
    · exact .inr (he.newo b (hpo b hb) hlt)
  · have h := sg.rel
    refine ⟨by simp [γ', h.len], h.basesz, fun b hb => ⟨.inl (h.base b hb).1, (h.base b hb).2⟩, fun b hb => ?_, fun b hb => h.olt b (newo b hb).1, fun b hb hbo => ?_, fun i j l1 l2 b h1 h2 hb1 hb2 => ?_, fun i l1 h1 => ?_, fun i l1 o1 h1 ho1 => ?_⟩
    · rcases hb with hb | hb
      · exact h.plt b hb
      · exact h.olt b (hpo b hb)
    · obtain ⟨k1, k2⟩ := newo b hbo
      rcases hb with hb | hb
      · exact h.apart b hb k1
      · exact k2 hb
    · rcases getset i l1 h1 with ⟨rfl, rfl⟩ | ⟨hi, h1'⟩
      · cases hb1
      · rcases getset j l2 h2 with ⟨rfl, rfl⟩ | ⟨hj, h2'⟩
        · cases hb2
        · exact h.inj i j l1 l2 b h1' h2' hb1 hb2
    · rcases getset i l1 h1 with ⟨rfl, rfl⟩ | ⟨_, h1'⟩
      · simp [l', Loc.blks, blkOf]
      · exact h.two i l1 h1'
    · rcases getset i l1 h1 with ⟨rfl, rfl⟩ | ⟨hi, h1'⟩
      · rw [List.getElem?_set_self (lt_of_some ho)] at ho1
        injection ho1 with ho1
        subst ho1
        exact trivial
      · rw [List.getElem?_set_ne (Ne.symm hi)] at ho1
        exact RelO.mono (γ := γ) (γ' := γ') hpp (fun _ _ => rfl) (kept _) (fun _ _ => rfl) (h.objs i l1 o1 h1' ho1)
  · obtain ⟨c0, hd'⟩ := boxes d cs hd
    obtain ⟨h1, h2, h3, h4⟩ := sg.boxes d c0 hd'
    refine ⟨h1, h2, fun hp => ?_, fun hp => h4 (newo _ hp).1⟩
    rcases hp with hp | hp
    · exact h3 hp
    · exact h4 (hpo _ hp)

/-- Over an environment. -/
def frzE (id ep : Nat) (xs : List (List C)) : Env → Env
  | [] => []
  | (d, v) :: r => (d, frzV id ep xs v) :: frzE id ep xs r
theorem getE_frzE (id ep : Nat) (xs : List (List C)) (e : Env) : getE (frzE id ep xs e) = fun d => frzV id ep xs (getE e d) := by
  funext t
  induction e with
  | nil => rfl
  | cons p r ih =>
    obtain ⟨k, v⟩ := p
    simp only [frzE, getE]
    split
    · rfl
    · exact ih
theorem weakE_freeze {e : Env} {id ep esz : Nat} {ety : TypeId} {xs : List (List C)} (ho : st[id]? = some (.arr ety esz ep xs)) : WeakE cx e st (frzE id ep xs e) (st.set id .dead) := by
  unfold WeakE; rw [getE_frzE]; exact weak_freeze ho

/-! ### Strings behind bytes -/
def byTy (P : Program) (t : TypeId) : Option TypeId := match P.underlying t with
  | some (.slice e) => match P.info? e with
    | some i => match i.zero with
      | some (.int .u8 0) => if i.size = 1 ∧ i.bytes = 1 then some e else none
      | _ => none
    | none => none
  | _ => none
theorem byTy_spec {P : Program} {t e : TypeId} (h : byTy P t = some e) : ∃ i, P.underlying t = some (.slice e) ∧ P.info? e = some i ∧ i.zero = some (.int .u8 0) ∧ i.size = 1 ∧ i.bytes = 1 := by
  unfold byTy at h
  split at h
  case h_2 => cases h
  next e' hu =>
  split at h
  case h_2 => cases h
  next i hi =>
  split at h
  case h_2 => cases h
  next hz =>
  split at h
  case isFalse => cases h
  next hc =>
  injection h with h
  subst h
  exact ⟨i, hu, hi, hz, hc.1, hc.2⟩

theorem append_string_at {P : Program} {w : World} {t u ty e : TypeId} {i : TypeInfo} (ht : P.underlying t = some (.slice e)) (hu : P.underlying u = some .string) (hi : P.info? e = some i) (hz : i.zero = some (.int .u8 0))
    (hsize : i.size = 1) (hby : i.bytes = 1) (v : Value) (n : Nat) (xs : List Value) (hown : w.ownsRow 0 e 1 v n xs) (s : ByteArray) (hbytes : n + s.size ≤ 140737488355328) :
    ∃ v' w', (Builtin.append_ #[t, u] ty #[v, .string s]).run P w = .ok v' w' ∧ w'.ownsRow 0 e 1 v' (n + s.size) (xs ++ Lib.strCells s) ∧ w.grownBy w' v.ownBlock ∧
      (blkOf v' = none ∨ blkOf v' = blkOf v ∨ blkOf v' = some w.heap.size) := by
  obtain ⟨v', w', hr, h2, h3, h4⟩ := Lib.run_append_own_string (P := P) w 0 t u ty e i ht hu hi hz hsize hby v n xs hown s (by unfold maxLen; omega) hbytes (Nat.zero_le _)
  refine ⟨v', w', hr, h2, h3, ?_⟩
  rcases hown.2 with ⟨hv, hn⟩ | ⟨g, cap, cur, hv, _, hg, hnc, hcm, hcs, htk⟩
  · subst hv
    by_cases hs : s.size = 0
    · left; rw [h4.2 ⟨rfl, hs⟩]; rfl
    · have hr2 := run_append_nil_string (P := P) w t u ty e i (.int .u8 0) ht hu hi hz s (by omega) (by omega) (by rw [hby]; omega)
      rw [hr] at hr2
      injection hr2 with e1 e2
      right; right; rw [e1]; rfl
  · subst hv
    by_cases hroom : n + s.size ≤ cap
    · have hr2 := Lib.run_append_room_string (P := P) w t u ty e i ht hu hi hsize g n cap cur hg s hroom (by simp at hcs; omega)
      rw [hr] at hr2
      injection hr2 with e1 e2
      right; left; rw [e1]; rfl
    · have hr2 := Lib.run_append_grow_string (P := P) w t u ty e i (.int .u8 0) ht hu hi hz ⟨g, 0, none⟩ n cap xs (by rw [hsize]; simpa using hown.1) (hown.cells (g := g) rfl) s (by omega) (by omega) (by rw [hby]; exact growslice_fits (by omega) (by omega))
      rw [hr] at hr2
      injection hr2 with e1 e2
      right; right; rw [e1]; rfl

/-- A byte as a cell. -/
def byteC (b : UInt8) : List C := [.int .u8 b.toNat]
theorem strCells_rel {pers : Nat → Prop} {w : World} (s : ByteArray) : ∀ (i : Nat) c v, (s.data.toList.map byteC).flatten[i]? = some c → (Lib.strCells s)[i]? = some v → RelC pers w c v := by
  unfold Lib.strCells
  generalize s.data.toList = l
  induction l with
  | nil => intro i c v h; simp at h
  | cons b l ih =>
    intro i c v hc hv
    cases i with
    | zero => simp [byteC] at hc hv; subst hc hv; exact .int _ _
    | succ i => simp [byteC] at hc hv; exact ih i c v (by simpa [byteC] using hc) (by simpa using hv)

theorem s_appendStr {x y : Operand} {t u ety : TypeId} {id e esz : Nat} {xs : List (List C)} {l : List UInt8} (hx : opnd f x = .own id e) (ho : st[id]? = some (.arr ety esz e xs)) (hy : opnd f y = .c (.str l))
    (ht : byTy cx.P t = some ety) (hu : isStr cx.P u = true) (he1 : esz = 1) (hbig : xs.length + l.length ≤ 140737488355328) :
    OpSound cx (.call { callee := .builtin .append, args := #[x, y], argTypes := #[t, u] }) f st 2 ⟨.own id (e + 1), none, st.set id (.arr ety esz (e + 1) (xs ++ l.map byteC))⟩ := by
  refine ⟨fun o hop γ w gb ev h1 _ h3 _ => ?_, fun o _ => ⟨by simp, by simp⟩, by omega, by omega, by omega, by omega⟩
  rw [hop] at h3
  subst he1
  obtain ⟨i, hut, hi, hzz, hsz, hby⟩ := byTy_spec ht
  have hxv := opnd_plain (x := x) h3 (by simp [Op.operands, Call.operands]) hx rfl
  obtain ⟨s, hys, rfl, hsm⟩ := rel_str (opnd_plain (x := y) h3 (by simp [Op.operands, Call.operands]) hy rfl)
  obtain ⟨ll, vs, hloc, hxe, hep, hfix, hb2, hown, hlen, hrel⟩ := own_hdr h1 ho hxv
  have hss : s.data.toList.length = s.size := by simp
  rw [hss] at hbig
  have hvl : vs.length = xs.flatten.length := by rw [hown.1, flat_len hlen]
  obtain ⟨v', w', hr, h5, h6, hat⟩ := append_string_at (P := cx.P) (w := w) (ty := o.type) hut (isStr_spec hu) hi hzz hsz hby (ev x) xs.length vs hown s hbig
  rw [← hys] at hr
  rw [run_append hop, hr]
  rw [ownBlock_blkOf (ownsRow_slice hown), hxe] at h6
  rw [hxe] at hat
  have hf' : (⟨v', none, ll.epoch + 1⟩ : Loc).fix = false := by obtain ⟨a, n, c, rfl⟩ := ownsRow_slice h5; rfl
  have hpk : ∀ b, γ.pers b → w'.heap[b]? = w.heap[b]? := fun b hb => h6.block b (h1.plt b hb) fun he =>
    h1.apart b hb ⟨id, ll, hloc, by unfold Loc.blks; rw [← he]; simp⟩
  obtain ⟨hw', hev'⟩ := regrow (o' := .arr ety 1 (e + 1) (xs ++ s.data.toList.map byteC)) h1 hloc hb2 hfix hf' h6 (ownsRow_lt h5) hat
    ⟨rfl, by simp [hep], hf', vs ++ Lib.strCells s, by simpa using h5, fun q hq => (List.mem_append.1 hq).elim (hlen q) (fun h => by obtain ⟨b, _, rfl⟩ := List.mem_map.1 h; rfl),
      flatten_rel hvl (fun _ h => h) hpk hrel (strCells_rel s)⟩
  refine ⟨_, hev', hw', ?_, by simp⟩
  exact RelV.own id (e + 1) ⟨v', none, ll.epoch + 1⟩ v' (List.getElem?_set_self (lt_of_some hloc)) hf' (by simp [hep]) (by obtain ⟨a, n, c, rfl⟩ := ownsRow_slice h5; rfl) (fun _ => rfl)

/-- A builder: a struct of a pointer and a slice of its own. -/
theorem s_allocB {T : TypeId} (e : TypeId) (hz : zvOf cx.P T = some [.c .nilp, .c (.sl [])]) :
    OpSound cx (.alloc T) f st 2 ⟨.ptr (st.length + 1) 0, none, st ++ [.arr e 1 0 []] ++ [.tbox T [.c .nilp, .own st.length 0]]⟩ := by
  refine ⟨fun o hop γ w gb ev h1 _ _ _ => ?_, fun o _ => ⟨by simp, by simp⟩, by omega, by omega, by omega, by omega⟩
  obtain ⟨z, hz1, hz2⟩ := run_zero' (w := w) hz
  have hrun : (execOp ev o).run cx.P w = .ok (.value (.pointer (some ⟨w.heap.size, 0, none⟩))) (w.alloc (.cells z.cells T)) := by
    simp [execOp, hop, Instr.alloc, hz1, newVar, newRow]
  rw [hrun]
  obtain ⟨a, b, hzc, hza, hzb⟩ : ∃ a b, z.cells.toList = [a, b] ∧ constV a = .c .nilp ∧ constV b = .c (.sl []) := by
    match hzl : z.cells.toList, hz2 with
    | [], hz2 => simp at hz2
    | [_], hz2 => simp at hz2
    | [a, b], hz2 => simp at hz2; exact ⟨a, b, rfl, hz2.1, hz2.2⟩
    | _ :: _ :: _ :: _, hz2 => simp at hz2
  have ha : a = .pointer none := by
    unfold constV at hza
    split at hza <;> first | rfl | (simp at hza; done) | (split at hza <;> simp at hza)
  have hb : b = .slice none 0 0 := by
    unfold constV at hzb
    split at hzb <;> first | rfl | (simp at hzb; done) | (split at hzb <;> simp at hzb)
  subst ha hb
  have hw : ∀ b, b < w.heap.size → (w.alloc (.cells z.cells T)).heap[b]? = w.heap[b]? := fun b hb => heap_alloc_old w _ b hb
  let l1 : Loc := ⟨.slice none 0 0, none, 0⟩
  let l2 : Loc := ⟨.pointer (some ⟨w.heap.size, 0, none⟩), none, 0⟩
  have hp1 : RelW (γ.push l1) (st ++ [.arr e 1 0 []]) w := h1.push (Nat.le_refl _) (fun _ _ => rfl) (by intro b hb; cases hb) (by simp [l1, Loc.blks, blkOf]) ⟨rfl, rfl, rfl, [], World.ownsRow_nil _ _ _ _, by simp, by simp⟩
  have hbl : l2.blks = [w.heap.size] := rfl
  have hl1 : (γ.push l1).locs[st.length]? = some l1 := push_get.2 (.inr ⟨h1.len.symm, rfl⟩)
  have hp2 : RelW ((γ.push l1).push l2) (st ++ [.arr e 1 0 []] ++ [.tbox T [.c .nilp, .own st.length 0]]) (w.alloc (.cells z.cells T)) := by
    refine hp1.push (by simp) hw (by rw [hbl]; simp) (by rw [hbl]; simp) ⟨rfl, w.heap.size, z.cells, rfl, heap_alloc_at w _, ?_⟩
    have hcs : z.cells = #[.pointer none, .slice none 0 0] := by apply Array.ext'; rw [hzc]
    refine ⟨by rw [hcs]; rfl, fun i v x hi hx => ?_⟩
    rw [hcs] at hx
    match i, hi, hx with
    | 0, hi, hx => simp at hi hx; subst hi hx; exact ⟨.c _ _ .nilp, rfl⟩
    | 1, hi, hx =>
      simp at hi hx
      subst hi hx
      exact ⟨RelV.own st.length 0 l1 _ (push_get.2 (.inl hl1)) rfl (Nat.zero_le _) rfl (fun _ => rfl), rfl⟩
    | i + 2, hi, hx => simp at hi
  refine ⟨(γ.push l1).push l2, ⟨rfl, rfl, rfl, rfl, by simp, fun b hb _ _ => hw b hb, fun _ h => h, fun b hb _ => .inl hb, fun b hb hlt => ?_, (locsKept_push γ l1 _).trans (locsKept_push _ l2 _)⟩, hp2, ?_, by simp⟩
  · rcases owns_push.1 hb with h2 | h2
    · rcases owns_push.1 h2 with h3 | h3
      · exact h3
      · cases h3
    · rw [hbl] at h2; simp at h2; omega
  · refine RelV.ptr (st.length + 1) 0 w.heap.size l2 (push_get.2 (.inr ⟨?_, rfl⟩)) rfl
    simp [Gh.push, h1.len]
/-- A slice's variable in a box, its array of its own from the start. -/
theorem s_allocO {T : TypeId} (e : TypeId) (esz : Nat) (hz : zvOf cx.P T = some [.c (.sl [])]) :
    OpSound cx (.alloc T) f st 2 ⟨.ptr (st.length + 1) 0, none, st ++ [.arr e esz 0 []] ++ [.box [.own st.length 0]]⟩ := by
  refine ⟨fun o hop γ w gb ev h1 _ _ _ => ?_, fun o _ => ⟨by simp, by simp⟩, by omega, by omega, by omega, by omega⟩
  obtain ⟨z, hz1, hz2⟩ := run_zero' (w := w) hz
  have hrun : (execOp ev o).run cx.P w = .ok (.value (.pointer (some ⟨w.heap.size, 0, none⟩))) (w.alloc (.cells z.cells T)) := by
    simp [execOp, hop, Instr.alloc, hz1, newVar, newRow]
  rw [hrun]
  obtain ⟨b, hzc, hzb⟩ : ∃ b, z.cells.toList = [b] ∧ constV b = .c (.sl []) := by
    match hzl : z.cells.toList, hz2 with
    | [], hz2 => simp at hz2
    | [b], hz2 => simp at hz2; exact ⟨b, rfl, hz2⟩
    | _ :: _ :: _, hz2 => simp at hz2
  have hb : b = .slice none 0 0 := by
    unfold constV at hzb
    split at hzb <;> first | rfl | (simp at hzb; done) | (split at hzb <;> simp at hzb)
  subst hb
  have hw : ∀ b, b < w.heap.size → (w.alloc (.cells z.cells T)).heap[b]? = w.heap[b]? := fun b hb => heap_alloc_old w _ b hb
  let l1 : Loc := ⟨.slice none 0 0, none, 0⟩
  let l2 : Loc := ⟨.pointer (some ⟨w.heap.size, 0, none⟩), none, 0⟩
  have hp1 : RelW (γ.push l1) (st ++ [.arr e esz 0 []]) w := h1.push (Nat.le_refl _) (fun _ _ => rfl) (by intro b hb; cases hb) (by simp [l1, Loc.blks, blkOf]) ⟨rfl, rfl, rfl, [], World.ownsRow_nil _ _ _ _, by simp, by simp⟩
  have hbl : l2.blks = [w.heap.size] := rfl
  have hl1 : (γ.push l1).locs[st.length]? = some l1 := push_get.2 (.inr ⟨h1.len.symm, rfl⟩)
  have hp2 : RelW ((γ.push l1).push l2) (st ++ [.arr e esz 0 []] ++ [.box [.own st.length 0]]) (w.alloc (.cells z.cells T)) := by
    refine hp1.push (by simp) hw (by rw [hbl]; simp) (by rw [hbl]; simp) ⟨rfl, w.heap.size, z.cells, T, rfl, heap_alloc_at w _, ?_⟩
    have hcs : z.cells = #[.slice none 0 0] := by apply Array.ext'; rw [hzc]
    refine ⟨by rw [hcs]; rfl, fun i v x hi hx => ?_⟩
    rw [hcs] at hx
    match i, hi, hx with
    | 0, hi, hx =>
      simp at hi hx
      subst hi hx
      exact ⟨RelV.own st.length 0 l1 _ (push_get.2 (.inl hl1)) rfl (Nat.zero_le _) rfl (fun _ => rfl), rfl⟩
    | i + 1, hi, hx => simp at hi
  refine ⟨(γ.push l1).push l2, ⟨rfl, rfl, rfl, rfl, by simp, fun b hb _ _ => hw b hb, fun _ h => h, fun b hb _ => .inl hb, fun b hb hlt => ?_, (locsKept_push γ l1 _).trans (locsKept_push _ l2 _)⟩, hp2, ?_, by simp⟩
  · rcases owns_push.1 hb with h2 | h2
    · rcases owns_push.1 h2 with h3 | h3
      · exact h3
      · cases h3
    · rw [hbl] at h2; simp at h2; omega
  · refine RelV.ptr (st.length + 1) 0 w.heap.size l2 (push_get.2 (.inr ⟨?_, rfl⟩)) rfl
    simp [Gh.push, h1.len]
end
end Go.L1
namespace Go.L1
open Go

section
variable {cx : Cx} {f : Fenv} {st : List SO}

def isPtr (P : Program) (t : TypeId) : Bool := match P.underlying t with
  | some (.pointer e) => (P.info? e).isSome
  | _ => false
theorem isPtr_spec {P : Program} {t : TypeId} (h : isPtr P t = true) : ∃ e j, P.underlying t = some (.pointer e) ∧ P.info? e = some j := by
  unfold isPtr at h
  split at h
  · next e he =>
    obtain ⟨j, hj⟩ := Option.isSome_iff_exists.1 h
    exact ⟨e, j, he, hj⟩
  · cases h

def nilPtrV : V → Option Bool
  | .c .nilp => some true
  | .ptr _ _ => some false
  | _ => none
theorem nilPtrV_eq {P : Program} {γ : Gh} {w : World} {v : V} {x : Value} {b : Bool} {t : TypeId} (ht : isPtr P t = true) (h : nilPtrV v = some b) (hx : RelV γ w v x) (d : Nat) :
    (Op.equalIn (d + 1) t x (.pointer none)).run P w = .ok b w := by
  obtain ⟨e, j, hu, hj⟩ := isPtr_spec ht
  unfold nilPtrV at h
  split at h
  · injection h with h; subst h
    cases hx with | c _ _ h => cases h; simp [Op.equalIn, run_underlying hu]
  · injection h with h; subst h
    cases hx; simp [Op.equalIn, run_underlying hu]
  · cases h
theorem nilPtrV_spec {P : Program} {γ : Gh} {w : World} {v : V} {x : Value} {b : Bool} {t : TypeId} (ht : isPtr P t = true) (h : nilPtrV v = some b) (hx : RelV γ w v x) :
    (Op.equal t x (.pointer none)).run P w = .ok b w ∧ ((∀ vs, x ≠ .agg vs) ∧ x ≠ .nilIface) ∧ (binOp .eql t x (.pointer none) = do return .bool (← Op.equal t x (.pointer none))) ∧
      (binOp .neq t x (.pointer none) = do return .bool (!(← Op.equal t x (.pointer none)))) := by
  refine ⟨nilPtrV_eq ht h hx 9999, ?_⟩
  unfold nilPtrV at h
  split at h
  · cases hx with | c _ _ h => cases h; exact ⟨by simp, rfl, rfl⟩
  · cases hx; exact ⟨by simp, rfl, rfl⟩
  · cases h

theorem rel_nilp {γ : Gh} {w : World} {x : Value} (h : RelV γ w (.c .nilp) x) : x = .pointer none := by cases h with | c _ _ h => cases h; rfl

theorem s_eqNilPtr {t t' : TypeId} {x y : Operand} {v : V} {b : Bool} (hx : opnd f x = v) (hp : plainV v = true) (hy : opnd f y = .c .nilp) (ht : isPtr cx.P t = true) (hb : nilPtrV v = some b) :
    OpSound cx (.binOp .eql t x y t') f st 0 ⟨.c (.bool b), none, st⟩ :=
  sound_plain rfl fun oo hop st γ w gb ev _ _ h3 _ => by
    have h1 := opnd_plain (x := x) h3 (by simp [Op.operands]) hx hp
    have h2 := rel_nilp (opnd_plain (x := y) h3 (by simp [Op.operands]) hy rfl)
    obtain ⟨k1, k2, k3, k4⟩ := nilPtrV_spec (P := cx.P) ht hb h1
    refine ⟨.bool b, ?_, .c _ _ (.bool _)⟩
    have hg := eqGuard_none (P := cx.P) (w := w) (op := .eql) (t := t) (xo := x) (yo := y) (x := ev x) (y := ev y) k2
    rw [h2] at hg
    simp only [execOp, hop, Sem.run_bind, hg, h2, k3, Result.andThen_ok, k1, Sem.run_pure]
theorem s_neqNilPtr {t t' : TypeId} {x y : Operand} {v : V} {b : Bool} (hx : opnd f x = v) (hp : plainV v = true) (hy : opnd f y = .c .nilp) (ht : isPtr cx.P t = true) (hb : nilPtrV v = some b) :
    OpSound cx (.binOp .neq t x y t') f st 0 ⟨.c (.bool (!b)), none, st⟩ :=
  sound_plain rfl fun oo hop st γ w gb ev _ _ h3 _ => by
    have h1 := opnd_plain (x := x) h3 (by simp [Op.operands]) hx hp
    have h2 := rel_nilp (opnd_plain (x := y) h3 (by simp [Op.operands]) hy rfl)
    obtain ⟨k1, k2, k3, k4⟩ := nilPtrV_spec (P := cx.P) ht hb h1
    refine ⟨.bool (!b), ?_, .c _ _ (.bool _)⟩
    have hg := eqGuard_none (P := cx.P) (w := w) (op := .neq) (t := t) (xo := x) (yo := y) (x := ev x) (y := ev y) k2
    rw [h2] at hg
    simp only [execOp, hop, Sem.run_bind, hg, h2, k4, Result.andThen_ok, k1, Sem.run_pure]

theorem s_neqSame {t t' : TypeId} {x y : Operand} {id off : Nat} (hx : opnd f x = .ptr id off) (hy : opnd f y = .ptr id off) (ht : isPtr cx.P t = true) :
    OpSound cx (.binOp .neq t x y t') f st 0 ⟨.c (.bool false), none, st⟩ :=
  sound_plain rfl fun oo hop st γ w gb ev _ _ h3 _ => by
    have h1 := opnd_plain (x := x) h3 (by simp [Op.operands]) hx rfl
    have h2 := opnd_plain (x := y) h3 (by simp [Op.operands]) hy rfl
    obtain ⟨e, j, hu, hj⟩ := isPtr_spec ht
    generalize hvx : ev x = vx at h1
    generalize hvy : ev y = vy at h2
    cases h1 with
    | ptr _ _ b l hl hb =>
      cases h2 with
      | ptr _ _ b' l' hl' hb' =>
        have : l' = l := Option.some.inj (hl'.symm.trans hl)
        subst this
        rw [hb] at hb'
        simp at hb'
        subst hb'
        have hr := Lib.run_neq_ptr_same (P := cx.P) w ⟨b, off, none⟩ hu hj
        refine ⟨.bool false, ?_, .c _ _ (.bool _)⟩
        have hg := eqGuard_none (P := cx.P) (w := w) (op := .neq) (t := t) (xo := x) (yo := y) (x := .pointer (some ⟨b, off, none⟩)) (y := .pointer (some ⟨b, off, none⟩)) (by simp)
        simp only [execOp, hop, Sem.run_bind, hvx, hvy, hg, Result.andThen_ok, hr, Sem.run_pure]

/-! ### Bytes as strings, in place -/
def toUns (P : Program) (src dst : TypeId) : Bool := match P.underlying src, P.underlying dst with
  | some (.pointer t), some .unsafePointer => match P.info? t with
    | some j => j.size != 0
    | none => false
  | _, _ => false
def fromUns (P : Program) (src dst T : TypeId) (n : Nat) : Bool := match P.underlying src, P.underlying dst with
  | some .unsafePointer, some (.pointer u) => (P.info? u).isSome && liesAt P P.depth T (n / P.cellsOf T) 0 u 1
  | _, _ => false

theorem s_toUns {src dst T : TypeId} {x : Operand} {id : Nat} {cs : List V} (hx : opnd f x = .ptr id 0) (hs : st[id]? = some (.tbox T cs)) (hc : 0 < cs.length) (ht : toUns cx.P src dst = true) :
    OpSound cx (.convert src dst x) f st 1 ⟨.ptr id 0, none, st⟩ :=
  sound_read rfl fun oo hop γ w gb ev h1 _ h3 _ => by
    have h := opnd_plain (x := x) h3 (by simp [Op.operands]) hx rfl
    generalize hvx : ev x = vx at h
    cases h with
    | ptr _ _ b l hl hb =>
      obtain ⟨_, b', vs, hb', hh, hrow⟩ := h1.objs id l _ hl hs
      rw [hb] at hb'
      simp at hb'
      subst hb'
      unfold toUns at ht
      split at ht
      case h_2 => cases ht
      next t hu hd =>
      split at ht
      case h_2 => cases ht
      next j hj =>
      have hr := Lib.run_to_unsafe (P := cx.P) w ⟨b, 0, none⟩ hu hd hj (by simpa using ht) (e := T) (cells := vs.size) (by simp [World.shape?, hh]) (by rw [hrow.1]; exact hc)
      exact ⟨_, by simp [execOp, hop, hvx, hr], .ptr id 0 b l hl hb⟩
theorem s_fromUns {src dst T : TypeId} {x : Operand} {id : Nat} {cs : List V} (hx : opnd f x = .ptr id 0) (hs : st[id]? = some (.tbox T cs)) (ht : fromUns cx.P src dst T cs.length = true) :
    OpSound cx (.convert src dst x) f st 1 ⟨.ptr id 0, none, st⟩ :=
  sound_read rfl fun oo hop γ w gb ev h1 _ h3 _ => by
    have h := opnd_plain (x := x) h3 (by simp [Op.operands]) hx rfl
    generalize hvx : ev x = vx at h
    cases h with
    | ptr _ _ b l hl hb =>
      obtain ⟨_, b', vs, hb', hh, hrow⟩ := h1.objs id l _ hl hs
      rw [hb] at hb'
      simp at hb'
      subst hb'
      unfold fromUns at ht
      split at ht
      case h_2 => cases ht
      next u hu hd =>
      rw [Bool.and_eq_true] at ht
      obtain ⟨j, hj⟩ := Option.isSome_iff_exists.1 ht.1
      have hr := Lib.run_from_unsafe (P := cx.P) w ⟨b, 0, none⟩ hu hd hj (e := T) (cells := vs.size) (by simp [World.shape?, hh]) (by rw [hrow.1]; exact ht.2)
      exact ⟨_, by simp [execOp, hop, hvx, hr], .ptr id 0 b l hl hb⟩

/-- internal/abi.NoEscape. -/
def NoEsc (P : Program) (g : FuncId) : Prop := ∃ fn, P.funcs[g]? = some fn ∧ (fn.name == "runtime.NumGoroutine") = false ∧ fn.body.isNone = true ∧ Extern.findNext fn = none ∧ Extern.find fn = some Extern.AbiNoEscape.same
theorem s_noEsc {fo x : Operand} {ts : Array TypeId} {g : FuncId} {v : V} (hf : opnd f fo = .c (.fn g)) (hx : opnd f x = v) (hp : plainV v = true) (hg : NoEsc cx.P g) :
    OpSound cx (.call { callee := .value fo, args := #[x], argTypes := ts }) f st 0 ⟨v, none, st⟩ :=
  sound_plain hp fun oo hop st γ w gb ev _ _ h3 _ => by
    have h := opnd_plain (x := x) h3 (by simp [Op.operands, Call.operands]) hx hp
    have h2 : ev fo = .func (.func g) #[] #[] := by
      have h2 := opnd_plain (x := fo) h3 (by simp [Op.operands, Call.operands]) hf rfl
      generalize ev fo = z at h2
      cases h2 with | c _ _ h => cases h; rfl
    obtain ⟨fn, k1, k2, k3, k4, k5⟩ := hg
    refine ⟨ev x, ?_, h⟩
    have hr := run_callFunc_extern k1 k2 k3 k4 k5 #[ev x] w
    rw [Lib.run_noEscape] at hr
    simp [execOp, hop, resolve, h2, Deferred.ofValue, invoke, hr]

/-- Bytes, exactly. -/
def unB : List C → Option UInt8
  | [.int .u8 n] => if 0 ≤ n ∧ n < 256 then some (UInt8.ofNat n.toNat) else none
  | _ => none
theorem unB_byteC (b : UInt8) : unB (byteC b) = some b := by
  have h : b.toNat < 256 := b.toNat_lt
  simp [unB, byteC]
  omega
theorem mapM_unB (l : List UInt8) : (l.map byteC).mapM unB = some l := by
  induction l with
  | nil => rfl
  | cons a l ih => rw [List.map_cons, List.mapM_cons, unB_byteC, ih]; rfl
theorem unB_inv {x : List C} {b : UInt8} (h : unB x = some b) : x = byteC b := by
  unfold unB at h
  split at h
  · next n =>
    split at h
    · next hn =>
      injection h with h
      subst h
      have : (UInt8.ofNat n.toNat).toNat = n.toNat := by simp; omega
      simp only [byteC, this]
      rw [Int.toNat_of_nonneg hn.1]
    · cases h
  · cases h
theorem mapM_unB_inv : ∀ (xs : List (List C)) (l : List UInt8), xs.mapM unB = some l → xs = l.map byteC
  | [], l, h => by simp at h; subst h; rfl
  | x :: xs, l, h => by
    rw [List.mapM_cons] at h
    simp only [Option.bind_eq_bind, Option.bind_eq_some_iff, Option.pure_def, Option.some.injEq] at h
    obtain ⟨b, hb, l', hl', rfl⟩ := h
    rw [unB_inv hb, mapM_unB_inv xs l' hl']; rfl

theorem run_sd {P : Program} {w : World} {o : Oper} {ev : Operand → Value} {x : Operand} {ts : Array TypeId} (ho : o.op = .call { callee := .builtin .unsafeSliceData, args := #[x], argTypes := ts }) :
    (execOp ev o).run P w = ((Builtin.unsafeSliceData_ ts o.type #[ev x]).run P w).andThen fun v w => .ok (.value v) w := by
  simp [execOp, ho, resolve, invoke, builtin]
theorem run_us {P : Program} {w : World} {o : Oper} {ev : Operand → Value} {x y : Operand} {ts : Array TypeId} (ho : o.op = .call { callee := .builtin .unsafeString, args := #[x, y], argTypes := ts }) :
    (execOp ev o).run P w = ((Builtin.unsafeString_ ts o.type #[ev x, ev y]).run P w).andThen fun v w => .ok (.value v) w := by
  simp [execOp, ho, resolve, invoke, builtin]

theorem s_sliceData {x : Operand} {ts : Array TypeId} {ety : TypeId} {id e esz : Nat} {xs : List (List C)} (hx : opnd f x = .own id e) (ho : st[id]? = some (.arr ety esz e xs)) (hn : xs ≠ []) :
    OpSound cx (.call { callee := .builtin .unsafeSliceData, args := #[x], argTypes := ts }) f st 1 ⟨.odp id e, none, st⟩ :=
  sound_read rfl fun oo hop γ w gb ev h1 _ h3 _ => by
    have h := opnd_plain (x := x) h3 (by simp [Op.operands, Call.operands]) hx rfl
    obtain ⟨l, vs, hloc, hxe, hep, hfix, hb2, hown, hlen, hrel⟩ := own_hdr h1 ho h
    rcases hown.2 with ⟨_, h0⟩ | ⟨g, cap, cur, hv, _, _, hnc, _⟩
    · exact absurd (List.eq_nil_of_length_eq_zero h0) hn
    · have hpos : 0 < xs.length := List.length_pos_iff.2 hn
      refine ⟨.pointer (some ⟨g, 0, none⟩), ?_, .odp id e l _ hloc hfix (by omega) rfl fun _ => ⟨_, rfl, fun g' n c hl _ => ?_⟩⟩
      · rw [run_sd hop]
        have hr := Lib.run_unsafeSliceData_row (P := cx.P) (w := w) ts oo.type ⟨g, 0, none⟩ xs.length cap (by omega)
        simp [hv, hr]
      · rw [← hxe, hv] at hl
        injection hl with h5 h6 h7

def isPtrTo (P : Program) (t e : TypeId) : Bool := match P.underlying t with
  | some (.pointer e') => e' == e && P.cellsOf e == 1
  | _ => false

theorem heap_freeze (w : World) (a : Addr) (n k : Nat) (h : k ≠ a.block) : (w.freeze a n).heap[k]? = w.heap[k]? := by
  unfold World.freeze
  split
  · rfl
  · simp only [Array.getElem?_modify]
    rw [if_neg (Ne.symm h)]
theorem heap_freeze_size (w : World) (a : Addr) (n : Nat) : (w.freeze a n).heap.size = w.heap.size := by
  unfold World.freeze
  split <;> simp

theorem s_unsafeStr {p n : Operand} {pt it ety : TypeId} {id e esz : Nat} {m : Int} {xs : List (List C)} {bs : List UInt8} (hp : opnd f p = .odp id e) (hn : opnd f n = .c (.int .i64 m))
    (ho : st[id]? = some (.arr ety esz e xs)) (hm : m = xs.length) (hne : xs ≠ []) (hb : xs.mapM unB = some bs) (ht : isPtrTo cx.P pt ety = true) (hbig : xs.length ≤ maxLen) (he1 : esz = 1) :
    OpSound cx (.call { callee := .builtin .unsafeString, args := #[p, n], argTypes := #[pt, it] }) f st 2 ⟨.c (.str bs), none, st.set id .dead⟩ := by
  refine ⟨fun o hop γ w gb ev h1 _ h3 _ => ?_, fun o _ => ⟨by simp, by simp⟩, by omega, by omega, by omega, by omega⟩
  rw [hop] at h3
  subst he1 hm
  have hxs := mapM_unB_inv _ _ hb
  have hpv := opnd_plain (x := p) h3 (by simp [Op.operands, Call.operands]) hp rfl
  have hnv := rel_int (opnd_plain (x := n) h3 (by simp [Op.operands, Call.operands]) hn rfl)
  generalize hvp : ev p = vp at hpv
  cases hpv with
  | odp _ _ l _ hloc hfix hle hone hhdr =>
    obtain ⟨hb2, hep, hfix2, vs, hown, hlen, hrel⟩ := h1.objs id l _ hloc ho
    obtain ⟨q, rfl, hq⟩ := hhdr hep
    have hpos : 0 < xs.length := List.length_pos_iff.2 hne
    rcases hown.2 with ⟨_, h0⟩ | ⟨g, cap, cur, hv, _, hh, hnc, hcm, hcs, htk⟩
    · omega
    · have hqg := hq g _ _ hv hpos
      subst hqg
      unfold isPtrTo at ht
      split at ht
      case h_2 => cases ht
      next e' hu =>
      simp only [Bool.and_eq_true, beq_iff_eq] at ht
      obtain ⟨rfl, hc1⟩ := ht
      have hbl : bs.length = xs.length := by rw [hxs]; simp
      have hr := Lib.run_unsafeString_row (P := cx.P) w pt it o.type e' hu hc1 g cur.size (by simp [World.shape?, hh]) bs (by intro h; rw [h] at hbl; simp at hbl; omega) (by rw [hbl, hcs]; omega)
        (by rw [hbl]; unfold maxLen at hbig; omega) (fun j x hj => by
          have hj' : j < vs.length := by rw [hown.1, ← hbl]; have := lt_of_some hj; omega
          have hv1 := hrel j (.int .u8 x.toNat) vs[j] (by
            rw [hxs]
            have : ∀ (l : List UInt8) (j : Nat) x, l[j]? = some x → (l.map byteC).flatten[j]? = some (C.int .u8 x.toNat) := by
              intro l
              induction l with
              | nil => intro j x h; simp at h
              | cons a l ih =>
                intro j x h
                cases j with
                | zero => simp at h; subst h; simp [byteC]
                | succ j => simp only [List.getElem?_cons_succ] at h; simpa [byteC] using ih j x h
            exact this bs j x hj) (List.getElem?_eq_getElem hj')
          have hv2 : vs[j] = .int .u8 x.toNat := by
            generalize vs[j] = y at hv1
            cases hv1; rfl
          have := hown.cells (g := g) (by rw [hv]; rfl) j _ (List.getElem?_eq_getElem hj')
          rw [this, hv2])
      rw [hbl] at hr
      have hrun : (execOp ev o).run cx.P w = .ok (.value (.string ⟨bs.toArray⟩)) (w.freeze ⟨g, 0, none⟩ xs.length) := by
        rw [run_us hop]
        simp [hvp, hnv, hr]
      rw [hrun]
      have hblk : blkOf l.hdr = some g := by rw [hv]; rfl
      have hgr : w.grownBy (w.freeze ⟨g, 0, none⟩ xs.length) (blkOf l.hdr) := by
        refine ⟨by unfold World.freeze; split <;> rfl, by unfold World.freeze; split <;> rfl, by unfold World.freeze; split <;> rfl, by rw [heap_freeze_size]; exact Nat.le_refl _, fun k _ hk => heap_freeze _ _ _ _ ?_⟩
        intro he
        exact hk (by rw [hblk, he])
      obtain ⟨hw', hev'⟩ := regrow (v' := l.hdr) (o' := .dead) h1 hloc hb2 hfix (by rw [hv]; rfl) hgr (fun b hb => by
        rw [heap_freeze_size]; exact ownsRow_lt hown b hb) (.inr (.inl rfl)) trivial
      refine ⟨_, hev', hw', ?_, by simp⟩
      have : RelC (Gh.pers { γ with locs := γ.locs.set id ⟨l.hdr, none, l.epoch + 1⟩ }) (w.freeze ⟨g, 0, none⟩ xs.length) (.str bs) (.string ⟨bs.toArray⟩) := by
        have h5 := RelC.str (pers := Gh.pers { γ with locs := γ.locs.set id ⟨l.hdr, none, l.epoch + 1⟩ }) (w := w.freeze ⟨g, 0, none⟩ xs.length) ⟨bs.toArray⟩ (by simp [ByteArray.size]; omega)
        simpa using h5
      exact RelV.c _ _ this

/-! ### Package variables -/
def HasG (G : World → Prop) (g : Nat) : Prop := ∀ w, G w → g < w.heap.size ∧ ∃ x, w.cell? ⟨g, 0, none⟩ = some x
theorem s_loadG {t : TypeId} {g : Nat} (ht : agOf cx.P t = some false) (hg : HasG cx.G g) : OpSound cx (.load t (.global g)) f st 0 ⟨.gv g, none, st⟩ :=
  sound_plain rfl fun oo hop st γ w gb ev h1 h2 h3 _ => by
    have hx : ev (.global g) = .pointer (some ⟨g, 0, none⟩) := h3 (.global g) (by simp [Op.operands])
    obtain ⟨hlt, x, hc⟩ := hg _ h2
    obtain ⟨hp, hh⟩ := h1.base g hlt
    have hc' : w.cell? ⟨g, 0, none⟩ = some x := by rw [cell_of_heap (w := γ.base) hh]; exact hc
    have hr := run_loadVar_one (P := cx.P) (w := w) ht hc'
    exact ⟨x, by simp [execOp, hop, hx, Instr.loadAt, Instr.sureAddr, hr], .gv g x hp hc'⟩

/-- What a look-up in the map at a package variable tells. -/
def LookG (P : Program) (G : World → Prop) (g : Nat) (t : TypeId) (f : Int → Bool × List C) : Prop :=
  ∀ B w, G B → (∀ b, b < B.heap.size → w.heap[b]? = B.heap[b]?) → ∀ x, B.cell? ⟨g, 0, none⟩ = some x → ∀ n : Int, (Lit.int .i64 n).wf = true →
    ∃ vs : Array Value, (Instr.lookup t x (.int .i64 n) true).run P w = .ok (.tuple #[.agg vs, .bool (f n).1]) w ∧ vs.size = (f n).2.length ∧
      ∀ (i : Nat) c v, (f n).2[i]? = some c → vs[i]? = some v → RelC (fun _ => False) w c v
theorem s_lookG {t : TypeId} {m k : Operand} {g : Nat} {n : Int} {fn : Int → Bool × List C} (hm : opnd f m = .gv g) (hk : opnd f k = .c (.int .i64 n)) (hg : HasG cx.G g) (hn : (Lit.int .i64 n).wf = true)
    (hl : LookG cx.P cx.G g t fn) : OpSound cx (.lookup t m k true) f st 0 ⟨.tup [.agg ((fn n).2.map .c), .c (.bool (fn n).1)], none, st⟩ :=
  sound_plain rfl fun oo hop st γ w gb ev h1 h2 h3 _ => by
    have hx := opnd_plain (x := m) h3 (by simp [Op.operands]) hm rfl
    have hkv := rel_int (opnd_plain (x := k) h3 (by simp [Op.operands]) hk rfl)
    obtain ⟨hlt, x, hc⟩ := hg _ h2
    obtain ⟨hp, hh⟩ := h1.base g hlt
    have hxe : ev m = x := by
      generalize ev m = y at hx
      cases hx with
      | gv _ _ _ hc' =>
        rw [cell_of_heap (w := γ.base) hh, hc] at hc'
        exact (Option.some.inj hc').symm
    obtain ⟨vs, hr, hs, hrel⟩ := hl γ.base w h2 (fun b hb => (h1.base b hb).2) x hc n hn
    refine ⟨.tuple #[.agg vs, .bool (fn n).1], by simp [execOp, hop, hxe, hkv, hr], .tup _ _ rfl fun i v y hi hy => ?_⟩
    match i, hi, hy with
    | 0, hi, hy =>
      simp at hi hy
      subst hi hy
      refine .agg _ _ (by simpa using hs) fun j u z hj hz => ?_
      rw [List.getElem?_map] at hj
      cases hc' : (fn n).2[j]? with
      | none => rw [hc'] at hj; cases hj
      | some c =>
        rw [hc'] at hj
        simp only [Option.map_some, Option.some.injEq] at hj
        subst hj
        exact .c _ _ ((hrel j c z hc' hz).mono (fun _ h => h.elim) (fun _ h => h.elim))
    | 1, hi, hy => simp at hi hy; subst hi hy; exact .c _ _ (.bool _)
    | i + 2, hi, hy => simp at hi
end
end Go.L1
