/-
  Walks: strings.Builder, the encoding of numbers and strings.
  Walks: the encoding of numbers, strings and lists.
-/
import Derived.Test.YthkmfboffnhkaaaGreatDoorSP
import Derived.Test.YthkmfboffnhkaaaGreatDoorTB
set_option linter.all false
namespace Go.Proofs.YthkmfboffnhkaaaGreatDoor
attribute [local simp] pstrings_Builder_copyCheck_R0 pstrings_Builder_copyCheck_R1 pstrings_Builder_copyCheck_R2 pstrings_Builder_copyCheck_L pstrings_Builder_copyCheck_ks pstrings_Builder_WriteString_R0 pstrings_Builder_WriteString_R1 pstrings_Builder_WriteString_R2 pstrings_Builder_WriteString_R3 pstrings_Builder_WriteString_L pstrings_Builder_WriteString_ks pstrings_Builder_WriteByte_R0 pstrings_Builder_WriteByte_R1 pstrings_Builder_WriteByte_R2 pstrings_Builder_WriteByte_R3 pstrings_Builder_WriteByte_L pstrings_Builder_WriteByte_ks pstrings_Builder_Len_R0 pstrings_Builder_Len_R1 pstrings_Builder_Len_L pstrings_Builder_Len_ks pstrings_Builder_String_R0 pstrings_Builder_String_R1 pstrings_Builder_String_L pstrings_Builder_String_ks code_write_string_R0 code_write_string_R1 code_write_string_R2 code_write_string_R3 code_write_string_R4 code_write_string_R5 code_write_string_R6 code_write_string_B1 code_write_string_R7 code_write_string_W1 code_write_string_B0 code_write_string_R8 code_write_string_L code_write_string_ks code_List_R0 code_List_R1 code_List_L code_List_ks act_box_R0 act_box_R1 act_box_L act_box_ks pitem_builder_nums_R0 pitem_builder_nums_R1 pitem_builder_nums_R2 pitem_builder_nums_R3 pitem_builder_nums_B1 pitem_builder_nums_R4 pitem_builder_nums_W1 pitem_builder_nums_B0 pitem_builder_nums_L pitem_builder_nums_ks
open Go Go.L1
set_option maxRecDepth 100000

theorem uns_to : toUns Tryz.prog 211 282 = true := by kernel_rfl
theorem uns_213 : fromUns Tryz.prog 282 211 213 2 = true := by kernel_rfl
theorem uns_215 : fromUns Tryz.prog 282 211 215 2 = true := by kernel_rfl

/-- A builder in the store: its bytes so far. -/
structure IsBld (st : List SO) (id aid ep : Nat) (T : TypeId) (bs : List UInt8) : Prop where
  box : ∃ p, (p = .c .nilp ∨ p = .ptr id 0) ∧ st[id]? = some (.tbox T [p, .own aid ep])
  arr : st[aid]? = some (.arr 5 1 ep (bs.map byteC))
  ne : aid ≠ id
  ty : T = 213 ∨ T = 215
def bldSet (st : List SO) (id aid ep : Nat) (T : TypeId) (bs : List UInt8) : List SO := (st.set aid (.arr 5 1 ep (bs.map byteC))).set id (.tbox T [.ptr id 0, .own aid ep])
theorem IsBld.lt {st : List SO} {id aid ep : Nat} {T : TypeId} {bs : List UInt8} (h : IsBld st id aid ep T bs) : id < st.length ∧ aid < st.length := by
  obtain ⟨p, _, h1⟩ := h.box
  exact ⟨lt_of_some h1, lt_of_some h.arr⟩
theorem IsBld.set {st : List SO} {id aid ep ep' : Nat} {T : TypeId} {bs bs' : List UInt8} (h : IsBld st id aid ep T bs) : IsBld (bldSet st id aid ep' T bs') id aid ep' T bs' := by
  obtain ⟨h1, h2⟩ := h.lt
  refine ⟨⟨.ptr id 0, .inr rfl, by unfold bldSet; rw [List.getElem?_set_self (by simpa [-getElem?_pos] using h1)]⟩, ?_, h.ne, h.ty⟩
  unfold bldSet
  rw [List.getElem?_set_ne (Ne.symm h.ne), List.getElem?_set_self h2]
theorem stOk_set {st : List SO} {i : Nat} {o : SO} (h : StOk st) (ho : ObjRefs st.length o) : StOk (st.set i o) := by
  intro x hx
  rw [List.length_set]
  rcases List.mem_or_eq_of_mem_set hx with h1 | rfl
  · exact h x h1
  · exact ho
theorem IsBld.ok {st : List SO} {id aid ep ep' : Nat} {T : TypeId} {bs bs' : List UInt8} (h : IsBld st id aid ep T bs) (hst : StOk st) : StOk (bldSet st id aid ep' T bs') := by
  obtain ⟨h1, h2⟩ := h.lt
  refine stOk_set (stOk_set hst trivial) ?_
  simp only [List.length_set]
  intro v hv
  simp [-getElem?_pos] at hv
  rcases hv with rfl | rfl
  · exact .ptr _ _ h1
  · exact .own _ _ h2

theorem set_same {st : List SO} {i : Nat} {o : SO} (h : st[i]? = some o) : st.set i o = st := by
  apply List.ext_getElem?
  intro j
  by_cases hj : j = i
  · subst hj; rw [List.getElem?_set_self (lt_of_some h), h]
  · rw [List.getElem?_set_ne (Ne.symm hj)]

theorem copyCheck_ok {st : List SO} {id aid ep : Nat} {T : TypeId} {bs : List UInt8} (h : IsBld st id aid ep T bs) : FnOK Tryz.prog GW 205 [.ptr id 0] st (.tup []) (bldSet st id aid ep T bs) := by
  obtain ⟨h1, h2⟩ := h.lt
  refine pstrings_Builder_copyCheck_F.eff { ext := [229] } (by simp [-getElem?_pos]) rfl h.ok (by simp [-getElem?_pos, bldSet]) ?_
  obtain ⟨⟨p, hp, hb⟩, ha, hne, hT⟩ := h
  have hno : NoEsc Tryz.prog 229 := ⟨_, Tryz.func229, by kernel_rfl, by kernel_rfl, by kernel_rfl, by kernel_rfl⟩
  have hu : fromUns Tryz.prog 282 211 T 2 = true := by rcases hT with rfl | rfl <;> first | exact uns_213 | exact uns_215
  have hset : st.set aid (.arr 5 1 ep (bs.map byteC)) = st := set_same ha
  rcases hp with rfl | rfl
  · simp [-getElem?_pos, hb, hno, uns_to, hu, bldSet, hset]
  · simp [-getElem?_pos, hb, bldSet, hset]
    exact ⟨[], by rw [set_same hb]; simp [-getElem?_pos]⟩

theorem bldSet_bldSet {st : List SO} {id aid ep ep' : Nat} {T : TypeId} {bs bs' : List UInt8} (hne : aid ≠ id) : bldSet (bldSet st id aid ep T bs) id aid ep' T bs' = bldSet st id aid ep' T bs' := by
  unfold bldSet
  rw [List.set_comm _ _ hne.symm, List.set_set, List.set_set]

theorem bldSet_box {st : List SO} {id aid ep : Nat} {T : TypeId} {bs : List UInt8} (h : id < st.length) : (bldSet st id aid ep T bs)[id]? = some (.tbox T [.ptr id 0, .own aid ep]) := by
  unfold bldSet; rw [List.getElem?_set_self (by simpa [-getElem?_pos] using h)]
theorem bldSet_arr {st : List SO} {id aid ep : Nat} {T : TypeId} {bs : List UInt8} (h : aid < st.length) (hne : aid ≠ id) : (bldSet st id aid ep T bs)[aid]? = some (.arr 5 1 ep (bs.map byteC)) := by
  unfold bldSet; rw [List.getElem?_set_ne (Ne.symm hne), List.getElem?_set_self h]

theorem writeString_ok {st : List SO} {id aid ep : Nat} {T : TypeId} {bs : List UInt8} (h : IsBld st id aid ep T bs) (t : List UInt8) (hlen : bs.length + t.length ≤ 140737488355328) :
    FnOK Tryz.prog GW 164 [.ptr id 0, .c (.str t)] st (.tup [.c (.int .i64 t.length), .undef]) (bldSet st id aid (ep + 1) T (bs ++ t)) := by
  obtain ⟨h1, h2⟩ := h.lt
  have hne := h.ne
  refine pstrings_Builder_WriteString_F.eff {} (by simp [-getElem?_pos]) rfl h.ok (by simp [-getElem?_pos, bldSet]) ?_
  simp [-getElem?_pos]
  refine callW2 (copyCheck_ok h) rfl ?_
  have hb := bldSet_box (aid := aid) (ep := ep) (T := T) (bs := bs) h1
  have ha := bldSet_arr (ep := ep) (T := T) (bs := bs) h2 hne
  have hbb := bldSet_bldSet (st := st) (ep := ep) (ep' := ep + 1) (T := T) (bs := bs) (bs' := bs ++ t) hne
  rw [← hbb]
  generalize bldSet st id aid ep T bs = st1 at *
  have hb2 : ∀ o, (st1.set aid o)[id]? = some (.tbox T [.ptr id 0, .own aid ep]) := fun o => by rw [List.getElem?_set_ne hne, hb]
  simp [-getElem?_pos, hb, ha, hb2]
  exact ⟨hlen, [], by simp [-getElem?_pos, bldSet]⟩

theorem writeByte_ok {st : List SO} {id aid ep : Nat} {T : TypeId} {bs : List UInt8} (h : IsBld st id aid ep T bs) (b : UInt8) (hlen : bs.length + 1 ≤ 140737488355328) :
    FnOK Tryz.prog GW 209 [.ptr id 0, .c (.int .u8 b.toNat)] st .undef (bldSet st id aid (ep + 1) T (bs ++ [b])) := by
  obtain ⟨h1, h2⟩ := h.lt
  have hne := h.ne
  refine pstrings_Builder_WriteByte_F.eff {} (by simp [-getElem?_pos]) rfl h.ok (by simp [-getElem?_pos, bldSet]) ?_
  simp [-getElem?_pos]
  refine callW2 (copyCheck_ok h) rfl ?_
  have hb := bldSet_box (aid := aid) (ep := ep) (T := T) (bs := bs) h1
  have ha := bldSet_arr (ep := ep) (T := T) (bs := bs) h2 hne
  have hbb := bldSet_bldSet (st := st) (ep := ep) (ep' := ep + 1) (T := T) (bs := bs) (bs' := bs ++ [b]) hne
  rw [← hbb]
  generalize bldSet st id aid ep T bs = st1 at *
  have hb2 : ∀ o, (st1.set aid o)[id]? = some (.tbox T [.ptr id 0, .own aid ep]) := fun o => by rw [List.getElem?_set_ne hne, hb]
  simp [-getElem?_pos, hb, ha, hb2]
  exact ⟨by omega, by omega, [], by simp [-getElem?_pos, bldSet, byteC]⟩

theorem len_ok {st : List SO} {id aid ep : Nat} {T : TypeId} {bs : List UInt8} (h : IsBld st id aid ep T bs) : FnOK Tryz.prog GW 210 [.ptr id 0] st (.c (.int .i64 bs.length)) st := by
  refine pstrings_Builder_Len_F.pu {} (by simp [-getElem?_pos]) rfl ?_
  obtain ⟨⟨p, hp, hb⟩, ha, hne, hT⟩ := h
  rcases hp with rfl | rfl <;> simp [-getElem?_pos, hb, ha]

theorem mapM_unB' (l : List UInt8) : l.mapM (unB ∘ byteC) = some l := by rw [← List.mapM_map]; exact mapM_unB l
theorem string_ok {st : List SO} {id aid ep : Nat} {T : TypeId} {bs : List UInt8} (h : IsBld st id aid ep T bs) (h0 : bs ≠ []) (hlen : bs.length ≤ 140737488355328) :
    FnOK Tryz.prog GW 167 [.ptr id 0] st (.c (.str bs)) (st.set aid .dead) := by
  refine pstrings_Builder_String_F.eff {} (by simp [-getElem?_pos]) rfl (fun h => stOk_set h trivial) (by simp [-getElem?_pos]) ?_
  obtain ⟨⟨p, hp, hb⟩, ha, hne, hT⟩ := h
  have hu : isPtrTo Tryz.prog 262 5 = true := by kernel_rfl
  have hl : bs.length ≤ 9223372036854775807 := by omega
  rcases hp with rfl | rfl <;> simp [-getElem?_pos, hb, ha, h0, hu, mapM_unB', mixed, hl]
end Go.Proofs.YthkmfboffnhkaaaGreatDoor
namespace Go.Proofs.YthkmfboffnhkaaaGreatDoor
attribute [local simp] pstrings_Builder_copyCheck_R0 pstrings_Builder_copyCheck_R1 pstrings_Builder_copyCheck_R2 pstrings_Builder_copyCheck_L pstrings_Builder_copyCheck_ks pstrings_Builder_WriteString_R0 pstrings_Builder_WriteString_R1 pstrings_Builder_WriteString_R2 pstrings_Builder_WriteString_R3 pstrings_Builder_WriteString_L pstrings_Builder_WriteString_ks pstrings_Builder_WriteByte_R0 pstrings_Builder_WriteByte_R1 pstrings_Builder_WriteByte_R2 pstrings_Builder_WriteByte_R3 pstrings_Builder_WriteByte_L pstrings_Builder_WriteByte_ks pstrings_Builder_Len_R0 pstrings_Builder_Len_R1 pstrings_Builder_Len_L pstrings_Builder_Len_ks pstrings_Builder_String_R0 pstrings_Builder_String_R1 pstrings_Builder_String_L pstrings_Builder_String_ks code_write_string_R0 code_write_string_R1 code_write_string_R2 code_write_string_R3 code_write_string_R4 code_write_string_R5 code_write_string_R6 code_write_string_B1 code_write_string_R7 code_write_string_W1 code_write_string_B0 code_write_string_R8 code_write_string_L code_write_string_ks code_List_R0 code_List_R1 code_List_L code_List_ks act_box_R0 act_box_R1 act_box_L act_box_ks pitem_builder_nums_R0 pitem_builder_nums_R1 pitem_builder_nums_R2 pitem_builder_nums_R3 pitem_builder_nums_B1 pitem_builder_nums_R4 pitem_builder_nums_W1 pitem_builder_nums_B0 pitem_builder_nums_L pitem_builder_nums_ks
open Go Go.L1
set_option maxRecDepth 100000

/-- A number that a byte slice's cell holds. -/
def b8 (n : Int) : List C := [.int .u8 n]
def toB (n : Int) : UInt8 := UInt8.ofNat n.toNat
theorem bytesOf_b8 (l : List Int) : bytesOf (l.map b8) = some (l.map toB) := by
  unfold bytesOf
  induction l with
  | nil => rfl
  | cons a l ih => rw [List.map_cons, List.mapM_cons, ih]; rfl

theorem bytesOf_snoc (l : List Int) (n : Int) : bytesOf (l.map b8 ++ [[C.int .u8 n]]) = some (l.map toB ++ [toB n]) := by
  have : l.map b8 ++ [[C.int .u8 n]] = (l ++ [n]).map b8 := by simp [-getElem?_pos, b8]
  rw [this, bytesOf_b8]; simp [-getElem?_pos]
noncomputable def numMore (n : Int) : Int := IntKind.u8.wrap (bOr .i64 (n.tmod 128) 128)
noncomputable def numI (n : Nat) : List Int := if n < 128 then [IntKind.u8.wrap n] else numMore n :: numI (n / 128)
termination_by n
decreasing_by omega
noncomputable def numS (n : Int) : List UInt8 := if n < 0 then [] else (numI n.toNat).map toB

theorem num_ok (n : Int) (hn : n ≤ 9223372036854775807) (s : List SO) : FnOK Tryz.prog GW 161 [.c (.int .i64 n)] s (.c (.str (numS n))) s := by
  refine code_Num_F.pu {} (by simp [-getElem?_pos]) rfl ?_
  simp [-getElem?_pos, code_Num_L, code_Num_R0, code_Num_R1, code_Num_R2, code_Num_R3, code_Num_B0]
  refine ⟨fun h => by simp [-getElem?_pos, numS, h], fun h => ?_⟩
  refine loopM_intro (fun m e st => ∃ (c : Nat) (ep : Nat) (acc : List Int), m = c ∧ acc ++ numI c = numI n.toNat ∧ c * 128 ^ acc.length ≤ n.toNat ∧ acc.length ≤ 10 ∧ st = s ++ [.arr 5 1 ep (acc.map b8)] ∧
    e = [(0, .c (.int .i64 c)), (3, .own s.length ep)]) n.toNat _ ?_ ⟨n.toNat, 0, [], rfl, rfl, by simp [-getElem?_pos], by simp [-getElem?_pos], rfl, rfl⟩ ?_
  · simp [-getElem?_pos]; omega
  rintro c e st ⟨_, ep, acc, rfl, hacc, hle, hlen, rfl, rfl⟩
  by_cases h1 : c < 128
  · have h2 : ¬ (128 : Int) ≤ c := by omega
    simp [-getElem?_pos, code_Num_W1, code_Num_R4, code_Num_R7, h2, bytesOf_snoc]
    refine ⟨by omega, by omega, by omega, ?_⟩
    rw [numI, if_pos h1] at hacc
    simp [-getElem?_pos, numS, show ¬ n < 0 by omega, ← hacc]
  · have h2 : (128 : Int) ≤ c := by omega
    have hc : c ≤ n.toNat := Nat.le_trans (Nat.le_mul_of_pos_right _ (Nat.pow_pos (by omega))) hle
    have hw : IntKind.i64.wrap ((c : Int) / 128) = ((c / 128 : Nat) : Int) := by rw [IntWalk.i64_in _ (by omega)]; rfl
    have hpow : c / 128 * 128 ^ (acc.length + 1) ≤ n.toNat := by
      refine Nat.le_trans ?_ hle
      rw [Nat.pow_succ, ← Nat.mul_assoc, Nat.mul_right_comm]
      exact Nat.mul_le_mul_right _ (Nat.div_mul_le_self c 128)
    simp [-getElem?_pos, code_Num_W1, code_Num_R4, code_Num_R5, code_Num_R6, code_Num_B1, h2, hw]
    refine ⟨by omega, by omega, againM_i (c / 128) _ (by omega) ?_ ⟨c / 128, ep + 1, acc ++ [numMore c], rfl, ?_, by simpa [-getElem?_pos] using hpow, ?_, ?_, rfl⟩⟩
    · simp [-getElem?_pos]
    · rw [← hacc]
      conv => rhs; rw [numI, if_neg h1]
      simp [-getElem?_pos]
    · rcases Nat.lt_or_ge acc.length 10 with h3 | h3
      · simp [-getElem?_pos]; omega
      · have h4 : 128 ^ 10 ≤ 128 ^ acc.length := Nat.pow_le_pow_right (by omega) h3
        have h5 : 128 ^ acc.length ≤ c * 128 ^ acc.length := Nat.le_mul_of_pos_left _ (by omega)
        omega
    · simp [-getElem?_pos, b8, numMore, IntKind.bits]

theorem numI_len (n : Nat) : ∀ k, n < 128 ^ k → (numI n).length ≤ k + 1 := by
  induction n using Nat.strongRecOn with
  | ind n ih =>
    intro k hk
    rw [numI]
    split
    · simp [-getElem?_pos]
    · cases k with
      | zero => simp [-getElem?_pos] at hk; omega
      | succ k =>
        have := ih (n / 128) (by omega) k (by rw [Nat.pow_succ] at hk; omega)
        simp [-getElem?_pos]; omega
theorem numS_len (n : Int) (h : n ≤ 9223372036854775807) : (numS n).length ≤ 11 := by
  unfold numS
  split
  · simp [-getElem?_pos]
  · rw [List.length_map]
    exact numI_len _ 10 (by omega)

noncomputable def textS (t : List UInt8) : List UInt8 := numS t.length ++ t
theorem text_ok (t : List UInt8) (ht : t.length ≤ 1073741824) (s : List SO) : FnOK Tryz.prog GW 160 [.c (.str t)] s (.c (.str (textS t))) s := by
  refine code_Text_F.pu {} (by simp [-getElem?_pos]) rfl ?_
  have hn := numS_len (t.length : Int) (by omega)
  simp [-getElem?_pos, code_Text_L, code_Text_R0, code_Text_R1]
  refine callW0 (num_ok t.length (by omega)) rfl ?_
  have hb : (numS (t.length : Int)).length + t.length ≤ 9223372036854775807 := by omega
  simp [-getElem?_pos, hb, textS]

/-- A function's own builder, at the end of the store. -/
def bldSt (s : List SO) (T : TypeId) (p : V) (ep : Nat) (bs : List UInt8) : List SO := s ++ [.arr 5 1 ep (bs.map byteC), .tbox T [p, .own s.length ep]]
theorem bldSt_new (s : List SO) (T : TypeId) : s ++ [.arr 5 1 0 [], .tbox T [.c .nilp, .own s.length 0]] = bldSt s T (.c .nilp) 0 [] := rfl
theorem isBld_st {s : List SO} {T : TypeId} {p : V} {ep : Nat} {bs : List UInt8} (hp : p = .c .nilp ∨ p = .ptr (s.length + 1) 0) (hT : T = 213 ∨ T = 215) : IsBld (bldSt s T p ep bs) (s.length + 1) s.length ep T bs :=
  ⟨⟨p, hp, by simp [-getElem?_pos, bldSt]⟩, by simp [-getElem?_pos, bldSt], by omega, hT⟩
theorem bldSet_st {s : List SO} {T : TypeId} {p : V} {ep ep' : Nat} {bs bs' : List UInt8} : bldSet (bldSt s T p ep bs) (s.length + 1) s.length ep' T bs' = bldSt s T (.ptr (s.length + 1) 0) ep' bs' := by
  simp [-getElem?_pos, bldSet, bldSt]
theorem bldSt_dead {s : List SO} {T : TypeId} {p : V} {ep : Nat} {bs : List UInt8} : (bldSt s T p ep bs).set s.length .dead = s ++ [.dead, .tbox T [p, .own s.length ep]] := by simp [-getElem?_pos, bldSt]
theorem bldSt_extra {s : List SO} {T : TypeId} {p : V} {ep : Nat} {bs : List UInt8} : ∃ extra, bldSt s T p ep bs = s ++ extra := ⟨_, rfl⟩

def sumL (l : List (List UInt8)) : Nat := (l.map List.length).sum
theorem sumL_take (l : List (List UInt8)) (i : Nat) : sumL (l.take i) ≤ sumL l := by
  induction l generalizing i with
  | nil => simp [-getElem?_pos, sumL]
  | cons a l ih =>
    cases i with
    | zero => simp [-getElem?_pos, sumL]
    | succ i => have := ih i; simp [-getElem?_pos, sumL] at *; omega
theorem sumL_mem {l : List (List UInt8)} {t : List UInt8} (h : t ∈ l) : t.length ≤ sumL l := by
  induction l with
  | nil => cases h
  | cons a l ih =>
    rcases List.mem_cons.1 h with rfl | h
    · simp [-getElem?_pos, sumL]
    · have := ih h; simp [-getElem?_pos, sumL] at *; omega
theorem texts_len (l : List (List UInt8)) (h : sumL l ≤ 1073741824) : ((l.map textS).flatten).length ≤ 11 * l.length + sumL l := by
  induction l with
  | nil => simp [-getElem?_pos]
  | cons a l ih =>
    have h1 : sumL l ≤ 1073741824 := by simp [-getElem?_pos, sumL] at *; omega
    have h2 := ih h1
    have h3 := numS_len (a.length : Int) (by simp [-getElem?_pos, sumL] at h; omega)
    simp [-getElem?_pos, textS, sumL] at *
    omega

noncomputable def listS (l : List (List UInt8)) : List UInt8 := numS l.length ++ (l.map textS).flatten
theorem listS_len (l : List (List UInt8)) (h : sumL l ≤ 1073741824) (hl : l.length ≤ 1073741824) : (listS l).length ≤ 11 + 11 * l.length + sumL l := by
  have h1 := texts_len l h
  have h2 := numS_len (l.length : Int) (by omega)
  simp [-getElem?_pos, listS] at *; omega
theorem numS_ne (n : Int) (h : 0 ≤ n) : numS n ≠ [] := by
  unfold numS
  rw [if_neg (by omega)]
  rw [numI]
  split <;> simp [-getElem?_pos]

theorem write_ok (l : List (List UInt8)) (hl : l.length ≤ 1073741824) (hs : sumL l ≤ 1073741824) (s : List SO) : FnOK Tryz.prog GW 223 [.c (texts l), .c (.fn 160)] s (.c (.str (listS l))) s := by
  refine code_write_string_F.pu { bld := [(5, 5)] } (by simp [-getElem?_pos]) rfl ?_
  simp [-getElem?_pos, texts]
  refine callW0 (num_ok l.length (by omega)) rfl ?_
  simp [-getElem?_pos]
  rw [bldSt_new]
  have hn := numS_len (l.length : Int) (by omega)
  refine callW2 (writeString_ok (isBld_st (.inl rfl) (.inl rfl)) (numS l.length) (by simp [-getElem?_pos]; omega)) rfl ?_
  rw [bldSet_st]
  simp [-getElem?_pos]
  refine loopM_intro (fun m e st => ∃ i ep : Nat, m = l.length - i ∧ i ≤ l.length ∧ st = bldSt s 213 (.ptr (s.length + 1) 0) ep (numS l.length ++ ((l.take i).map textS).flatten) ∧
    e = [(14, .c (I i)), (13, .c (I l.length)), (12, .c (texts l)), (5, .ptr (s.length + 1) 0), (1, .c (.fn 160))]) l.length _ ?_ ⟨0, 1, rfl, Nat.zero_le _, by simp [-getElem?_pos], rfl⟩ ?_
  · simp [-getElem?_pos, texts]
  rintro m e st ⟨i, ep, rfl, hi, rfl, rfl⟩
  by_cases h : i < l.length
  · obtain ⟨t, ht⟩ := get_of_lt h
    have hw := wrap_succ h (by omega)
    have htl := sumL_mem (List.mem_of_getElem? ht)
    simp [-getElem?_pos, texts, h, ht]
    refine callW0 (text_ok t (by omega) ) rfl ?_
    simp [-getElem?_pos]
    have h1 := texts_len (l.take i) (Nat.le_trans (sumL_take l i) hs)
    have h2 := sumL_take l i
    have h3 := numS_len (t.length : Int) (by omega)
    have h4 : (l.take i).length = i := by simp [-getElem?_pos]; omega
    refine callW2 (writeString_ok (isBld_st (.inr rfl) (.inl rfl)) (textS t) (by rw [List.map_take] at h1; rw [List.length_append, textS, List.length_append]; rw [h4] at h1; omega)) rfl ?_
    rw [bldSet_st]
    simp [-getElem?_pos, hw]
    refine againM_i _ _ ?_ ?_ ⟨i + 1, ep + 1, rfl, h, ?_, rfl⟩
    · omega
    · simp [-getElem?_pos, texts]
    · rw [List.take_add_one, ht]; simp [-getElem?_pos]
  · have h2 : i = l.length := by omega
    subst h2
    have h1 := listS_len l hs hl
    have h3 : numS l.length ++ ((l.take l.length).map textS).flatten = listS l := by rw [List.take_length]; rfl
    rw [h3]
    simp [-getElem?_pos]
    refine callW2 (string_ok (isBld_st (.inr rfl) (.inl rfl)) (by simp [-getElem?_pos, listS, numS_ne]) (by omega)) rfl ?_
    rw [bldSt_dead]
    simp [-getElem?_pos]

theorem list_ok (l : List (List UInt8)) (hl : l.length ≤ 1073741824) (hs : sumL l ≤ 1073741824) (s : List SO) : FnOK Tryz.prog GW 198 [.c (texts l)] s (.c (.str (listS l))) s := by
  refine code_List_F.pu {} (by simp [-getElem?_pos]) rfl ?_
  simp [-getElem?_pos, texts]
  refine callW0 (write_ok l hl hs) rfl ?_
  simp [-getElem?_pos]

noncomputable def boxS (b : Box) : List UInt8 := textS b.nonce ++ textS b.data ++ textS b.tag
theorem textS_len (t : List UInt8) (h : t.length ≤ 1073741824) : (textS t).length ≤ 11 + t.length := by
  have := numS_len (t.length : Int) (by omega)
  simp [-getElem?_pos, textS]; omega
theorem box_ok (b : Box) (h1 : b.nonce.length ≤ 1073741824) (h2 : b.data.length ≤ 1073741824) (h3 : b.tag.length ≤ 1073741824) (s : List SO) :
    FnOK Tryz.prog GW 199 [agg [.str b.nonce, .str b.data, .str b.tag]] s (.c (.str (boxS b))) s := by
  have k1 := textS_len b.nonce h1
  have k2 := textS_len b.data h2
  have k3 := textS_len b.tag h3
  refine act_box_F.pu {} (by simp [-getElem?_pos]) rfl ?_
  simp [-getElem?_pos, agg, mixed]
  refine callW0 (text_ok b.nonce h1) rfl ?_
  simp [-getElem?_pos]
  refine callW0 (text_ok b.data h2) rfl ?_
  have e1 : (textS b.nonce).length + (textS b.data).length ≤ 9223372036854775807 := by omega
  simp [-getElem?_pos, e1]
  refine callW0 (text_ok b.tag h3) rfl ?_
  have e2 : (textS b.nonce).length + (textS b.data).length + (textS b.tag).length ≤ 9223372036854775807 := by omega
  have e3 : (textS b.nonce).length + ((textS b.data).length + (textS b.tag).length) ≤ 9223372036854775807 := by omega
  simp [-getElem?_pos, e2, e3, boxS]

noncomputable def numsS (l : List Int) : List UInt8 := (l.map numS).flatten
theorem numsS_len (l : List Int) (h : ∀ n ∈ l, n ≤ 9223372036854775807) : (numsS l).length ≤ 11 * l.length := by
  induction l with
  | nil => simp [-getElem?_pos, numsS]
  | cons a l ih =>
    have h1 := ih fun n hn => h n (List.mem_cons_of_mem _ hn)
    have h2 := numS_len a (h a (List.mem_cons_self ..))
    simp [-getElem?_pos, numsS] at *; omega
theorem nums_ok {st : List SO} {id aid ep : Nat} {T : TypeId} {bs : List UInt8} (h : IsBld st id aid ep T bs) (l : List Int) (hl : l.length ≤ 1000000) (h0 : l ≠ []) (hr : ∀ n ∈ l, n ≤ 9223372036854775807)
    (hb : bs.length ≤ 1000000000000) : FnOK Tryz.prog GW 163 [.ptr id 0, .c (.sl (l.map fun n => [I n]))] st (.tup []) (bldSet st id aid (ep + l.length) T (bs ++ numsS l)) := by
  refine pitem_builder_nums_F.eff {} (by simp [-getElem?_pos]) rfl h.ok (by simp [-getElem?_pos, bldSet]) ?_
  simp [-getElem?_pos]
  refine loopM_intro (fun m e st' => ∃ i : Nat, m = l.length - i ∧ i ≤ l.length ∧ IsBld st' id aid (ep + i) T (bs ++ numsS (l.take i)) ∧
      (∀ ep' bs', bldSet st' id aid ep' T bs' = bldSet st id aid ep' T bs') ∧ (0 < i → st' = bldSet st id aid (ep + i) T (bs ++ numsS (l.take i))) ∧
      e = [(8, .c (I i)), (7, .c (I l.length)), (6, .c (.sl (l.map fun n => [I n]))), (0, .ptr id 0)]) l.length _ ?_ ⟨0, rfl, Nat.zero_le _, by simpa [-getElem?_pos, numsS] using h, fun _ _ => rfl, by omega, rfl⟩ ?_
  · simp [-getElem?_pos]
  rintro m e st' ⟨i, rfl, hi, hB, hset, hst, rfl⟩
  by_cases h2 : i < l.length
  · obtain ⟨n, hn⟩ := get_of_lt h2
    have hw := wrap_succ h2 (by omega)
    have hmem := List.mem_of_getElem? hn
    have hlen := numsS_len (l.take i) (fun n hn => hr n (List.mem_of_mem_take hn))
    have hlen2 := numS_len n (hr n hmem)
    have hlen3 : (l.take i).length = i := by simp [-getElem?_pos]; omega
    simp [-getElem?_pos, h2, hn, mixed]
    refine callW0 (num_ok n (hr n hmem)) rfl ?_
    simp [-getElem?_pos]
    refine callW2 (writeString_ok hB (numS n) (by rw [List.length_append]; omega)) rfl ?_
    simp [-getElem?_pos, hw]
    have hnext : numsS (l.take (i + 1)) = numsS (l.take i) ++ numS n := by rw [List.take_add_one, hn]; simp [-getElem?_pos, numsS]
    rw [hset]
    refine againM_i _ _ ?_ ?_ ⟨i + 1, rfl, h2, ?_, fun ep' bs' => ?_, fun _ => ?_, rfl⟩
    · omega
    · simp [-getElem?_pos]
    · rw [hnext, ← List.append_assoc]; exact h.set
    · exact bldSet_bldSet h.ne
    · rw [hnext, ← List.append_assoc]; rfl
  · have he : i = l.length := by omega
    subst he
    have hpos : 0 < l.length := List.length_pos_iff.2 h0
    simp [-getElem?_pos]
    rw [hst hpos, List.take_length]
    exact ⟨[], by simp [-getElem?_pos]⟩
end Go.Proofs.YthkmfboffnhkaaaGreatDoor
