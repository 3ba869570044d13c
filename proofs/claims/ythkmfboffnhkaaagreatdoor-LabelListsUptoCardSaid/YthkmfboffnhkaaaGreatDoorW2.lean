/-
  Walks: strings.Builder, the encoding of numbers and strings.
-/
import Derived.Test.YthkmfboffnhkaaaGreatDoorSP
import Derived.Test.YthkmfboffnhkaaaGreatDoorTB
set_option linter.all false
namespace Go.Proofs.YthkmfboffnhkaaaGreatDoor
open Go Go.L1
set_option maxRecDepth 100000

theorem uns_to : toUns Tryz.prog 211 282 = true := by kernel_rfl
theorem uns_213 : fromUns Tryz.prog 282 211 213 2 = true := by kernel_rfl
theorem uns_215 : fromUns Tryz.prog 282 211 215 2 = true := by kernel_rfl

/-- A builder in the store: its bytes so far. -/
structure IsBld (st : List SO) (id aid ep : Nat) (T : TypeId) (bs : List UInt8) : Prop where
  box : ∃ p, (p = .c .nilp ∨ p = .ptr id 0) ∧ st[id]? = some (.tbox T [p, .own aid ep])
  arr : st[aid]? = some (.arr 5 1 ep (bs.map byteC))
  ne : aid ≠ id
  ty : T = 213 ∨ T = 215
def bldSet (st : List SO) (id aid ep : Nat) (T : TypeId) (bs : List UInt8) : List SO := (st.set aid (.arr 5 1 ep (bs.map byteC))).set id (.tbox T [.ptr id 0, .own aid ep])
theorem IsBld.lt {st : List SO} {id aid ep : Nat} {T : TypeId} {bs : List UInt8} (h : IsBld st id aid ep T bs) : id < st.length ∧ aid < st.length := by
  obtain ⟨p, _, h1⟩ := h.box
  exact ⟨lt_of_some h1, lt_of_some h.arr⟩
theorem IsBld.set {st : List SO} {id aid ep ep' : Nat} {T : TypeId} {bs bs' : List UInt8} (h : IsBld st id aid ep T bs) : IsBld (bldSet st id aid ep' T bs') id aid ep' T bs' := by
  obtain ⟨h1, h2⟩ := h.lt
  refine ⟨⟨.ptr id 0, .inr rfl, by unfold bldSet; rw [List.getElem?_set_self (by simpa [-getElem?_pos] using h1)]⟩, ?_, h.ne, h.ty⟩
  unfold bldSet
  rw [List.getElem?_set_ne (Ne.symm h.ne), List.getElem?_set_self h2]
theorem stOk_set {st : List SO} {i : Nat} {o : SO} (h : StOk st) (ho : ObjRefs st.length o) : StOk (st.set i o) := by
  intro x hx
  rw [List.length_set]
  rcases List.mem_or_eq_of_mem_set hx with h1 | rfl
  · exact h x h1
  · exact ho
theorem IsBld.ok {st : List SO} {id aid ep ep' : Nat} {T : TypeId} {bs bs' : List UInt8} (h : IsBld st id aid ep T bs) (hst : StOk st) : StOk (bldSet st id aid ep' T bs') := by
  obtain ⟨h1, h2⟩ := h.lt
  refine stOk_set (stOk_set hst trivial) ?_
  simp only [List.length_set]
  intro v hv
  simp [-getElem?_pos] at hv
  rcases hv with rfl | rfl
  · exact .ptr _ _ h1
  · exact .own _ _ h2

theorem set_same {st : List SO} {i : Nat} {o : SO} (h : st[i]? = some o) : st.set i o = st := by
  apply List.ext_getElem?
  intro j
  by_cases hj : j = i
  · subst hj; rw [List.getElem?_set_self (lt_of_some h), h]
  · rw [List.getElem?_set_ne (Ne.symm hj)]

theorem copyCheck_ok {st : List SO} {id aid ep : Nat} {T : TypeId} {bs : List UInt8} (h : IsBld st id aid ep T bs) : FnOK Tryz.prog GW 205 [.ptr id 0] st (.tup []) (bldSet st id aid ep T bs) := by
  obtain ⟨h1, h2⟩ := h.lt
  refine pstrings_Builder_copyCheck_ef { ext := [229] } (by simp [-getElem?_pos]) rfl h.ok (by simp [-getElem?_pos, bldSet]) ?_
  obtain ⟨⟨p, hp, hb⟩, ha, hne, hT⟩ := h
  have hno : NoEsc Tryz.prog 229 := ⟨_, Tryz.func229, by kernel_rfl, by kernel_rfl, by kernel_rfl, by kernel_rfl⟩
  have hu : fromUns Tryz.prog 282 211 T 2 = true := by rcases hT with rfl | rfl <;> first | exact uns_213 | exact uns_215
  have hset : st.set aid (.arr 5 1 ep (bs.map byteC)) = st := set_same ha
  rcases hp with rfl | rfl
  · simp [-getElem?_pos, pstrings_Builder_copyCheck_R0, pstrings_Builder_copyCheck_R1, pstrings_Builder_copyCheck_R2, pstrings_Builder_copyCheck_L, pstrings_Builder_copyCheck_ks, hb, hno, uns_to, hu, bldSet, hset]
  · simp [-getElem?_pos, pstrings_Builder_copyCheck_R0, pstrings_Builder_copyCheck_R1, pstrings_Builder_copyCheck_R2, pstrings_Builder_copyCheck_L, pstrings_Builder_copyCheck_ks, hb, bldSet, hset]
    exact ⟨[], by rw [set_same hb]; simp [-getElem?_pos]⟩

theorem bldSet_bldSet {st : List SO} {id aid ep ep' : Nat} {T : TypeId} {bs bs' : List UInt8} (hne : aid ≠ id) : bldSet (bldSet st id aid ep T bs) id aid ep' T bs' = bldSet st id aid ep' T bs' := by
  unfold bldSet
  rw [List.set_comm _ _ hne.symm, List.set_set, List.set_set]

theorem bldSet_box {st : List SO} {id aid ep : Nat} {T : TypeId} {bs : List UInt8} (h : id < st.length) : (bldSet st id aid ep T bs)[id]? = some (.tbox T [.ptr id 0, .own aid ep]) := by
  unfold bldSet; rw [List.getElem?_set_self (by simpa [-getElem?_pos] using h)]
theorem bldSet_arr {st : List SO} {id aid ep : Nat} {T : TypeId} {bs : List UInt8} (h : aid < st.length) (hne : aid ≠ id) : (bldSet st id aid ep T bs)[aid]? = some (.arr 5 1 ep (bs.map byteC)) := by
  unfold bldSet; rw [List.getElem?_set_ne (Ne.symm hne), List.getElem?_set_self h]

theorem writeString_ok {st : List SO} {id aid ep : Nat} {T : TypeId} {bs : List UInt8} (h : IsBld st id aid ep T bs) (t : List UInt8) (hlen : bs.length + t.length ≤ 140737488355328) :
    FnOK Tryz.prog GW 164 [.ptr id 0, .c (.str t)] st (.tup [.c (.int .i64 t.length), .undef]) (bldSet st id aid (ep + 1) T (bs ++ t)) := by
  obtain ⟨h1, h2⟩ := h.lt
  have hne := h.ne
  refine pstrings_Builder_WriteString_ef {} (by simp [-getElem?_pos]) rfl h.ok (by simp [-getElem?_pos, bldSet]) ?_
  simp [-getElem?_pos, pstrings_Builder_WriteString_R0, pstrings_Builder_WriteString_R1, pstrings_Builder_WriteString_R2, pstrings_Builder_WriteString_R3, pstrings_Builder_WriteString_L, pstrings_Builder_WriteString_ks]
  refine callW2 (copyCheck_ok h) rfl ?_
  have hb := bldSet_box (aid := aid) (ep := ep) (T := T) (bs := bs) h1
  have ha := bldSet_arr (ep := ep) (T := T) (bs := bs) h2 hne
  have hbb := bldSet_bldSet (st := st) (ep := ep) (ep' := ep + 1) (T := T) (bs := bs) (bs' := bs ++ t) hne
  rw [← hbb]
  generalize bldSet st id aid ep T bs = st1 at *
  have hb2 : ∀ o, (st1.set aid o)[id]? = some (.tbox T [.ptr id 0, .own aid ep]) := fun o => by rw [List.getElem?_set_ne hne, hb]
  simp [-getElem?_pos, pstrings_Builder_WriteString_R0, pstrings_Builder_WriteString_R1, pstrings_Builder_WriteString_R2, pstrings_Builder_WriteString_R3, pstrings_Builder_WriteString_L, pstrings_Builder_WriteString_ks, hb, ha, hb2]
  exact ⟨hlen, [], by simp [-getElem?_pos, bldSet]⟩

theorem writeByte_ok {st : List SO} {id aid ep : Nat} {T : TypeId} {bs : List UInt8} (h : IsBld st id aid ep T bs) (b : UInt8) (hlen : bs.length + 1 ≤ 140737488355328) :
    FnOK Tryz.prog GW 209 [.ptr id 0, .c (.int .u8 b.toNat)] st .undef (bldSet st id aid (ep + 1) T (bs ++ [b])) := by
  obtain ⟨h1, h2⟩ := h.lt
  have hne := h.ne
  refine pstrings_Builder_WriteByte_ef {} (by simp [-getElem?_pos]) rfl h.ok (by simp [-getElem?_pos, bldSet]) ?_
  simp [-getElem?_pos, pstrings_Builder_WriteByte_R0, pstrings_Builder_WriteByte_R1, pstrings_Builder_WriteByte_R2, pstrings_Builder_WriteByte_R3, pstrings_Builder_WriteByte_L, pstrings_Builder_WriteByte_ks]
  refine callW2 (copyCheck_ok h) rfl ?_
  have hb := bldSet_box (aid := aid) (ep := ep) (T := T) (bs := bs) h1
  have ha := bldSet_arr (ep := ep) (T := T) (bs := bs) h2 hne
  have hbb := bldSet_bldSet (st := st) (ep := ep) (ep' := ep + 1) (T := T) (bs := bs) (bs' := bs ++ [b]) hne
  rw [← hbb]
  generalize bldSet st id aid ep T bs = st1 at *
  have hb2 : ∀ o, (st1.set aid o)[id]? = some (.tbox T [.ptr id 0, .own aid ep]) := fun o => by rw [List.getElem?_set_ne hne, hb]
  simp [-getElem?_pos, pstrings_Builder_WriteByte_R0, pstrings_Builder_WriteByte_R1, pstrings_Builder_WriteByte_R2, pstrings_Builder_WriteByte_R3, pstrings_Builder_WriteByte_L, pstrings_Builder_WriteByte_ks, hb, ha, hb2]
  exact ⟨by omega, by omega, [], by simp [-getElem?_pos, bldSet, byteC]⟩

theorem len_ok {st : List SO} {id aid ep : Nat} {T : TypeId} {bs : List UInt8} (h : IsBld st id aid ep T bs) : FnOK Tryz.prog GW 210 [.ptr id 0] st (.c (.int .i64 bs.length)) st := by
  refine pstrings_Builder_Len_pu {} (by simp [-getElem?_pos]) rfl ?_
  obtain ⟨⟨p, hp, hb⟩, ha, hne, hT⟩ := h
  rcases hp with rfl | rfl <;> simp [-getElem?_pos, pstrings_Builder_Len_R0, pstrings_Builder_Len_R1, pstrings_Builder_Len_L, pstrings_Builder_Len_ks, hb, ha]

theorem mapM_unB' (l : List UInt8) : l.mapM (unB ∘ byteC) = some l := by rw [← List.mapM_map]; exact mapM_unB l
theorem string_ok {st : List SO} {id aid ep : Nat} {T : TypeId} {bs : List UInt8} (h : IsBld st id aid ep T bs) (h0 : bs ≠ []) (hlen : bs.length ≤ 140737488355328) :
    FnOK Tryz.prog GW 167 [.ptr id 0] st (.c (.str bs)) (st.set aid .dead) := by
  refine pstrings_Builder_String_ef {} (by simp [-getElem?_pos]) rfl (fun h => stOk_set h trivial) (by simp [-getElem?_pos]) ?_
  obtain ⟨⟨p, hp, hb⟩, ha, hne, hT⟩ := h
  have hu : isPtrTo Tryz.prog 262 5 = true := by kernel_rfl
  have hl : bs.length ≤ 9223372036854775807 := by omega
  rcases hp with rfl | rfl <;> simp [-getElem?_pos, pstrings_Builder_String_R0, pstrings_Builder_String_R1, pstrings_Builder_String_L, pstrings_Builder_String_ks, hb, ha, h0, hu, mapM_unB', mixed, hl]
end Go.Proofs.YthkmfboffnhkaaaGreatDoor
