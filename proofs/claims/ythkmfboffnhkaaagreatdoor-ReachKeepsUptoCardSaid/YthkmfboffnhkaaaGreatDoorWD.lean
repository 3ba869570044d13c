/-
  Walks: the encoding of an activity.
  Walks: the encoding of activities and items.
-/
import Derived.Test.YthkmfboffnhkaaaGreatDoorWB
import Derived.Test.YthkmfboffnhkaaaGreatDoorW4
import Derived.Test.YthkmfboffnhkaaaGreatDoorWC
set_option linter.all false
namespace Go.Proofs.YthkmfboffnhkaaaGreatDoor
attribute [local simp] act_Core_R0 act_Core_R1 act_Core_R2 act_Core_R3 act_Core_R4 act_Core_R5 act_Core_R6 act_Core_R7 act_Core_B1 act_Core_R8 act_Core_W1 act_Core_B0 act_Core_R9 act_Core_R10 act_Core_R11 act_Core_R12 act_Core_B3 act_Core_R13 act_Core_W2 act_Core_B2 act_Core_R14 act_Core_R15 act_Core_L act_Core_ks act_Bytes_R0 act_Bytes_R1 act_Bytes_R2 act_Bytes_R3 act_Bytes_R4 act_Bytes_L act_Bytes_ks
open Go Go.L1
set_option maxRecDepth 100000
set_option maxHeartbeats 4000000

def tooBig : Nat := 1048576
structure Box.Fits (b : Box) : Prop where
  nonce : b.nonce.length ≤ tooBig
  data : b.data.length ≤ tooBig
  tag : b.tag.length ≤ tooBig
/-- What the bulk of the arguments bounds. -/
structure Act.Fits (a : Act) : Prop where
  author : a.author.length ≤ tooBig
  prev : a.prev.length ≤ tooBig
  object : a.object.length ≤ tooBig
  target : a.target.length ≤ tooBig
  group : a.group.length ≤ tooBig
  text : a.text.length ≤ tooBig
  body : a.body.Fits
  to : a.to.length ≤ tooBig
  toSum : sumL a.to ≤ 8388608
  wraps : a.wraps.length ≤ tooBig
  wrap : ∀ w ∈ a.wraps, w.box.Fits ∧ w.to ≤ 9223372036854775807 ∧ w.eph ≤ 9223372036854775807
  kind : (Lit.int .i64 a.kind).wf = true
  ints : ∀ n ∈ [a.seq, a.kind, a.time, a.scope, a.epoch, a.n, a.m, a.sigE, a.sigS], n ≤ 9223372036854775807

noncomputable def coreParts (a : Act) : List (List UInt8) := [textS [97, 99, 116], textS a.author, numS a.seq, textS a.prev, numS a.kind, numS a.time, textS a.object, textS a.target, numS a.scope, textS a.group, listS a.to,
  textS a.text, boxS a.body, numS a.epoch, numS a.wraps.length]
noncomputable def wrapS (w : Wrap) : List UInt8 := numS w.to ++ numS w.eph ++ boxS w.box
noncomputable def coreBody (a : Act) : List UInt8 := (coreParts a).flatten ++ (a.wraps.map wrapS).flatten ++ (numS a.n ++ numS a.m)
noncomputable def coreS (R : FuncId → Act → Bool) (a : Act) : List UInt8 := if rightS R a then coreBody a else []

/-- Strings one behind the other in a builder. -/
theorem parts_len (l : List (List UInt8)) (i : Nat) : ((l.take i).flatten).length ≤ sumL l := by
  have h := sumL_take l i
  have : ((l.take i).flatten).length = sumL (l.take i) := by simp [-getElem?_pos, sumL, List.length_flatten]
  omega
theorem wrapS_len (w : Wrap) (h : w.box.Fits ∧ w.to ≤ 9223372036854775807 ∧ w.eph ≤ 9223372036854775807) : (wrapS w).length ≤ 4000000 := by
  obtain ⟨⟨h1, h2, h3⟩, h4, h5⟩ := h
  simp only [tooBig] at h1 h2 h3
  have k1 := textS_len w.box.nonce (by omega)
  have k2 := textS_len w.box.data (by omega)
  have k3 := textS_len w.box.tag (by omega)
  have k4 := numS_len w.to h4
  have k5 := numS_len w.eph h5
  simp [-getElem?_pos, wrapS, boxS]; omega
theorem wraps_len (l : List Wrap) (h : ∀ w ∈ l, w.box.Fits ∧ w.to ≤ 9223372036854775807 ∧ w.eph ≤ 9223372036854775807) : ((l.map wrapS).flatten).length ≤ 4000000 * l.length := by
  induction l with
  | nil => simp [-getElem?_pos]
  | cons a l ih =>
    have h1 := ih fun w hw => h w (List.mem_cons_of_mem _ hw)
    have h2 := wrapS_len a (h a (List.mem_cons_self ..))
    simp [-getElem?_pos] at *; omega
theorem core_ok (R : FuncId → Act → Bool) (a : Act) (hf : a.Fits) (hright : ∀ s, FnOK Tryz.prog GW 152 [agg a.cells] s (.c (.bool (rightS R a))) s) (s : List SO) :
    FnOK Tryz.prog GW 155 [agg a.cells] s (.c (.str (coreS R a))) s := by
  refine act_Core_F.pu { bld := [(3, 5)] } (by simp [-getElem?_pos]) rfl ?_
  simp (config := { maxSteps := 10000000 }) [-getElem?_pos, agg, Act.cells]
  refine callW0 hright rfl ?_
  cases hr : rightS R a
  · simp (config := { maxSteps := 10000000 }) [-getElem?_pos, coreS, hr]
  simp (config := { maxSteps := 10000000 }) [-getElem?_pos, mixed]
  rw [bldSt_new]
  have ha := hf.author; have hp := hf.prev; have ho := hf.object; have ht := hf.target; have hg := hf.group; have hx := hf.text; have hto := hf.to; have hts := hf.toSum
  have hb1 := hf.body.nonce; have hb2 := hf.body.data; have hb3 := hf.body.tag; have hw := hf.wraps
  simp only [tooBig] at ha hp ho ht hg hx hto hts hb1 hb2 hb3 hw
  refine callW0 (text_ok [97, 99, 116] (by simp [-getElem?_pos])) rfl ?_
  simp (config := { maxSteps := 10000000 }) [-getElem?_pos]
  refine callW0 (text_ok a.author (by omega)) rfl ?_
  simp (config := { maxSteps := 10000000 }) [-getElem?_pos]
  refine callW0 (num_ok a.seq (hf.ints _ (by simp [-getElem?_pos]))) rfl ?_
  simp (config := { maxSteps := 10000000 }) [-getElem?_pos]
  refine callW0 (text_ok a.prev (by omega)) rfl ?_
  simp (config := { maxSteps := 10000000 }) [-getElem?_pos]
  refine callW0 (num_ok a.kind (hf.ints _ (by simp [-getElem?_pos]))) rfl ?_
  simp (config := { maxSteps := 10000000 }) [-getElem?_pos]
  refine callW0 (num_ok a.time (hf.ints _ (by simp [-getElem?_pos]))) rfl ?_
  simp (config := { maxSteps := 10000000 }) [-getElem?_pos]
  refine callW0 (text_ok a.object (by omega)) rfl ?_
  simp (config := { maxSteps := 10000000 }) [-getElem?_pos]
  refine callW0 (text_ok a.target (by omega)) rfl ?_
  simp (config := { maxSteps := 10000000 }) [-getElem?_pos]
  refine callW0 (num_ok a.scope (hf.ints _ (by simp [-getElem?_pos]))) rfl ?_
  simp (config := { maxSteps := 10000000 }) [-getElem?_pos]
  refine callW0 (text_ok a.group (by omega)) rfl ?_
  simp (config := { maxSteps := 10000000 }) [-getElem?_pos]
  refine callW0 (list_ok a.to (by omega) (by omega)) rfl ?_
  simp (config := { maxSteps := 10000000 }) [-getElem?_pos]
  refine callW0 (text_ok a.text (by omega)) rfl ?_
  simp (config := { maxSteps := 10000000 }) [-getElem?_pos]
  refine callW0 (box_ok a.body (by omega) (by omega) (by omega)) rfl ?_
  simp (config := { maxSteps := 10000000 }) [-getElem?_pos]
  refine callW0 (num_ok a.epoch (hf.ints _ (by simp [-getElem?_pos]))) rfl ?_
  simp (config := { maxSteps := 10000000 }) [-getElem?_pos]
  refine callW0 (num_ok a.wraps.length (by omega)) rfl ?_
  simp (config := { maxSteps := 10000000 }) [-getElem?_pos]
  have hcp : (C.sl ((coreParts a).map fun s => [C.str s])) = C.sl
            [[C.str (textS [97, 99, 116])], [C.str (textS a.author)], [C.str (numS a.seq)], [C.str (textS a.prev)],
              [C.str (numS a.kind)], [C.str (numS a.time)], [C.str (textS a.object)], [C.str (textS a.target)],
              [C.str (numS a.scope)], [C.str (textS a.group)], [C.str (listS a.to)], [C.str (textS a.text)],
              [C.str (boxS a.body)], [C.str (numS a.epoch)], [C.str (numS a.wraps.length)]] := rfl
  have hsum : sumL (coreParts a) ≤ 100000000 := by
    have k0 := textS_len [97, 99, 116] (by simp [-getElem?_pos])
    have k1 := textS_len a.author (by omega)
    have k2 := textS_len a.prev (by omega)
    have k3 := textS_len a.object (by omega)
    have k4 := textS_len a.target (by omega)
    have k5 := textS_len a.group (by omega)
    have k6 := textS_len a.text (by omega)
    have k7 := listS_len a.to (by omega) (by omega)
    have k8 := textS_len a.body.nonce (by omega)
    have k9 := textS_len a.body.data (by omega)
    have k10 := textS_len a.body.tag (by omega)
    have n1 := numS_len a.seq (hf.ints _ (by simp [-getElem?_pos]))
    have n2 := numS_len a.kind (hf.ints _ (by simp [-getElem?_pos]))
    have n3 := numS_len a.time (hf.ints _ (by simp [-getElem?_pos]))
    have n4 := numS_len a.scope (hf.ints _ (by simp [-getElem?_pos]))
    have n5 := numS_len a.epoch (hf.ints _ (by simp [-getElem?_pos]))
    have n6 := numS_len (a.wraps.length : Int) (by omega)
    simp only [List.length_cons, List.length_nil] at k0
    simp [-getElem?_pos, sumL, coreParts, boxS]
    omega
  rw [← hcp]
  refine loopM_intro (fun m e st => ∃ (i ep : Nat) (p : V), m = 15 - i ∧ i ≤ 15 ∧ (p = .c .nilp ∨ p = .ptr (s.length + 1) 0) ∧ st = bldSt s 213 p ep (((coreParts a).take i).flatten) ∧
    e = [(57, .c (I i)), (56, .c (I 15)), (55, .c (.sl ((coreParts a).map fun s => [C.str s]))), (3, .ptr (s.length + 1) 0), (1, .box (a.cells.map .c))]) 15 _ ?_ ⟨0, 0, _, rfl, by omega, .inl rfl, rfl, rfl⟩ ?_
  · simp [-getElem?_pos, Act.cells, texts]
  rintro m e st ⟨i, ep, p, rfl, hi, hp', rfl, rfl⟩
  by_cases h : i < 15
  · obtain ⟨t, hti⟩ := get_of_lt (l := coreParts a) (i := i) h
    have hw2 := wrap_succ h (by omega)
    have hpl := parts_len (coreParts a) i
    have htl := sumL_mem (List.mem_of_getElem? hti)
    have h15 : (i : Int) < 15 := by omega
    simp [-getElem?_pos, h15, hti]
    refine callW2 (writeString_ok (isBld_st hp' (.inl rfl)) t (by omega)) rfl ?_
    rw [bldSet_st]
    simp [-getElem?_pos, hw2]
    refine againM_i _ _ ?_ ?_ ⟨i + 1, ep + 1, _, rfl, h, .inr rfl, ?_, rfl⟩
    · omega
    · simp [-getElem?_pos]
    · rw [List.take_add_one, hti]; simp [-getElem?_pos]
  · have he : i = 15 := by omega
    subst he
    have hall : ((coreParts a).take 15).flatten = (coreParts a).flatten := rfl
    rw [hall]
    have hcl := parts_len (coreParts a) 15
    rw [hall] at hcl
    simp (config := { maxSteps := 10000000 }) [-getElem?_pos, Act.cells]
    refine loopM_intro (fun m e st => ∃ (i ep : Nat) (p : V), m = a.wraps.length - i ∧ i ≤ a.wraps.length ∧ (p = .c .nilp ∨ p = .ptr (s.length + 1) 0) ∧
      st = bldSt s 213 p ep ((coreParts a).flatten ++ ((a.wraps.take i).map wrapS).flatten) ∧
      e = [(67, .c (I i)), (66, .c (I a.wraps.length)), (65, .c (.sl (a.wraps.map Wrap.cells))), (3, .ptr (s.length + 1) 0), (1, .box (a.cells.map .c))]) a.wraps.length _ ?_
      ⟨0, ep, p, rfl, by omega, hp', by simp [-getElem?_pos], rfl⟩ ?_
    · simp [-getElem?_pos, Act.cells, texts]
    rintro m e st ⟨i, ep, p, rfl, hi2, hp2, rfl, rfl⟩
    by_cases h2 : i < a.wraps.length
    · obtain ⟨w, hwi⟩ := get_of_lt h2
      have hw2 := wrap_succ h2 (by omega)
      have hwf := hf.wrap w (List.mem_of_getElem? hwi)
      obtain ⟨⟨g1, g2, g3⟩, g4, g5⟩ := hwf
      simp only [tooBig] at g1 g2 g3
      have k4 := numS_len w.to g4
      have k5 := numS_len w.eph g5
      have k6 := wrapS_len w (hf.wrap w (List.mem_of_getElem? hwi))
      have k7 := wraps_len (a.wraps.take i) (fun w hw => hf.wrap w (List.mem_of_mem_take hw))
      have k8 : (a.wraps.take i).length = i := by simp [-getElem?_pos]; omega
      simp (config := { maxSteps := 10000000 }) [-getElem?_pos, h2, hwi, Wrap.cells, mixed]
      refine callW0 (num_ok w.to g4) rfl ?_
      simp [-getElem?_pos]
      refine callW0 (num_ok w.eph g5) rfl ?_
      have e1 : (numS w.to).length + (numS w.eph).length ≤ 9223372036854775807 := by omega
      simp [-getElem?_pos, e1]
      refine callW0 (box_ok w.box (by omega) (by omega) (by omega)) rfl ?_
      have e2 : (numS w.to).length + (numS w.eph).length + (boxS w.box).length ≤ 9223372036854775807 := by simp [-getElem?_pos, wrapS] at k6; omega
      have e3 : (numS w.to).length + ((numS w.eph).length + (boxS w.box).length) ≤ 9223372036854775807 := by omega
      simp [-getElem?_pos, e2, e3]
      rw [List.map_take] at k7
      refine callW2 (writeString_ok (isBld_st hp2 (.inl rfl)) _ (by rw [List.length_append]; simp [-getElem?_pos, wrapS] at k6; simp only [List.length_append]; omega)) rfl ?_
      rw [bldSet_st]
      simp (config := { maxSteps := 10000000 }) [-getElem?_pos, hw2]
      refine againM_i _ _ ?_ ?_ ⟨i + 1, ep + 1, _, rfl, h2, .inr rfl, ?_, rfl⟩
      · omega
      · simp [-getElem?_pos, Act.cells, texts]
      · rw [List.take_add_one, hwi]; simp [-getElem?_pos, wrapS]
    · have he2 : i = a.wraps.length := by omega
      subst he2
      simp (config := { maxSteps := 10000000 }) [-getElem?_pos, Act.cells, mixed]
      have k7 := wraps_len a.wraps hf.wrap
      have n1 := numS_len a.n (hf.ints _ (by simp [-getElem?_pos]))
      have n2 := numS_len a.m (hf.ints _ (by simp [-getElem?_pos]))
      refine callW0 (num_ok a.n (hf.ints _ (by simp [-getElem?_pos]))) rfl ?_
      simp [-getElem?_pos]
      refine callW0 (num_ok a.m (hf.ints _ (by simp [-getElem?_pos]))) rfl ?_
      have e1 : (numS a.n).length + (numS a.m).length ≤ 9223372036854775807 := by omega
      simp [-getElem?_pos, e1]
      refine callW2 (writeString_ok (isBld_st hp2 (.inl rfl)) _ (by simp only [List.length_append]; omega)) rfl ?_
      rw [bldSet_st]
      simp [-getElem?_pos]
      refine callW2 (string_ok (isBld_st (.inr rfl) (.inl rfl)) (by simp [-getElem?_pos, coreParts, textS, numS_ne]) (by simp only [List.length_append]; omega)) rfl ?_
      rw [bldSt_dead]
      simp [-getElem?_pos, coreS, hr, coreBody]
end Go.Proofs.YthkmfboffnhkaaaGreatDoor
namespace Go.Proofs.YthkmfboffnhkaaaGreatDoor
attribute [local simp] act_Core_R0 act_Core_R1 act_Core_R2 act_Core_R3 act_Core_R4 act_Core_R5 act_Core_R6 act_Core_R7 act_Core_B1 act_Core_R8 act_Core_W1 act_Core_B0 act_Core_R9 act_Core_R10 act_Core_R11 act_Core_R12 act_Core_B3 act_Core_R13 act_Core_W2 act_Core_B2 act_Core_R14 act_Core_R15 act_Core_L act_Core_ks act_Bytes_R0 act_Bytes_R1 act_Bytes_R2 act_Bytes_R3 act_Bytes_R4 act_Bytes_L act_Bytes_ks
open Go Go.L1
set_option maxRecDepth 100000
set_option maxHeartbeats 4000000

theorem coreBody_ne (a : Act) : coreBody a ≠ [] := by simp [-getElem?_pos, coreBody, coreParts, textS, numS_ne]
noncomputable def actBytes (R : FuncId → Act → Bool) (a : Act) : List UInt8 := if rightS R a then coreBody a ++ numS a.sigE ++ numS a.sigS else []
theorem actBytes_ok (R : FuncId → Act → Bool) (a : Act) (hf : a.Fits) (hlen : (coreBody a).length ≤ 100000000000000) (hright : ∀ s, FnOK Tryz.prog GW 152 [agg a.cells] s (.c (.bool (rightS R a))) s) (s : List SO) :
    FnOK Tryz.prog GW 165 [agg a.cells] s (.c (.str (actBytes R a))) s := by
  refine act_Bytes_F.pu {} (by simp [-getElem?_pos]) rfl ?_
  have n1 := numS_len a.sigE (hf.ints _ (by simp [-getElem?_pos]))
  have n2 := numS_len a.sigS (hf.ints _ (by simp [-getElem?_pos]))
  simp (config := { maxSteps := 10000000 }) [-getElem?_pos, agg, Act.cells]
  refine callW0 (core_ok R a hf hright) rfl ?_
  cases hr : rightS R a
  · simp (config := { maxSteps := 10000000 }) [-getElem?_pos, coreS, hr, actBytes]
  simp (config := { maxSteps := 10000000 }) [-getElem?_pos, coreS, hr, coreBody_ne, mixed]
  refine callW0 (num_ok a.sigE (hf.ints _ (by simp [-getElem?_pos]))) rfl ?_
  have e1 : (coreBody a).length + (numS a.sigE).length ≤ 9223372036854775807 := by omega
  simp [-getElem?_pos, coreS, hr, e1]
  refine callW0 (num_ok a.sigS (hf.ints _ (by simp [-getElem?_pos]))) rfl ?_
  have e2 : (coreBody a).length + (numS a.sigE).length + (numS a.sigS).length ≤ 9223372036854775807 := by omega
  have e3 : (coreBody a).length + ((numS a.sigE).length + (numS a.sigS).length) ≤ 9223372036854775807 := by omega
  simp [-getElem?_pos, coreS, hr, e1, e2, e3, actBytes]
end Go.Proofs.YthkmfboffnhkaaaGreatDoor
