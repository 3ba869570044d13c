/-
  Walks: the encoding of an activity as an item.
-/
import Derived.Test.YthkmfboffnhkaaaGreatDoorW12
set_option linter.all false
namespace Go.Proofs.YthkmfboffnhkaaaGreatDoor
open Go Go.L1
set_option maxRecDepth 100000
set_option maxHeartbeats 4000000

theorem coreBody_len (a : Act) (hf : a.Fits) : (coreBody a).length ≤ 5000000000000 := by
  have ha := hf.author; have hp := hf.prev; have ho := hf.object; have ht := hf.target; have hg := hf.group; have hx := hf.text; have hto := hf.to; have hts := hf.toSum
  have hb1 := hf.body.nonce; have hb2 := hf.body.data; have hb3 := hf.body.tag; have hw := hf.wraps
  have hn := hf.ints
  simp only [tooBig] at ha hp ho ht hg hx hto hts hb1 hb2 hb3 hw
  have k1 := textS_len a.author (by omega)
  have k2 := textS_len a.prev (by omega)
  have k3 := textS_len a.object (by omega)
  have k4 := textS_len a.target (by omega)
  have k5 := textS_len a.group (by omega)
  have k6 := textS_len a.text (by omega)
  have k7 := textS_len a.body.nonce (by omega)
  have k8 := textS_len a.body.data (by omega)
  have k9 := textS_len a.body.tag (by omega)
  have k10 := listS_len a.to (by omega) (by omega)
  have k11 := wraps_len a.wraps hf.wrap
  have k12 := numS_len a.seq (hn _ (by simp [-getElem?_pos]))
  have k13 := numS_len a.kind (hn _ (by simp [-getElem?_pos]))
  have k14 := numS_len a.time (hn _ (by simp [-getElem?_pos]))
  have k15 := numS_len a.scope (hn _ (by simp [-getElem?_pos]))
  have k16 := numS_len a.epoch (hn _ (by simp [-getElem?_pos]))
  have k17 := numS_len a.n (hn _ (by simp [-getElem?_pos]))
  have k18 := numS_len a.m (hn _ (by simp [-getElem?_pos]))
  have k19 := numS_len (a.wraps.length : Int) (by omega)
  have k20 := textS_len [97, 99, 116] (by simp [-getElem?_pos])
  simp only [coreBody, coreParts, boxS, List.flatten_cons, List.flatten_nil, List.length_append, List.length_nil, List.length_cons] at *
  omega

/-- An activity's encoding as an item. -/
noncomputable def itemBytes (a : Act) : List UInt8 := if actRight a then numS 0 ++ actBytes ruleR a else []
theorem itemBytes_ok (a : Act) (hf : a.Fits) (s : List SO) : FnOK Tryz.prog GW 125 [agg (itemOf a).cells] s (.c (.str (itemBytes a))) s := by
  have hto := hf.to; have hw := hf.wraps
  simp only [tooBig] at hto hw
  have hcl := coreBody_len a hf
  have hright := actRight_ok a hf.kind (by omega) (by omega)
  refine item_Bytes_pu { bld := [(3, 5)] } (by simp [-getElem?_pos]) rfl ?_
  simp (config := { maxSteps := 10000000 }) [-getElem?_pos, item_Bytes_R0, item_Bytes_R1, item_Bytes_R2, item_Bytes_R3, item_Bytes_R4, item_Bytes_R5, item_Bytes_R6, item_Bytes_R7, item_Bytes_R8, item_Bytes_R9, item_Bytes_L, item_Bytes_ks, agg, itemOf, Item.cells, Act.cells, Claim.cells, Ballot.cells, Decision.cells]
  refine callW0 (res := .c (.bool (actRight a))) (fun s' => by
    have h := itemOf_right a hf.kind (by omega) (by omega) s'
    simpa [-getElem?_pos, agg, itemOf, Item.cells, Act.cells, Claim.cells, Ballot.cells, Decision.cells] using h) rfl ?_
  cases hr : actRight a
  · simp (config := { maxSteps := 10000000 }) [-getElem?_pos, item_Bytes_R0, item_Bytes_R1, item_Bytes_R2, item_Bytes_R3, item_Bytes_R4, item_Bytes_R5, item_Bytes_R6, item_Bytes_R7, item_Bytes_R8, item_Bytes_R9, item_Bytes_L, item_Bytes_ks, itemBytes, hr]
  simp (config := { maxSteps := 10000000 }) [-getElem?_pos, item_Bytes_R0, item_Bytes_R1, item_Bytes_R2, item_Bytes_R3, item_Bytes_R4, item_Bytes_R5, item_Bytes_R6, item_Bytes_R7, item_Bytes_R8, item_Bytes_R9, item_Bytes_L, item_Bytes_ks]
  rw [bldSt_new]
  refine callW2 (nums_ok (isBld_st (.inl rfl) (.inr rfl)) [0] (by simp [-getElem?_pos]) (by simp [-getElem?_pos]) (by simp [-getElem?_pos]) (by simp [-getElem?_pos])) rfl ?_
  rw [bldSet_st]
  simp (config := { maxSteps := 10000000 }) [-getElem?_pos, item_Bytes_R0, item_Bytes_R1, item_Bytes_R2, item_Bytes_R3, item_Bytes_R4, item_Bytes_R5, item_Bytes_R6, item_Bytes_R7, item_Bytes_R8, item_Bytes_R9, item_Bytes_L, item_Bytes_ks]
  have hab : actBytes ruleR a = coreBody a ++ numS a.sigE ++ numS a.sigS := by
    have : rightS ruleR a = true := hr
    simp [-getElem?_pos, actBytes, this]
  have n1 := numS_len a.sigE (hf.ints _ (by simp [-getElem?_pos]))
  have n2 := numS_len a.sigS (hf.ints _ (by simp [-getElem?_pos]))
  have n0 := numS_len 0 (by omega)
  refine callW0 (actBytes_ok ruleR a hf (by omega) hright) rfl ?_
  simp (config := { maxSteps := 10000000 }) [-getElem?_pos, item_Bytes_R0, item_Bytes_R1, item_Bytes_R2, item_Bytes_R3, item_Bytes_R4, item_Bytes_R5, item_Bytes_R6, item_Bytes_R7, item_Bytes_R8, item_Bytes_R9, item_Bytes_L, item_Bytes_ks]
  have e0 : numsS [0] = numS 0 := by simp [-getElem?_pos, numsS]
  refine callW2 (writeString_ok (isBld_st (.inr rfl) (.inr rfl)) (actBytes ruleR a) (by rw [hab, e0]; simp only [List.length_append, List.nil_append]; omega)) rfl ?_
  rw [bldSet_st]
  simp (config := { maxSteps := 10000000 }) [-getElem?_pos, item_Bytes_R0, item_Bytes_R1, item_Bytes_R2, item_Bytes_R3, item_Bytes_R4, item_Bytes_R5, item_Bytes_R6, item_Bytes_R7, item_Bytes_R8, item_Bytes_R9, item_Bytes_L, item_Bytes_ks]
  have hne : numS 0 ++ actBytes ruleR a ≠ [] := by simp [-getElem?_pos, numS_ne]
  refine callW2 (string_ok (isBld_st (.inr rfl) (.inr rfl)) (by rw [e0]; simpa [-getElem?_pos] using hne) (by rw [hab, e0]; simp only [List.length_append, List.nil_append]; omega)) rfl ?_
  rw [bldSt_dead]
  simp [-getElem?_pos, itemBytes, hr, e0]
end Go.Proofs.YthkmfboffnhkaaaGreatDoor
