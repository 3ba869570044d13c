/-
  Walks: SHA-256 of a string, digests of activities, places by digest.
-/
import Derived.Test.YthkmfboffnhkaaaGreatDoorWH
import Derived.Test.YthkmfboffnhkaaaGreatDoorW14
import Derived.Test.YthkmfboffnhkaaaGreatDoorW1
set_option linter.all false
namespace Go.Proofs.YthkmfboffnhkaaaGreatDoor
attribute [local simp] sum_start_R0 sum_start_R1 sum_start_L sum_start_ks sum_Sha_R0 sum_Sha_R1 sum_Sha_R2 sum_Sha_R3 sum_Sha_R5 sum_Sha_B1 sum_Sha_R4 sum_Sha_W1 sum_Sha_B0 sum_Sha_R6 sum_Sha_R7 sum_Sha_R8 sum_Sha_R9 sum_Sha_R10 sum_Sha_B3 sum_Sha_R11 sum_Sha_W2 sum_Sha_B2 sum_Sha_R12 sum_Sha_L sum_Sha_ks item_Digest_R0 item_Digest_R1 item_Digest_R2 item_Digest_R3 item_Digest_R4 item_Digest_L item_Digest_ks chain_Index_1_R0 chain_Index_1_R1 chain_Index_1_L chain_Index_1_ks chain_Index_R0 chain_Index_R1 chain_Index_R2 chain_Index_L chain_Index_ks
open Go Go.L1
set_option maxRecDepth 100000
set_option maxHeartbeats 4000000

noncomputable def blocksS (n m : Nat) : Nat → List Int → List UInt8 → List Int
  | 0, h, _ => h
  | k + 1, h, p => blocksS n m k (stepS n m h (p.take 64)) (p.drop 64)
theorem stepS_len {n m : Nat} {h : List Int} (hh : h.length = 8) (t : List UInt8) : (stepS n m h t).length = 8 := by
  unfold stepS
  exact addS_len _ _ (roundsS_len _ _ hh _) _
theorem blocksS_len {n m : Nat} : ∀ (k : Nat) (h : List Int) (p : List UInt8), h.length = 8 → (blocksS n m k h p).length = 8
  | 0, _, _, hh => hh
  | k + 1, h, p, hh => blocksS_len k _ _ (stepS_len hh _)
abbrev w8 (n : Int) : Int := IntKind.u8.wrap n
noncomputable def outI (H : List Int) : Nat → List Int
  | 0 => []
  | i + 1 => outI H i ++ [w8 (bShr .u32 (at0 H i) 24), w8 (bShr .u32 (at0 H i) 16), w8 (bShr .u32 (at0 H i) 8), w8 (at0 H i)]
theorem outI_len (H : List Int) : ∀ i, (outI H i).length = 4 * i
  | 0 => rfl
  | i + 1 => by simp [-getElem?_pos, outI, outI_len H i]; omega
theorem sha_ex (t : List UInt8) (ht : t.length ≤ 10000000000000) : ∃ d : List UInt8, d.length = 32 ∧ ∀ s, FnOK Tryz.prog GW 126 [.c (.str t)] s (.c (.str d)) s := by
  obtain ⟨n, hn⟩ : ∃ n, n = 64 := ⟨_, rfl⟩
  obtain ⟨m, hm⟩ : ∃ m, m = 8 := ⟨_, rfl⟩
  obtain ⟨k8, hk8⟩ : ∃ m, m = 8 := ⟨_, rfl⟩
  obtain ⟨h0, hh0, hstart⟩ := start_ok []
  have hstart' : ∃ l : List Int, l.length = 8 ∧ ∀ s, FnOK Tryz.prog GW 168 [] s (.agg (l.map U)) s := by
    refine ⟨[1779033703, 3144134277, 1013904242, 2773480762, 1359893119, 2600822924, 528734635, 1541459225], rfl, fun s => ?_⟩
    refine sum_start_F.pu {} (by simp [-getElem?_pos]) rfl ?_
    simp [-getElem?_pos, mixed]
  clear hstart hh0 h0
  obtain ⟨h0, hh0, hstart⟩ := hstart'
  obtain ⟨hp1, hp2⟩ := padS_len t k8 hk8
  have hpz : padZ t.length < 64 := by unfold padZ; omega
  generalize hP : padS t k8 = P at hp1 hp2
  obtain ⟨H, hH⟩ : ∃ H, H = blocksS n m (P.length / 64) h0 P := ⟨_, rfl⟩
  have hHl : H.length = 8 := by rw [hH]; exact blocksS_len _ _ _ hh0
  refine ⟨(outI H m).map toB, by rw [List.length_map, outI_len]; omega, fun s => ?_⟩
  refine sum_Sha_F.pu { own := [(5, 5, 1)] } (by simp [-getElem?_pos]) rfl ?_
  simp [-getElem?_pos, List.lookup, mixed]
  refine callW0 hstart rfl ?_
  have htk0 : List.take 8 (h0.map U) = h0.map U := List.take_of_length_le (by simp [-getElem?_pos, hh0])
  simp [-getElem?_pos, List.lookup, mixed, hh0, htk0]
  refine callW0 (padded_ok t ht k8 hk8) rfl ?_
  rw [hP]
  simp [-getElem?_pos, List.lookup, mixed]
  refine loopM_intro (fun q e st => ∃ (h : List Int) (p : List UInt8), q = p.length ∧ p.length % 64 = 0 ∧ p.length ≤ 20000000000000 ∧ h.length = 8 ∧ blocksS n m (p.length / 64) h p = H ∧ st = s ∧
    e = [(4, .c (.str p)), (3, .box (h.map U))]) P.length _ ?_ ⟨h0, P, rfl, hp2, by omega, hh0, hH.symm, rfl, rfl⟩ ?_
  · simp [-getElem?_pos]
  rintro q e st ⟨h, p, rfl, hp, hpl, hh, hb, rfl, rfl⟩
  have htk : List.take 8 (h.map U) = h.map U := List.take_of_length_le (by simp [-getElem?_pos, hh])
  by_cases hpe : p = []
  · subst hpe
    have hb : h = H := hb
    subst hb
    simp [-getElem?_pos, List.lookup, mixed, hh, htk]
    refine loopM_intro (fun q e st' => ∃ i ep : Nat, q = m - i ∧ i ≤ m ∧ st' = st ++ [.arr 5 1 ep ((outI h i).map b8)] ∧ e = [(20, .c (I i)), (19, .agg (h.map U)), (5, .own st.length ep)]) m _ ?_ ⟨0, 0, rfl, by omega, by simp [-getElem?_pos, outI], rfl⟩ ?_
    · simp [-getElem?_pos]
    rintro q e st' ⟨i, ep, rfl, hi, rfl, rfl⟩
    have hol := outI_len h i
    by_cases him : i < m
    · have hw : IntKind.i64.wrap ((i : Int) + 1) = ((i + 1 : Nat) : Int) := wrap_succ him (by omega)
      have hI : (i : Int) < 8 := by omega
      have ai : h[i]? = some (at0 h i) := by rw [at0, List.getElem?_eq_getElem (by omega)]; rfl
      simp [-getElem?_pos, List.lookup, mixed, hI, ai, hol, hw]
      refine ⟨by omega, by omega, againM_i _ _ ?_ ?_ ⟨i + 1, ep + 1, rfl, him, ?_, rfl⟩⟩
      · omega
      · simp [-getElem?_pos]
      · simp [-getElem?_pos, outI, b8]
    · have he : i = m := by omega
      subst he
      have hI : ¬ (i : Int) < 8 := by omega
      have hI' : (8 : Int) ≤ i := by omega
      simp [-getElem?_pos, List.lookup, mixed, hI, hI', bytesOf_b8]
      omega
  · have hp0 : 0 < p.length := List.length_pos_iff.2 hpe
    have hp64 : 64 ≤ p.length := by omega
    simp [-getElem?_pos, List.lookup, mixed, hh, htk, hpe, hp64]
    refine callW0 (step_ok h hh (p.take 64) (by simp [-getElem?_pos]; omega) n m hn hm) rfl ?_
    have hsl := stepS_len (n := n) (m := m) hh (p.take 64)
    have hstk : List.take 8 ((stepS n m h (p.take 64)).map U) = (stepS n m h (p.take 64)).map U := List.take_of_length_le (by simp [-getElem?_pos, hsl])
    simp [-getElem?_pos, List.lookup, mixed, hh, htk, hp64, hsl, hstk]
    refine againM_i _ _ ?_ ?_ ⟨stepS n m h (p.take 64), p.drop 64, rfl, by simp [-getElem?_pos]; omega, by simp [-getElem?_pos]; omega, hsl, ?_, rfl, rfl⟩
    · simp [-getElem?_pos]; omega
    · have hd : List.drop 8 (h.map U) = [] := List.drop_eq_nil_of_le (by simp [-getElem?_pos, hh])
      simp [-getElem?_pos, hd]
    · rw [← hb]
      have : p.length / 64 = (p.drop 64).length / 64 + 1 := by simp [-getElem?_pos]; omega
      rw [this]; rfl
noncomputable def shaS (t : List UInt8) : List UInt8 := if h : t.length ≤ 10000000000000 then Classical.choose (sha_ex t h) else []
theorem sha_ok (t : List UInt8) (h : t.length ≤ 10000000000000) (s : List SO) : FnOK Tryz.prog GW 126 [.c (.str t)] s (.c (.str (shaS t))) s := by
  unfold shaS
  rw [dif_pos h]
  exact (Classical.choose_spec (sha_ex t h)).2 s

/-- An activity's digest. -/
noncomputable def digestS (a : Act) : List UInt8 := if itemBytes a = [] then [] else shaS (itemBytes a)
theorem itemBytes_len (a : Act) (hf : a.Fits) : (itemBytes a).length ≤ 6000000000000 := by
  have h0 := coreBody_len a hf
  have n1 := numS_len a.sigE (hf.ints _ (by simp [-getElem?_pos]))
  have n2 := numS_len a.sigS (hf.ints _ (by simp [-getElem?_pos]))
  have n0 := numS_len 0 (by omega)
  unfold itemBytes
  split
  · unfold actBytes
    split <;> simp [-getElem?_pos] <;> omega
  · simp [-getElem?_pos]
theorem digest_ok (a : Act) (hf : a.Fits) (s : List SO) : FnOK Tryz.prog GW 84 [agg (itemOf a).cells] s (.c (.str (digestS a))) s := by
  refine item_Digest_F.pu {} (by simp [-getElem?_pos]) rfl ?_
  simp (config := { maxSteps := 10000000 }) [-getElem?_pos, agg, itemOf, Item.cells, Act.cells, Claim.cells, Ballot.cells, Decision.cells]
  refine callW0 (res := .c (.str (itemBytes a))) (fun s' => by
    have h := itemBytes_ok a hf s'
    simpa [-getElem?_pos, agg, itemOf, Item.cells, Act.cells, Claim.cells, Ballot.cells, Decision.cells] using h) rfl ?_
  simp (config := { maxSteps := 10000000 }) [-getElem?_pos]
  refine ⟨fun h => by simp [-getElem?_pos, digestS, h], fun h => ?_⟩
  refine callW0 (sha_ok _ (Nat.le_trans (itemBytes_len a hf) (by omega))) rfl ?_
  simp (config := { maxSteps := 10000000 }) [-getElem?_pos, digestS, h]
theorem index1_ok (a : Act) (hf : a.Fits) (d : List UInt8) (st : List SO) (id : Nat) (h : st[id]? = some (.box [.c (.str d)])) :
    FnOK Tryz.prog GW 83 [agg a.cells, .ptr id 0] st (.c (.bool (digestS a == d))) st := by
  have hto := hf.to; have hw := hf.wraps
  simp only [tooBig] at hto hw
  refine chain_Index_1_F.pu {} (by simp [-getElem?_pos]) rfl ?_
  simp (config := { maxSteps := 10000000 }) [-getElem?_pos, agg, Act.cells, mixed]
  refine callW0 (ofAct_ok a (by omega) (by omega)) rfl ?_
  simp (config := { maxSteps := 10000000 }) [-getElem?_pos, agg, itemOf, Item.cells, Act.cells, Claim.cells, Ballot.cells, Decision.cells]
  refine callW0 (res := .c (.str (digestS a))) (fun s' => by
    have h := digest_ok a hf s'
    simpa [-getElem?_pos, agg, itemOf, Item.cells, Act.cells, Claim.cells, Ballot.cells, Decision.cells] using h) rfl ?_
  simp (config := { maxSteps := 10000000 }) [-getElem?_pos, h]
theorem idx_find {α : Type} (p : α → Bool) (l : List α) : idx p l = match l.findIdx? p with | some i => (i : Int) | none => -1 := rfl
/-- The place of a digest: its number, and whether there is one. -/
noncomputable def indexR (c : Chain) (d : List UInt8) : V := .tup [.c (I (((indexS digestS c.acts d).getD 0 : Nat) : Int)), .c (.bool (indexS digestS c.acts d).isSome)]
theorem index_ok (c : Chain) (hc : ∀ a ∈ c.acts, a.Fits) (hl : c.acts.length ≤ 1073741824) (d : List UInt8) (s : List SO) : FnOK Tryz.prog GW 45 [agg c.cells, .c (.str d)] s (indexR c d) s := by
  refine chain_Index_F.pu { esc := [3] } (by simp [-getElem?_pos]) rfl ?_
  simp [-getElem?_pos, agg, Chain.cells]
  refine callW1 (indexAct_ok Act.cells (fun _ => rfl) c.acts hl (fun a => digestS a == d) 83 [.ptr s.length 0] _ (fun a ha => index1_ok a (hc a ha) d _ _ (by simp [-getElem?_pos])) rfl) rfl ?_
  simp [-getElem?_pos]
  rw [idx_find]
  unfold indexR indexS
  cases hf : c.acts.findIdx? (fun a => digestS a == d) <;> simp [-getElem?_pos] <;> omega
end Go.Proofs.YthkmfboffnhkaaaGreatDoor
