/-
  Walks: SHA-256 of a string.
-/
import Derived.Test.YthkmfboffnhkaaaGreatDoorW15
set_option linter.all false
namespace Go.Proofs.YthkmfboffnhkaaaGreatDoor
open Go Go.L1
set_option maxRecDepth 100000
set_option maxHeartbeats 4000000

theorem u8_range (x : Int) : 0 ≤ IntKind.u8.wrap x ∧ IntKind.u8.wrap x < 256 := by
  unfold IntKind.wrap
  simp only [IntKind.signed, IntKind.bits]
  simp [-getElem?_pos]
  omega
theorem toB_toNat {n : Int} (h0 : 0 ≤ n) (h : n < 256) : ((toB n).toNat : Int) = n := by
  unfold toB
  rw [UInt8.toNat_ofNat']
  omega
theorem writeByteI_ok {st : List SO} {id aid ep : Nat} {T : TypeId} {bs : List UInt8} (h : IsBld st id aid ep T bs) (n : Int) (h0 : 0 ≤ n) (h1 : n < 256) (hlen : bs.length + 1 ≤ 140737488355328) :
    FnOK Tryz.prog GW 209 [.ptr id 0, .c (.int .u8 n)] st .undef (bldSet st id aid (ep + 1) T (bs ++ [toB n])) := by
  have := writeByte_ok h (toB n) hlen
  rw [toB_toNat h0 h1] at this
  exact this

def padZ (n : Nat) : Nat := (119 - n % 64) % 64
noncomputable def lenB (n : Nat) (i : Nat) : UInt8 := toB (IntKind.u8.wrap (bShr .u64 (IntKind.u64.wrap (IntKind.u64.wrap n * 8)) (56 - 8 * (i : Int))))
noncomputable def lenBs (n : Nat) : Nat → List UInt8
  | 0 => []
  | i + 1 => lenBs n i ++ [lenB n i]
theorem lenBs_len (n : Nat) : ∀ i, (lenBs n i).length = i
  | 0 => rfl
  | i + 1 => by simp [-getElem?_pos, lenBs, lenBs_len n i]
noncomputable def padS (t : List UInt8) (k : Nat) : List UInt8 := t ++ toB 128 :: (List.replicate (padZ t.length) (toB 0) ++ lenBs t.length k)
theorem padS_len (t : List UInt8) (k : Nat) (hk : k = 8) : (padS t k).length = t.length + 9 + padZ t.length ∧ (padS t k).length % 64 = 0 := by
  have : (padS t k).length = t.length + 9 + padZ t.length := by simp [-getElem?_pos, padS, lenBs_len, hk]; omega
  refine ⟨this, ?_⟩
  rw [this]
  unfold padZ
  omega
theorem padded_ok (t : List UInt8) (ht : t.length ≤ 10000000000000) (k8 : Nat) (hk8 : k8 = 8) (s : List SO) : FnOK Tryz.prog GW 169 [.c (.str t)] s (.c (.str (padS t k8))) s := by
  refine sum_padded_pu { bld := [(3, 5)] } (by simp [-getElem?_pos]) rfl ?_
  simp [-getElem?_pos, sum_padded_R0, sum_padded_R1, sum_padded_R2, sum_padded_R3, sum_padded_R4, sum_padded_R5, sum_padded_B1, sum_padded_W1, sum_padded_B0, sum_padded_R6, sum_padded_R7, sum_padded_R8, sum_padded_R10, sum_padded_B3, sum_padded_R9, sum_padded_W2, sum_padded_B2, sum_padded_R11, sum_padded_L, sum_padded_ks, mixed]
  rw [bldSt_new]
  refine callW2 (writeString_ok (isBld_st (.inl rfl) (.inl rfl)) t (by simp [-getElem?_pos]; omega)) rfl ?_
  rw [bldSet_st]
  simp [-getElem?_pos, sum_padded_R0, sum_padded_R1, sum_padded_R2, sum_padded_R3, sum_padded_R4, sum_padded_R5, sum_padded_B1, sum_padded_W1, sum_padded_B0, sum_padded_R6, sum_padded_R7, sum_padded_R8, sum_padded_R10, sum_padded_B3, sum_padded_R9, sum_padded_W2, sum_padded_B2, sum_padded_R11, sum_padded_L, sum_padded_ks, mixed]
  refine callW2 (writeByteI_ok (isBld_st (.inr rfl) (.inl rfl)) 128 (by omega) (by omega) (by simp [-getElem?_pos]; omega)) rfl ?_
  rw [bldSet_st]
  simp [-getElem?_pos, sum_padded_R0, sum_padded_R1, sum_padded_R2, sum_padded_R3, sum_padded_R4, sum_padded_R5, sum_padded_B1, sum_padded_W1, sum_padded_B0, sum_padded_R6, sum_padded_R7, sum_padded_R8, sum_padded_R10, sum_padded_B3, sum_padded_R9, sum_padded_W2, sum_padded_B2, sum_padded_R11, sum_padded_L, sum_padded_ks, mixed]
  have hz : padZ t.length < 64 := by unfold padZ; omega
  refine loopM_intro (fun m e st => ∃ z ep : Nat, m = padZ t.length - z ∧ z ≤ padZ t.length ∧ st = bldSt s 213 (.ptr (s.length + 1) 0) ep (t ++ toB 128 :: List.replicate z (toB 0)) ∧
    e = [(3, .ptr (s.length + 1) 0), (0, .c (.str t))]) (padZ t.length) _ ?_ ⟨0, 2, rfl, by omega, by simp [-getElem?_pos], rfl⟩ ?_
  · simp [-getElem?_pos]
  rintro m e st ⟨z, ep, rfl, hzz, rfl, rfl⟩
  simp [-getElem?_pos, sum_padded_R0, sum_padded_R1, sum_padded_R2, sum_padded_R3, sum_padded_R4, sum_padded_R5, sum_padded_B1, sum_padded_W1, sum_padded_B0, sum_padded_R6, sum_padded_R7, sum_padded_R8, sum_padded_R10, sum_padded_B3, sum_padded_R9, sum_padded_W2, sum_padded_B2, sum_padded_R11, sum_padded_L, sum_padded_ks, mixed]
  refine callW1 (len_ok (isBld_st (.inr rfl) (.inl rfl))) rfl ?_
  have hlen : (t ++ toB 128 :: List.replicate z (toB 0)).length = t.length + 1 + z := by simp [-getElem?_pos]; omega
  rw [hlen]
  have hmod : ((t.length + 1 + z : Nat) : Int).tmod 64 = ((t.length + 1 + z) % 64 : Nat) := by
    rw [Int.tmod_eq_emod_of_nonneg (by omega)]; rfl
  by_cases hz1 : z < padZ t.length
  · have hne : ¬ (((t.length + 1 + z) % 64 : Nat) : Int) = 56 := by unfold padZ at hz1; omega
    simp [-getElem?_pos, -Int.natCast_add, -Int.natCast_emod, sum_padded_R0, sum_padded_R1, sum_padded_R2, sum_padded_R3, sum_padded_R4, sum_padded_R5, sum_padded_B1, sum_padded_W1, sum_padded_B0, sum_padded_R6, sum_padded_R7, sum_padded_R8, sum_padded_R10, sum_padded_B3, sum_padded_R9, sum_padded_W2, sum_padded_B2, sum_padded_R11, sum_padded_L, sum_padded_ks, mixed, hmod, hne]
    refine callW2 (writeByteI_ok (isBld_st (.inr rfl) (.inl rfl)) 0 (by omega) (by omega) (by rw [hlen]; omega)) rfl ?_
    rw [bldSet_st]
    simp [-getElem?_pos, sum_padded_R0, sum_padded_R1, sum_padded_R2, sum_padded_R3, sum_padded_R4, sum_padded_R5, sum_padded_B1, sum_padded_W1, sum_padded_B0, sum_padded_R6, sum_padded_R7, sum_padded_R8, sum_padded_R10, sum_padded_B3, sum_padded_R9, sum_padded_W2, sum_padded_B2, sum_padded_R11, sum_padded_L, sum_padded_ks, mixed]
    refine againM_i _ _ ?_ ?_ ⟨z + 1, ep + 1, rfl, hz1, ?_, rfl⟩
    · omega
    · simp [-getElem?_pos]
    · rw [List.replicate_succ']
  · have he : z = padZ t.length := by omega
    have heq : (((t.length + 1 + z) % 64 : Nat) : Int) = 56 := by unfold padZ at he; omega
    simp [-getElem?_pos, -Int.natCast_add, -Int.natCast_emod, sum_padded_R0, sum_padded_R1, sum_padded_R2, sum_padded_R3, sum_padded_R4, sum_padded_R5, sum_padded_B1, sum_padded_W1, sum_padded_B0, sum_padded_R6, sum_padded_R7, sum_padded_R8, sum_padded_R10, sum_padded_B3, sum_padded_R9, sum_padded_W2, sum_padded_B2, sum_padded_R11, sum_padded_L, sum_padded_ks, mixed, hmod, heq]
    refine loopM_intro (fun m e st => ∃ i ep : Nat, m = k8 - i ∧ i ≤ k8 ∧ st = bldSt s 213 (.ptr (s.length + 1) 0) ep (t ++ toB 128 :: (List.replicate z (toB 0) ++ lenBs t.length i)) ∧
      e = [(5, .c (I (56 - 8 * (i : Int)))), (4, .c (.int .u64 (IntKind.u64.wrap (IntKind.u64.wrap t.length * 8)))), (3, .ptr (s.length + 1) 0), (0, .c (.str t))]) k8 _ ?_ ⟨0, ep, rfl, by omega, by simp [-getElem?_pos, lenBs], rfl⟩ ?_
    · simp [-getElem?_pos]
    rintro m e st ⟨i, ep, rfl, hi, rfl, rfl⟩
    have hl2 : (t ++ toB 128 :: (List.replicate z (toB 0) ++ lenBs t.length i)).length = t.length + 1 + z + i := by simp [-getElem?_pos, lenBs_len]; omega
    by_cases hi8 : i < k8
    · have h56 : (0 : Int) ≤ 56 - 8 * (i : Int) := by omega
      have hw : IntKind.i64.wrap (56 - 8 * (i : Int) - 8) = 56 - 8 * ((i + 1 : Nat) : Int) := by rw [IntWalk.i64_in _ (by omega)]; omega
      obtain ⟨r0, r1⟩ := u8_range (bShr .u64 (IntKind.u64.wrap (IntKind.u64.wrap t.length * 8)) (56 - 8 * (i : Int)))
      have h87 : (8 : Int) * i ≤ 56 := by omega
      simp [-getElem?_pos, sum_padded_R0, sum_padded_R1, sum_padded_R2, sum_padded_R3, sum_padded_R4, sum_padded_R5, sum_padded_B1, sum_padded_W1, sum_padded_B0, sum_padded_R6, sum_padded_R7, sum_padded_R8, sum_padded_R10, sum_padded_B3, sum_padded_R9, sum_padded_W2, sum_padded_B2, sum_padded_R11, sum_padded_L, sum_padded_ks, mixed, h56, h87]
      refine callW2 (writeByteI_ok (isBld_st (.inr rfl) (.inl rfl)) _ r0 r1 (by rw [hl2]; omega)) rfl ?_
      rw [bldSet_st]
      simp [-getElem?_pos, sum_padded_R0, sum_padded_R1, sum_padded_R2, sum_padded_R3, sum_padded_R4, sum_padded_R5, sum_padded_B1, sum_padded_W1, sum_padded_B0, sum_padded_R6, sum_padded_R7, sum_padded_R8, sum_padded_R10, sum_padded_B3, sum_padded_R9, sum_padded_W2, sum_padded_B2, sum_padded_R11, sum_padded_L, sum_padded_ks, mixed, hw]
      refine againM_i _ _ ?_ ?_ ⟨i + 1, ep + 1, rfl, hi8, ?_, rfl⟩
      · omega
      · simp [-getElem?_pos]
      · simp [-getElem?_pos, lenBs, lenB]
    · have he8 : i = k8 := by omega
      subst he8
      have h56 : ¬ (0 : Int) ≤ 56 - 8 * (i : Int) := by omega
      have h87 : ¬ (8 : Int) * i ≤ 56 := by omega
      simp [-getElem?_pos, sum_padded_R0, sum_padded_R1, sum_padded_R2, sum_padded_R3, sum_padded_R4, sum_padded_R5, sum_padded_B1, sum_padded_W1, sum_padded_B0, sum_padded_R6, sum_padded_R7, sum_padded_R8, sum_padded_R10, sum_padded_B3, sum_padded_R9, sum_padded_W2, sum_padded_B2, sum_padded_R11, sum_padded_L, sum_padded_ks, mixed, h56, h87]
      refine callW2 (string_ok (isBld_st (.inr rfl) (.inl rfl)) (by simp [-getElem?_pos]) (by rw [hl2]; omega)) rfl ?_
      rw [bldSt_dead]
      simp [-getElem?_pos, sum_padded_R0, sum_padded_R1, sum_padded_R2, sum_padded_R3, sum_padded_R4, sum_padded_R5, sum_padded_B1, sum_padded_W1, sum_padded_B0, sum_padded_R6, sum_padded_R7, sum_padded_R8, sum_padded_R10, sum_padded_B3, sum_padded_R9, sum_padded_W2, sum_padded_B2, sum_padded_R11, sum_padded_L, sum_padded_ks, mixed, padS, he]
end Go.Proofs.YthkmfboffnhkaaaGreatDoor
