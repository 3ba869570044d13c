/-
  Walks: SHA-256.
  Walks: SHA-256 of a string.
-/
import Derived.Test.YthkmfboffnhkaaaGreatDoorWB
import Derived.Test.YthkmfboffnhkaaaGreatDoorTC
set_option linter.all false
namespace Go.Proofs.YthkmfboffnhkaaaGreatDoor
attribute [local simp] sum_word_R0 sum_word_R1 sum_word_L sum_word_ks math_bits_RotateLeft32_R0 math_bits_RotateLeft32_R1 math_bits_RotateLeft32_R2 math_bits_RotateLeft32_L math_bits_RotateLeft32_ks sum_rotations_R0 sum_rotations_R1 sum_rotations_L sum_rotations_ks sum_start_R0 sum_start_R1 sum_start_L sum_start_ks sum_constants_R0 sum_constants_R1 sum_constants_L sum_constants_ks sum_schedule_R0 sum_schedule_R1 sum_schedule_R2 sum_schedule_R3 sum_schedule_R4 sum_schedule_R5 sum_schedule_R6 sum_schedule_R7 sum_schedule_R8 sum_schedule_R9 sum_schedule_B1 sum_schedule_R10 sum_schedule_W1 sum_schedule_B0 sum_schedule_R11 sum_schedule_L sum_schedule_ks sum_state_step_R0 sum_state_step_R1 sum_state_step_R2 sum_state_step_R3 sum_state_step_R4 sum_state_step_R5 sum_state_step_R6 sum_state_step_R7 sum_state_step_R8 sum_state_step_R9 sum_state_step_R10 sum_state_step_B1 sum_state_step_R11 sum_state_step_W1 sum_state_step_B0 sum_state_step_R12 sum_state_step_R13 sum_state_step_R14 sum_state_step_R15 sum_state_step_B3 sum_state_step_R16 sum_state_step_W2 sum_state_step_B2 sum_state_step_R17 sum_state_step_L sum_state_step_ks sum_padded_R0 sum_padded_R1 sum_padded_R2 sum_padded_R3 sum_padded_R4 sum_padded_R5 sum_padded_B1 sum_padded_W1 sum_padded_B0 sum_padded_R6 sum_padded_R7 sum_padded_R8 sum_padded_R10 sum_padded_B3 sum_padded_R9 sum_padded_W2 sum_padded_B2 sum_padded_R11 sum_padded_L sum_padded_ks
open Go Go.L1
set_option maxRecDepth 100000
set_option maxHeartbeats 4000000

abbrev U (n : Int) : V := .c (.int .u32 n)
abbrev u32 (n : Int) : Int := IntKind.u32.wrap n
noncomputable def wordS (l : List UInt8) : Int :=
  let b (i : Nat) : Int := u32 ((l[i]?).getD 0).toNat
  bOr .u32 (bOr .u32 (bOr .u32 (bShl .u32 (b 0) 24) (bShl .u32 (b 1) 16)) (bShl .u32 (b 2) 8)) (b 3)
theorem word_ok (l : List UInt8) (h : 4 ≤ l.length) (s : List SO) : FnOK Tryz.prog GW 231 [.c (.str l)] s (.c (.int .u32 (wordS l))) s := by
  obtain ⟨b0, b1, b2, b3, r, rfl⟩ : ∃ b0 b1 b2 b3 r, l = b0 :: b1 :: b2 :: b3 :: r := by
    match l, h with
    | b0 :: b1 :: b2 :: b3 :: r, _ => exact ⟨b0, b1, b2, b3, r, rfl⟩
  refine sum_word_F.pu {} (by simp [-getElem?_pos]) rfl ?_
  simp [-getElem?_pos, mixed, wordS]
theorem u64_nn (n : Int) : 0 ≤ IntKind.u64.wrap n := by
  unfold IntKind.wrap
  simp only [IntKind.signed, IntKind.bits]
  simp [-getElem?_pos]
  omega
noncomputable def rotS (x k : Int) : Int :=
  let s := bAnd .u64 (IntKind.u64.wrap k) 31
  bOr .u32 (bShl .u32 x s) (bShr .u32 x (IntKind.u64.wrap (32 - s)))
theorem rotl_ok (x k : Int) (s : List SO) : FnOK Tryz.prog GW 232 [.c (.int .u32 x), .c (.int .i64 k)] s (.c (.int .u32 (rotS x k))) s := by
  have h1 : 0 ≤ bAnd .u64 (IntKind.u64.wrap k) 31 := by rw [bAnd_eq]; exact u64_nn _
  have h2 := u64_nn (32 - bAnd .u64 (IntKind.u64.wrap k) 31)
  refine math_bits_RotateLeft32_F.pu {} (by simp [-getElem?_pos]) rfl ?_
  simp [-getElem?_pos, mixed, h1, h2, rotS]
noncomputable def rots (x a b c : Int) : Int := bXor .u32 (bXor .u32 (rotS x (IntKind.i64.wrap (0 - a))) (rotS x (IntKind.i64.wrap (0 - b)))) (rotS x (IntKind.i64.wrap (0 - c)))
theorem rotations_ok (x a b c : Int) (s : List SO) : FnOK Tryz.prog GW 213 [.c (.int .u32 x), .c (.int .i64 a), .c (.int .i64 b), .c (.int .i64 c)] s (.c (.int .u32 (rots x a b c))) s := by
  refine sum_rotations_F.pu {} (by simp [-getElem?_pos]) rfl ?_
  simp [-getElem?_pos, mixed]
  refine callW0 (rotl_ok _ _) rfl ?_
  simp [-getElem?_pos]
  refine callW0 (rotl_ok _ _) rfl ?_
  simp [-getElem?_pos]
  refine callW0 (rotl_ok _ _) rfl ?_
  simp [-getElem?_pos, rots]
theorem start_ok (s : List SO) : ∃ l : List Int, l.length = 8 ∧ FnOK Tryz.prog GW 168 [] s (.agg (l.map U)) s := by
  refine ⟨[1779033703, 3144134277, 1013904242, 2773480762, 1359893119, 2600822924, 528734635, 1541459225], rfl, ?_⟩
  refine sum_start_F.pu {} (by simp [-getElem?_pos]) rfl ?_
  simp [-getElem?_pos, mixed]
def constsK : List Int := [1116352408, 1899447441, 3049323471, 3921009573, 961987163, 1508970993, 2453635748, 2870763221, 3624381080, 310598401, 607225278, 1426881987, 1925078388, 2162078206, 2614888103, 3248222580, 3835390401, 4022224774, 264347078, 604807628, 770255983, 1249150122, 1555081692, 1996064986, 2554220882, 2821834349, 2952996808, 3210313671, 3336571891, 3584528711, 113926993, 338241895, 666307205, 773529912, 1294757372, 1396182291, 1695183700, 1986661051, 2177026350, 2456956037, 2730485921, 2820302411, 3259730800, 3345764771, 3516065817, 3600352804, 4094571909, 275423344, 430227734, 506948616, 659060556, 883997877, 958139571, 1322822218, 1537002063, 1747873779, 1955562222, 2024104815, 2227730452, 2361852424, 2428436474, 2756734187, 3204031479, 3329325298]
theorem constants_ok (s : List SO) : FnOK Tryz.prog GW 212 [] s (.agg (constsK.map U)) s := by
  refine sum_constants_F.pu {} (by simp [-getElem?_pos]) rfl ?_
  simp [-getElem?_pos, -fillV, mixed]
  refine wS_i (a := constsK.map U) (by kernel_rfl) ?_
  simp [-getElem?_pos, mixed, constsK]

theorem noRefs_U : ∀ l : List Int, noRef.noRefs (l.map U) = true
  | [] => rfl
  | _ :: l => by simp [-getElem?_pos, noRef.noRefs, noRef, noRefs_U l]
theorem noRef_U (l : List Int) : noRef (.agg (l.map U)) = true := by rw [noRef]; exact noRefs_U l
/-- A word of a list, 0 behind its end. -/
def at0 (l : List Int) (k : Nat) : Int := (l[k]?).getD 0
noncomputable def schedW (i : Nat) (ws : List Int) : Int :=
    u32 (u32 (u32 (at0 ws (i - 16) + bXor .u32 (bXor .u32 (rotS (at0 ws (i - 15)) (-7)) (rotS (at0 ws (i - 15)) (-18))) (bShr .u32 (at0 ws (i - 15)) 3)) + at0 ws (i - 7)) +
      bXor .u32 (bXor .u32 (rotS (at0 ws (i - 2)) (-17)) (rotS (at0 ws (i - 2)) (-19))) (bShr .u32 (at0 ws (i - 2)) 10))
noncomputable def schedV (t : List UInt8) (i : Nat) (ws : List Int) : Int := if i < 16 then wordS (t.drop (4 * i)) else schedW i ws
noncomputable def schedF (t : List UInt8) : Nat → List Int
  | 0 => List.replicate 64 0
  | i + 1 => (schedF t i).set i (schedV t i (schedF t i))
theorem schedF_len (t : List UInt8) : ∀ i, (schedF t i).length = 64
  | 0 => by simp [-getElem?_pos, schedF]
  | i + 1 => by simp [-getElem?_pos, schedF, schedF_len t i]
theorem set_mapU (l : List Int) (k : Nat) (x : Int) (h : k < l.length) : (l.map U).take k ++ U x :: (l.map U).drop (k + 1) = (l.set k x).map U := by
  rw [List.map_set, List.set_eq_take_append_cons_drop, if_pos (by simpa [-getElem?_pos] using h)]
theorem schedule_ok (t : List UInt8) (ht : t.length = 64) (n : Nat) (hn : n = 64) (s : List SO) : FnOK Tryz.prog GW 211 [.c (.str t)] s (.agg ((schedF t n).map U)) s := by
  refine sum_schedule_F.pu {} (by simp [-getElem?_pos]) (noRef_U _) ?_
  simp [-getElem?_pos, mixed]
  refine loopM_intro (fun m e st => ∃ i : Nat, m = n - i ∧ i ≤ n ∧ st = s ∧ e = [(8, .c (I i)), (2, .box ((schedF t i).map U)), (0, .c (.str t))]) n _ ?_ ⟨0, rfl, by omega, rfl, rfl⟩ ?_
  · simp [-getElem?_pos, schedF, List.replicate]
  rintro m e st ⟨i, rfl, hi, rfl, rfl⟩
  have hlen := schedF_len t i
  have hlenI : ((schedF t i).map U).length = 64 := by simp [-getElem?_pos, hlen]
  by_cases h : i < n
  · have hw : IntKind.i64.wrap ((i : Int) + 1) = ((i + 1 : Nat) : Int) := wrap_succ h (by omega)
    have hI : (i : Int) < 64 := by omega
    have hI' : ¬ (64 : Int) ≤ i := by omega
    by_cases h16 : i < 16
    · have h4 : IntKind.i64.wrap (4 * (i : Int)) = 4 * (i : Int) := by rw [IntWalk.i64_in _ (by omega)]
      have h4n : (0 : Int) ≤ 4 * (i : Int) := by omega
      have h4t : (4 * (i : Int)).toNat = 4 * i := by omega
      have h16I : (i : Int) < 16 := by omega
      have h16' : ¬ (16 : Int) ≤ i := by omega
      have h4l : 4 * i ≤ 64 := by omega
      simp [-getElem?_pos, mixed, hI, hI', h16I, h16', h4, h4n, h4t, ht, h4l, hlen]
      have htk : List.take 64 t = t := List.take_of_length_le (by omega)
      rw [htk]
      refine callW0 (word_ok (t.drop (4 * i)) (by simp [-getElem?_pos]; omega)) rfl ?_
      have hst := set_mapU (schedF t i) i (wordS (t.drop (4 * i))) (by omega)
      simp [-getElem?_pos, mixed, hI, hI', hlen, hst, hw, show i + 1 ≤ 64 by omega]
      refine againM_i _ _ ?_ ?_ ⟨i + 1, rfl, h, rfl, rfl⟩
      · omega
      · simp [-getElem?_pos, schedF, schedV, h16]
    · have h16I : ¬ (i : Int) < 16 := by omega
      have h16' : (16 : Int) ≤ i := by omega
      have w15 : IntKind.i64.wrap ((i : Int) - 15) = ((i - 15 : Nat) : Int) := by rw [IntWalk.i64_in _ (by omega)]; omega
      have w2 : IntKind.i64.wrap ((i : Int) - 2) = ((i - 2 : Nat) : Int) := by rw [IntWalk.i64_in _ (by omega)]; omega
      have w16 : IntKind.i64.wrap ((i : Int) - 16) = ((i - 16 : Nat) : Int) := by rw [IntWalk.i64_in _ (by omega)]; omega
      have w7 : IntKind.i64.wrap ((i : Int) - 7) = ((i - 7 : Nat) : Int) := by rw [IntWalk.i64_in _ (by omega)]; omega
      have at_ : ∀ k, k < 64 → (schedF t i)[k]? = some (at0 (schedF t i) k) := fun k hk => by
        rw [at0, List.getElem?_eq_getElem (by omega)]; rfl
      have l15 : ((i - 15 : Nat) : Int) < 64 := by omega
      have l2 : ((i - 2 : Nat) : Int) < 64 := by omega
      have l16 : ((i - 16 : Nat) : Int) < 64 := by omega
      have l7 : ((i - 7 : Nat) : Int) < 64 := by omega
      simp [-getElem?_pos, mixed, hI, hI', h16I, h16', w15, w2, w16, w7, l15, l2, l16, l7, at_ (i - 15) (by omega), at_ (i - 2) (by omega), at_ (i - 16) (by omega), at_ (i - 7) (by omega), hlen]
      refine callW0 (rotl_ok _ _) rfl ?_
      simp [-getElem?_pos]
      refine callW0 (rotl_ok _ _) rfl ?_
      simp [-getElem?_pos]
      refine callW0 (rotl_ok _ _) rfl ?_
      simp [-getElem?_pos]
      refine callW0 (rotl_ok _ _) rfl ?_
      have hst := set_mapU (schedF t i) i (schedV t i (schedF t i)) (by omega)
      have hv : schedV t i (schedF t i) = schedW i (schedF t i) := by unfold schedV; rw [if_neg h16]
      rw [hv] at hst
      simp only [schedW, u32] at hst
      simp [-getElem?_pos, mixed, hI, hI', h16I, h16', w15, w2, w16, w7, l15, l2, l16, l7, at_ (i - 15) (by omega), at_ (i - 2) (by omega), at_ (i - 16) (by omega), at_ (i - 7) (by omega), hlen, hw, show i + 1 ≤ 64 by omega]
      refine againM_i _ _ ?_ ?_ ⟨i + 1, rfl, h, rfl, rfl⟩
      · omega
      · simp [-getElem?_pos, schedF, hv, schedW]
        rw [← List.map_set]; exact hst
  · have he : i = n := by omega
    subst he
    have hI : ¬ (i : Int) < 64 := by omega
    have hI' : (64 : Int) ≤ i := by omega
    have htk : List.take 64 ((schedF t i).map U) = (schedF t i).map U := List.take_of_length_le (by omega)
    simp [-getElem?_pos, mixed, hI, hI', hlen, htk]

/-- A round. -/
noncomputable def roundT (w v : List Int) (i : Nat) : Int :=
  u32 (u32 (u32 (u32 (at0 v 7 + rots (at0 v 4) 6 11 25) + bXor .u32 (bAnd .u32 (at0 v 4) (at0 v 5)) (bAnd .u32 (bNot .u32 (at0 v 4)) (at0 v 6))) + at0 constsK i) + at0 w i)
noncomputable def roundU (v : List Int) : Int :=
  u32 (rots (at0 v 0) 2 13 22 + bXor .u32 (bXor .u32 (bAnd .u32 (at0 v 0) (at0 v 1)) (bAnd .u32 (at0 v 0) (at0 v 2))) (bAnd .u32 (at0 v 1) (at0 v 2)))
noncomputable def roundS (w v : List Int) (i : Nat) : List Int :=
  [u32 (roundT w v i + roundU v), at0 v 0, at0 v 1, at0 v 2, u32 (at0 v 3 + roundT w v i), at0 v 4, at0 v 5, at0 v 6]
noncomputable def roundsS (w v : List Int) : Nat → List Int
  | 0 => v
  | i + 1 => roundS w (roundsS w v i) i
theorem roundsS_len (w v : List Int) (h : v.length = 8) : ∀ i, (roundsS w v i).length = 8
  | 0 => h
  | i + 1 => rfl
noncomputable def addS (h v : List Int) : Nat → List Int
  | 0 => v
  | i + 1 => (addS h v i).set i (u32 (at0 (addS h v i) i + at0 h i))
theorem addS_len (h v : List Int) (hv : v.length = 8) : ∀ i, (addS h v i).length = 8
  | 0 => hv
  | i + 1 => by simp [-getElem?_pos, addS, addS_len h v hv i]
noncomputable def stepS (n m : Nat) (h : List Int) (t : List UInt8) : List Int := addS h (roundsS (schedF t n) h n) m
theorem step_ok (h : List Int) (hh : h.length = 8) (t : List UInt8) (ht : t.length = 64) (n m : Nat) (hn : n = 64) (hm : m = 8) (s : List SO) :
    FnOK Tryz.prog GW 170 [.agg (h.map U), .c (.str t)] s (.agg ((stepS n m h t).map U)) s := by
  refine sum_state_step_F.pu { frz := [(2, [7])] } (by simp [-getElem?_pos]) (noRef_U _) ?_
  obtain ⟨h0, h1, h2, h3, h4, h5, h6, h7, rfl⟩ : ∃ a b c d e f g i, h = [a, b, c, d, e, f, g, i] := by
    match h, hh with
    | [a, b, c, d, e, f, g, i], _ => exact ⟨a, b, c, d, e, f, g, i, rfl⟩
  simp [-getElem?_pos, List.lookup, mixed]
  refine callW0 (schedule_ok t ht n hn) rfl ?_
  simp [-getElem?_pos, List.lookup, mixed]
  refine callW0 constants_ok rfl ?_
  have hl := schedF_len t n
  have hk : constsK.length = 64 := by kernel_rfl
  have hlm : List.take 64 ((schedF t n).map U) = (schedF t n).map U := List.take_of_length_le (by simp [-getElem?_pos, hl])
  have hkm : List.take 64 (constsK.map U) = constsK.map U := List.take_of_length_le (by simp [-getElem?_pos, hk])
  simp [-getElem?_pos, List.lookup, mixed, hl, hk]
  refine loopM_intro (fun k e st => ∃ i : Nat, k = n - i ∧ i ≤ n ∧ st = s ++ [.box ((roundsS (schedF t n) [h0, h1, h2, h3, h4, h5, h6, h7] i).map U)] ∧
    e = [(18, .c (I i)), (7, .ptr s.length 0), (6, .box (constsK.map U)), (5, .box ((schedF t n).map U)), (4, .box [U 0, U 0, U 0, U 0, U 0, U 0, U 0, U 0]), (2, .box [U h0, U h1, U h2, U h3, U h4, U h5, U h6, U h7])]) n _ ?_ ⟨0, rfl, by omega, by simp [-getElem?_pos, roundsS], rfl⟩ ?_
  · simp [-getElem?_pos, hlm, hkm]
  rintro k e st ⟨i, rfl, hi, rfl, rfl⟩
  have hvl := roundsS_len (schedF t n) [h0, h1, h2, h3, h4, h5, h6, h7] rfl i
  have hrs : roundsS (schedF t n) [h0, h1, h2, h3, h4, h5, h6, h7] (i + 1) = roundS (schedF t n) (roundsS (schedF t n) [h0, h1, h2, h3, h4, h5, h6, h7] i) i := rfl
  by_cases hin : i < n
  · have hw : IntKind.i64.wrap ((i : Int) + 1) = ((i + 1 : Nat) : Int) := wrap_succ hin (by omega)
    have hI : (i : Int) < 64 := by omega
    have ak : constsK[i]? = some (at0 constsK i) := by rw [at0, List.getElem?_eq_getElem (by omega)]; rfl
    have aw : (schedF t n)[i]? = some (at0 (schedF t n) i) := by rw [at0, List.getElem?_eq_getElem (by omega)]; rfl
    generalize hv : roundsS (schedF t n) [h0, h1, h2, h3, h4, h5, h6, h7] i = v at hvl hrs
    obtain ⟨v0, v1, v2, v3, v4, v5, v6, v7, rfl⟩ : ∃ a b c d e f g i, v = [a, b, c, d, e, f, g, i] := by
      match v, hvl with
      | [a, b, c, d, e, f, g, i], _ => exact ⟨a, b, c, d, e, f, g, i, rfl⟩
    simp [-getElem?_pos, List.lookup, mixed, hI]
    refine callW0 (rotations_ok _ _ _ _) rfl ?_
    simp [-getElem?_pos, List.lookup, mixed, hI, ak, aw]
    refine callW0 (rotations_ok _ _ _ _) rfl ?_
    simp [-getElem?_pos, List.lookup, mixed, hI, ak, aw, hw]
    refine againM_i _ _ ?_ ?_ ⟨i + 1, rfl, hin, ?_, rfl⟩
    · omega
    · simp [-getElem?_pos]
    · rw [hrs]; simp [-getElem?_pos, roundS, roundT, roundU, at0]
  · have he : i = n := by omega
    subst he
    have hI : ¬ (i : Int) < 64 := by omega
    have hI' : (64 : Int) ≤ i := by omega
    simp [-getElem?_pos, List.lookup, mixed, hI, hI']
    generalize hr : roundsS (schedF t i) [h0, h1, h2, h3, h4, h5, h6, h7] i = r at hvl
    have hst : stepS i m [h0, h1, h2, h3, h4, h5, h6, h7] t = addS [h0, h1, h2, h3, h4, h5, h6, h7] r m := by unfold stepS; rw [hr]
    rw [hst]
    refine loopM_intro (fun k e st => ∃ q : Nat, k = m - q ∧ q ≤ m ∧ st = s ++ [.box ((addS [h0, h1, h2, h3, h4, h5, h6, h7] r q).map U)] ∧
      e = [(80, .c (I q)), (7, .ptr s.length 0), (4, .box [U 0, U 0, U 0, U 0, U 0, U 0, U 0, U 0]), (2, .box ([h0, h1, h2, h3, h4, h5, h6, h7].map U))]) m _ ?_ ⟨0, rfl, by omega, by simp [-getElem?_pos, addS], rfl⟩ ?_
    · simp [-getElem?_pos]
    rintro k e st ⟨q, rfl, hq, rfl, rfl⟩
    have hal := addS_len [h0, h1, h2, h3, h4, h5, h6, h7] r hvl q
    generalize hh8 : [h0, h1, h2, h3, h4, h5, h6, h7] = h8 at *
    by_cases hqm : q < m
    · have hw : IntKind.i64.wrap ((q : Int) + 1) = ((q + 1 : Nat) : Int) := wrap_succ hqm (by omega)
      have hQ : (q : Int) < 8 := by omega
      have a1 : (addS h8 r q)[q]? = some (at0 (addS h8 r q) q) := by rw [at0, List.getElem?_eq_getElem (by omega)]; rfl
      have a2 : h8[q]? = some (at0 h8 q) := by rw [at0, List.getElem?_eq_getElem (by omega)]; rfl
      have hset := set_mapU (addS h8 r q) q (u32 (at0 (addS h8 r q) q + at0 h8 q)) (by omega)
      simp only [u32] at hset
      simp [-getElem?_pos, List.lookup, mixed, hQ, a1, a2, hal, hh, hw, show q + 1 ≤ 8 by omega]
      refine againM_i _ _ ?_ ?_ ⟨q + 1, rfl, hqm, ?_, rfl⟩
      · omega
      · simp [-getElem?_pos]
      · simp only [addS, u32]; rw [← hset]
    · have he : q = m := by omega
      subst he
      have hQ : ¬ (q : Int) < 8 := by omega
      have hQ' : (8 : Int) ≤ q := by omega
      have htk : List.take 8 ((addS h8 r q).map U) = (addS h8 r q).map U := List.take_of_length_le (by simp [-getElem?_pos, hal])
      simp [-getElem?_pos, List.lookup, mixed, hQ, hQ', hal, htk]
end Go.Proofs.YthkmfboffnhkaaaGreatDoor
namespace Go.Proofs.YthkmfboffnhkaaaGreatDoor
attribute [local simp] sum_word_R0 sum_word_R1 sum_word_L sum_word_ks math_bits_RotateLeft32_R0 math_bits_RotateLeft32_R1 math_bits_RotateLeft32_R2 math_bits_RotateLeft32_L math_bits_RotateLeft32_ks sum_rotations_R0 sum_rotations_R1 sum_rotations_L sum_rotations_ks sum_start_R0 sum_start_R1 sum_start_L sum_start_ks sum_constants_R0 sum_constants_R1 sum_constants_L sum_constants_ks sum_schedule_R0 sum_schedule_R1 sum_schedule_R2 sum_schedule_R3 sum_schedule_R4 sum_schedule_R5 sum_schedule_R6 sum_schedule_R7 sum_schedule_R8 sum_schedule_R9 sum_schedule_B1 sum_schedule_R10 sum_schedule_W1 sum_schedule_B0 sum_schedule_R11 sum_schedule_L sum_schedule_ks sum_state_step_R0 sum_state_step_R1 sum_state_step_R2 sum_state_step_R3 sum_state_step_R4 sum_state_step_R5 sum_state_step_R6 sum_state_step_R7 sum_state_step_R8 sum_state_step_R9 sum_state_step_R10 sum_state_step_B1 sum_state_step_R11 sum_state_step_W1 sum_state_step_B0 sum_state_step_R12 sum_state_step_R13 sum_state_step_R14 sum_state_step_R15 sum_state_step_B3 sum_state_step_R16 sum_state_step_W2 sum_state_step_B2 sum_state_step_R17 sum_state_step_L sum_state_step_ks sum_padded_R0 sum_padded_R1 sum_padded_R2 sum_padded_R3 sum_padded_R4 sum_padded_R5 sum_padded_B1 sum_padded_W1 sum_padded_B0 sum_padded_R6 sum_padded_R7 sum_padded_R8 sum_padded_R10 sum_padded_B3 sum_padded_R9 sum_padded_W2 sum_padded_B2 sum_padded_R11 sum_padded_L sum_padded_ks
open Go Go.L1
set_option maxRecDepth 100000
set_option maxHeartbeats 4000000

theorem u8_range (x : Int) : 0 ≤ IntKind.u8.wrap x ∧ IntKind.u8.wrap x < 256 := by
  unfold IntKind.wrap
  simp only [IntKind.signed, IntKind.bits]
  simp [-getElem?_pos]
  omega
theorem toB_toNat {n : Int} (h0 : 0 ≤ n) (h : n < 256) : ((toB n).toNat : Int) = n := by
  unfold toB
  rw [UInt8.toNat_ofNat']
  omega
theorem writeByteI_ok {st : List SO} {id aid ep : Nat} {T : TypeId} {bs : List UInt8} (h : IsBld st id aid ep T bs) (n : Int) (h0 : 0 ≤ n) (h1 : n < 256) (hlen : bs.length + 1 ≤ 140737488355328) :
    FnOK Tryz.prog GW 209 [.ptr id 0, .c (.int .u8 n)] st .undef (bldSet st id aid (ep + 1) T (bs ++ [toB n])) := by
  have := writeByte_ok h (toB n) hlen
  rw [toB_toNat h0 h1] at this
  exact this

def padZ (n : Nat) : Nat := (119 - n % 64) % 64
noncomputable def lenB (n : Nat) (i : Nat) : UInt8 := toB (IntKind.u8.wrap (bShr .u64 (IntKind.u64.wrap (IntKind.u64.wrap n * 8)) (56 - 8 * (i : Int))))
noncomputable def lenBs (n : Nat) : Nat → List UInt8
  | 0 => []
  | i + 1 => lenBs n i ++ [lenB n i]
theorem lenBs_len (n : Nat) : ∀ i, (lenBs n i).length = i
  | 0 => rfl
  | i + 1 => by simp [-getElem?_pos, lenBs, lenBs_len n i]
noncomputable def padS (t : List UInt8) (k : Nat) : List UInt8 := t ++ toB 128 :: (List.replicate (padZ t.length) (toB 0) ++ lenBs t.length k)
theorem padS_len (t : List UInt8) (k : Nat) (hk : k = 8) : (padS t k).length = t.length + 9 + padZ t.length ∧ (padS t k).length % 64 = 0 := by
  have : (padS t k).length = t.length + 9 + padZ t.length := by simp [-getElem?_pos, padS, lenBs_len, hk]; omega
  refine ⟨this, ?_⟩
  rw [this]
  unfold padZ
  omega
theorem padded_ok (t : List UInt8) (ht : t.length ≤ 10000000000000) (k8 : Nat) (hk8 : k8 = 8) (s : List SO) : FnOK Tryz.prog GW 169 [.c (.str t)] s (.c (.str (padS t k8))) s := by
  refine sum_padded_F.pu { bld := [(3, 5)] } (by simp [-getElem?_pos]) rfl ?_
  simp [-getElem?_pos, mixed]
  rw [bldSt_new]
  refine callW2 (writeString_ok (isBld_st (.inl rfl) (.inl rfl)) t (by simp [-getElem?_pos]; omega)) rfl ?_
  rw [bldSet_st]
  simp [-getElem?_pos, mixed]
  refine callW2 (writeByteI_ok (isBld_st (.inr rfl) (.inl rfl)) 128 (by omega) (by omega) (by simp [-getElem?_pos]; omega)) rfl ?_
  rw [bldSet_st]
  simp [-getElem?_pos, mixed]
  have hz : padZ t.length < 64 := by unfold padZ; omega
  refine loopM_intro (fun m e st => ∃ z ep : Nat, m = padZ t.length - z ∧ z ≤ padZ t.length ∧ st = bldSt s 213 (.ptr (s.length + 1) 0) ep (t ++ toB 128 :: List.replicate z (toB 0)) ∧
    e = [(3, .ptr (s.length + 1) 0), (0, .c (.str t))]) (padZ t.length) _ ?_ ⟨0, 2, rfl, by omega, by simp [-getElem?_pos], rfl⟩ ?_
  · simp [-getElem?_pos]
  rintro m e st ⟨z, ep, rfl, hzz, rfl, rfl⟩
  simp [-getElem?_pos, mixed]
  refine callW1 (len_ok (isBld_st (.inr rfl) (.inl rfl))) rfl ?_
  have hlen : (t ++ toB 128 :: List.replicate z (toB 0)).length = t.length + 1 + z := by simp [-getElem?_pos]; omega
  rw [hlen]
  have hmod : ((t.length + 1 + z : Nat) : Int).tmod 64 = ((t.length + 1 + z) % 64 : Nat) := by
    rw [Int.tmod_eq_emod_of_nonneg (by omega)]; rfl
  by_cases hz1 : z < padZ t.length
  · have hne : ¬ (((t.length + 1 + z) % 64 : Nat) : Int) = 56 := by unfold padZ at hz1; omega
    simp [-getElem?_pos, -Int.natCast_add, -Int.natCast_emod, mixed, hmod, hne]
    refine callW2 (writeByteI_ok (isBld_st (.inr rfl) (.inl rfl)) 0 (by omega) (by omega) (by rw [hlen]; omega)) rfl ?_
    rw [bldSet_st]
    simp [-getElem?_pos, mixed]
    refine againM_i _ _ ?_ ?_ ⟨z + 1, ep + 1, rfl, hz1, ?_, rfl⟩
    · omega
    · simp [-getElem?_pos]
    · rw [List.replicate_succ']
  · have he : z = padZ t.length := by omega
    have heq : (((t.length + 1 + z) % 64 : Nat) : Int) = 56 := by unfold padZ at he; omega
    simp [-getElem?_pos, -Int.natCast_add, -Int.natCast_emod, mixed, hmod, heq]
    refine loopM_intro (fun m e st => ∃ i ep : Nat, m = k8 - i ∧ i ≤ k8 ∧ st = bldSt s 213 (.ptr (s.length + 1) 0) ep (t ++ toB 128 :: (List.replicate z (toB 0) ++ lenBs t.length i)) ∧
      e = [(5, .c (I (56 - 8 * (i : Int)))), (4, .c (.int .u64 (IntKind.u64.wrap (IntKind.u64.wrap t.length * 8)))), (3, .ptr (s.length + 1) 0), (0, .c (.str t))]) k8 _ ?_ ⟨0, ep, rfl, by omega, by simp [-getElem?_pos, lenBs], rfl⟩ ?_
    · simp [-getElem?_pos]
    rintro m e st ⟨i, ep, rfl, hi, rfl, rfl⟩
    have hl2 : (t ++ toB 128 :: (List.replicate z (toB 0) ++ lenBs t.length i)).length = t.length + 1 + z + i := by simp [-getElem?_pos, lenBs_len]; omega
    by_cases hi8 : i < k8
    · have h56 : (0 : Int) ≤ 56 - 8 * (i : Int) := by omega
      have hw : IntKind.i64.wrap (56 - 8 * (i : Int) - 8) = 56 - 8 * ((i + 1 : Nat) : Int) := by rw [IntWalk.i64_in _ (by omega)]; omega
      obtain ⟨r0, r1⟩ := u8_range (bShr .u64 (IntKind.u64.wrap (IntKind.u64.wrap t.length * 8)) (56 - 8 * (i : Int)))
      have h87 : (8 : Int) * i ≤ 56 := by omega
      simp [-getElem?_pos, mixed, h56, h87]
      refine callW2 (writeByteI_ok (isBld_st (.inr rfl) (.inl rfl)) _ r0 r1 (by rw [hl2]; omega)) rfl ?_
      rw [bldSet_st]
      simp [-getElem?_pos, mixed, hw]
      refine againM_i _ _ ?_ ?_ ⟨i + 1, ep + 1, rfl, hi8, ?_, rfl⟩
      · omega
      · simp [-getElem?_pos]
      · simp [-getElem?_pos, lenBs, lenB]
    · have he8 : i = k8 := by omega
      subst he8
      have h56 : ¬ (0 : Int) ≤ 56 - 8 * (i : Int) := by omega
      have h87 : ¬ (8 : Int) * i ≤ 56 := by omega
      simp [-getElem?_pos, mixed, h56, h87]
      refine callW2 (string_ok (isBld_st (.inr rfl) (.inl rfl)) (by simp [-getElem?_pos]) (by rw [hl2]; omega)) rfl ?_
      rw [bldSt_dead]
      simp [-getElem?_pos, mixed, padS, he]
end Go.Proofs.YthkmfboffnhkaaaGreatDoor
