/-
  Walks: what a right activity is.
-/
import Derived.Test.YthkmfboffnhkaaaGreatDoorSH
import Derived.Test.YthkmfboffnhkaaaGreatDoorTA
set_option linter.all false
namespace Go.Proofs.YthkmfboffnhkaaaGreatDoor
attribute [local simp] act_within_R0 act_within_R1 act_within_L act_within_ks ident_Right_R0 ident_Right_R1 ident_Right_L ident_Right_ks act_isDigest_R0 act_isDigest_R1 act_isDigest_L act_isDigest_ks act_fields_unused_R0 act_fields_unused_R1 act_fields_unused_R2 act_fields_unused_L act_fields_unused_ks act_Right_R0 act_Right_R1 act_Right_R2 act_Right_R3 act_Right_R4 act_Right_R5 act_Right_R6 act_Right_R7 act_Right_R8 act_Right_R9 act_Right_R10 act_Right_L act_Right_ks
open Go Go.L1
set_option maxRecDepth 100000

theorem within_ok (n lo hi : Int) (s : List SO) : FnOK Tryz.prog GW 189 [.c (.int .i64 n), .c (.int .i64 lo), .c (.int .i64 hi)] s (.c (.bool (decide (lo ≤ n) && decide (n ≤ hi)))) s := by
  refine act_within_F.pu {} (by simp [-getElem?_pos]) rfl ?_
  simp [-getElem?_pos]
  exact exY_i _ ⟨fun _ => rfl, rfl⟩

def idRight (t : List UInt8) : Bool := ((t.length : Int) == 16) && (Lib.trimS t hexDigits == [])
theorem idRight_ok (t : List UInt8) (s : List SO) : FnOK Tryz.prog GW 188 [.c (.str t)] s (.c (.bool (idRight t))) s := by
  refine ident_Right_F.pu {} (by simp [-getElem?_pos]) rfl ?_
  simp [-getElem?_pos]
  refine exY_i (Lib.trimS t hexDigits == []) ⟨fun h => ?_, rfl⟩
  refine callW0 (trim_ok t) rfl ?_
  simp [-getElem?_pos]
def isDig (t : List UInt8) : Bool := ((t.length : Int) == 32)
theorem isDigest_ok (t : List UInt8) (s : List SO) : FnOK Tryz.prog GW 190 [.c (.str t)] s (.c (.bool (isDig t))) s := by
  refine act_isDigest_F.pu {} (by simp [-getElem?_pos]) rfl ?_
  simp [-getElem?_pos, isDig]

/-- The fields that a kind of activities uses, and its rule. -/
structure Fields where
  object : Bool
  target : Bool
  audience : Bool
  group : Bool
  to : Bool
  text : Bool
  wraps : Bool
  n : Bool
  m : Bool
  rule : C
def Fields.cells (f : Fields) : List C := [.bool f.object, .bool f.target, .bool f.audience, .bool f.group, .bool f.to, .bool f.text, .bool f.wraps, .bool f.n, .bool f.m, f.rule]
set_option maxHeartbeats 4000000
def zeroS (a : Act) : Bool := (a.scope == 0) && (a.epoch == 0) && (a.body.nonce.isEmpty && (a.body.data.isEmpty && a.body.tag.isEmpty))
def unusedS (f : Fields) (a : Act) : Bool :=
  (f.object || a.object.isEmpty) && (f.target || a.target.isEmpty) && (f.audience || zeroS a) && (f.audience || f.group || a.group.isEmpty) && (f.audience || f.to || ((a.to.length : Int) == 0)) &&
    (f.audience || f.text || a.text.isEmpty) && (f.wraps || ((a.wraps.length : Int) == 0)) && (f.n || a.n == 0) && (f.m || a.m == 0)
theorem unused_ok (f : Fields) (a : Act) (s : List SO) : FnOK Tryz.prog GW 191 [agg f.cells, agg a.cells] s (.c (.bool (unusedS f a))) s := by
  refine act_fields_unused_F.pu {} (by simp [-getElem?_pos]) rfl ?_
  simp (config := { maxSteps := 10000000 }) [-getElem?_pos, agg, Fields.cells, Act.cells, texts]
  repeat' first
    | rfl
    | (intros; rfl)
    | apply exY_and
    | intro _

/-- The fields and the rule of each kind of activities. -/
def kindsList : List (Int × Fields) := [
  (0, ⟨false, false, false, false, false, true, false, true, true, .fn 283⟩),
  (1, ⟨false, false, true, false, false, false, false, false, false, .fn 286⟩),
  (2, ⟨true, false, true, false, false, false, false, false, false, .fn 286⟩),
  (3, ⟨true, false, true, false, false, false, false, false, false, .fn 286⟩),
  (4, ⟨true, false, false, false, false, false, false, false, false, .nilfn⟩),
  (5, ⟨true, false, false, false, false, false, false, false, false, .nilfn⟩),
  (6, ⟨true, false, false, false, false, false, false, false, false, .nilfn⟩),
  (7, ⟨false, true, false, false, false, false, false, false, false, .nilfn⟩),
  (8, ⟨false, true, false, false, false, false, false, false, false, .nilfn⟩),
  (9, ⟨false, true, false, false, false, false, false, false, false, .nilfn⟩),
  (10, ⟨false, true, false, false, false, false, false, false, false, .nilfn⟩),
  (11, ⟨false, true, false, false, false, false, false, false, false, .nilfn⟩),
  (12, ⟨true, false, false, false, false, true, false, false, false, .fn 287⟩),
  (13, ⟨true, false, false, false, false, false, false, false, false, .nilfn⟩),
  (14, ⟨true, false, true, false, false, false, false, false, false, .fn 286⟩),
  (15, ⟨false, false, false, true, true, false, false, false, false, .fn 288⟩),
  (16, ⟨false, false, true, true, true, false, true, false, false, .fn 289⟩),
  (17, ⟨true, true, false, false, false, true, false, false, false, .fn 292⟩),
  (18, ⟨false, false, false, false, false, false, false, true, true, .fn 293⟩),
  (19, ⟨false, false, false, false, true, false, true, true, true, .fn 294⟩),
  (20, ⟨true, false, false, false, false, false, false, false, false, .nilfn⟩),
  (21, ⟨true, false, false, false, false, true, false, false, false, .fn 287⟩),
  (22, ⟨true, false, false, false, false, false, false, true, false, .fn 295⟩),
  (23, ⟨false, true, false, false, false, true, false, true, false, .fn 296⟩)]
def noFields : Fields := ⟨false, false, false, false, false, false, false, false, false, .nilfn⟩
def kindOf (n : Int) : Option Fields := kindsList.lookup n
def kindsTab (n : Int) : Bool × List C := ((kindOf n).isSome, ((kindOf n).getD noFields).cells)

/-- What a rule says: 'R' by the number of its function. -/
def ruleS (R : FuncId → Act → Bool) (r : C) (a : Act) : Bool := match r with
  | .fn g => R g a
  | _ => true
def inR (n lo hi : Int) : Bool := decide (lo ≤ n) && decide (n ≤ hi)
def rightS (R : FuncId → Act → Bool) (a : Act) : Bool :=
  (kindOf a.kind).isSome && idRight a.author && inR a.seq 0 1073741824 && inR a.time 0 1099511627776 && ((a.kind == 0) == (a.seq == 0)) && inR a.sigE 0 2305843009213693949 && inR a.sigS 0 2305843009213693949 &&
    !((a.seq == 0) && !a.prev.isEmpty) && !(decide (0 < a.seq) && !isDig a.prev) && unusedS ((kindOf a.kind).getD noFields) a &&
    !(((kindOf a.kind).getD noFields).object && !isDig a.object && (!((kindOf a.kind).getD noFields).target || !a.object.isEmpty)) &&
    !(((kindOf a.kind).getD noFields).target && !idRight a.target && (!((kindOf a.kind).getD noFields).object || !a.target.isEmpty)) && ruleS R ((kindOf a.kind).getD noFields).rule a
theorem kinds_rule : ∀ p ∈ kindsList, p.2.rule = .nilfn ∨ ∃ g, p.2.rule = .fn g := by simp [-getElem?_pos, kindsList]
theorem lookup_mem {l : List (Int × Fields)} {n : Int} {f : Fields} (h : l.lookup n = some f) : (n, f) ∈ l := by
  induction l with
  | nil => simp [-getElem?_pos] at h
  | cons p l ih =>
    obtain ⟨k, g⟩ := p
    simp only [List.lookup] at h
    split at h
    · next hk => injection h with h; subst h; simp [-getElem?_pos] at hk; subst hk; exact List.mem_cons_self ..
    · exact List.mem_cons_of_mem _ (ih h)
theorem right_ok (R : FuncId → Act → Bool) (a : Act) (hk : (Lit.int .i64 a.kind).wf = true) (hG : HasG GW 0) (hL : LookG Tryz.prog GW 0 250 kindsTab)
    (hR : ∀ g s, (∃ p ∈ kindsList, p.2.rule = .fn g) → FnOK Tryz.prog GW g [agg a.cells] s (.c (.bool (R g a))) s) (s : List SO) :
    FnOK Tryz.prog GW 152 [agg a.cells] s (.c (.bool (rightS R a))) s := by
  refine act_Right_F.pu {} (by simp [-getElem?_pos]) rfl ?_
  simp (config := { maxSteps := 10000000 }) [-getElem?_pos, agg, Act.cells, texts, hG]
  refine ⟨kindsTab, hG, hk, hL, ?_⟩
  generalize hf : (kindOf a.kind).getD noFields = f
  generalize ho : (kindOf a.kind).isSome = ok
  simp (config := { maxSteps := 10000000 }) [-getElem?_pos, kindsTab, hf, ho, Fields.cells]
  refine exY_i (!idRight a.author) ⟨fun _ => callW0 (idRight_ok _) rfl (by simp [-getElem?_pos]), exY_i (!inR a.seq 0 1073741824) ⟨fun _ _ => callW0 (within_ok _ _ _) rfl (by simp [-getElem?_pos, inR]),
    exY_i (!inR a.time 0 1099511627776) ⟨fun _ _ _ => callW0 (within_ok _ _ _) rfl (by simp [-getElem?_pos, inR]), exY_i (!((a.kind == 0) == (a.seq == 0))) ⟨fun _ _ _ _ => by simp [-getElem?_pos], fun h => ?_, fun h1 h2 h3 h4 h5 => ?_⟩⟩⟩⟩
  · rw [Bool.eq_false_iff]; intro ht
    simp only [rightS, hf, ho, Bool.and_eq_true] at ht
    clear hR hL hG
    simp_all
  refine callW0 (within_ok _ _ _) rfl ?_
  simp (config := { maxSteps := 10000000 }) [-getElem?_pos]
  refine exY_i (!inR a.sigS 0 2305843009213693949) ⟨fun _ _ => callW0 (within_ok _ _ _) rfl (by simp [-getElem?_pos, inR]), fun h => ?_, fun h6 h7 h8 => ?_⟩
  · rw [Bool.eq_false_iff]; intro ht
    simp only [rightS, hf, ho, Bool.and_eq_true] at ht
    clear hR hL hG
    have hse : inR a.sigE 0 2305843009213693949 = true := ht.1.1.1.1.1.1.1.2
    have hss : inR a.sigS 0 2305843009213693949 = true := ht.1.1.1.1.1.1.2
    simp only [inR, Bool.and_eq_true, decide_eq_true_eq] at hse
    simp [-getElem?_pos, hss] at h
    omega
  refine exY_i (!a.prev.isEmpty) ⟨fun _ => by simp [-getElem?_pos], exY_i (decide (0 < a.seq) && !isDig a.prev) ⟨fun _ => exY_i (!isDig a.prev) ⟨fun _ => callW0 (isDigest_ok _) rfl (by simp [-getElem?_pos]), rfl⟩,
    exY_i (!unusedS f a) ⟨fun _ _ => callW0 (unused_ok f a) rfl (by simp [-getElem?_pos]), fun h => ?_, fun h9 h10 h11 => ?_⟩⟩⟩
  · rw [Bool.eq_false_iff]; intro ht
    simp only [rightS, hf, ho, Bool.and_eq_true] at ht
    have k1 := ht.1.1.1.1.1.2
    have k2 := ht.1.1.1.1.2
    have k3 := ht.1.1.1.2
    clear hR hL hG ht
    simp_all
    rcases h with h | h <;> rcases k1 with k1 | k1 <;> rcases k2 with k2 | k2 <;> first | (exfalso; omega) | simp_all
  refine exY_i (!isDig a.object) ⟨fun _ => callW0 (isDigest_ok _) rfl (by simp [-getElem?_pos]), exY_i (!f.target || !a.object.isEmpty) ⟨fun _ _ => exY_i (!a.object.isEmpty) ⟨fun _ => by simp [-getElem?_pos], rfl⟩,
    exY_i (f.target && !idRight a.target && (!f.object || !a.target.isEmpty)) ⟨fun _ => exY_i (!idRight a.target) ⟨fun _ => callW0 (idRight_ok _) rfl (by simp [-getElem?_pos]),
      exY_i (!f.object || !a.target.isEmpty) ⟨fun _ _ => exY_i (!a.target.isEmpty) ⟨fun _ => by simp [-getElem?_pos], rfl⟩, rfl⟩⟩, fun h => ?_, fun h12 h13 => ?_⟩⟩⟩
  · rw [Bool.eq_false_iff]; intro ht
    simp only [rightS, hf, ho, Bool.and_eq_true] at ht
    have k1 := ht.1.1.2
    have k2 := ht.1.2
    clear hR hL hG ht
    simp_all
    rcases h with ⟨h, h'⟩ | ⟨h, h'⟩ <;> rcases k1 with (k1 | k1) | k1 <;> rcases k2 with (k2 | k2) | k2 <;> simp_all
  have hkf : kindOf a.kind = some f := by
    rw [h1] at ho
    obtain ⟨f', hf'⟩ := Option.isSome_iff_exists.1 ho
    rw [hf'] at hf ⊢
    simpa [-getElem?_pos] using hf
  have hmem := lookup_mem hkf
  have hrs : rightS R a = ruleS R f.rule a := by
    unfold rightS
    rw [hf, ho, h1]
    simp only [Bool.not_eq_false'] at h2 h3 h4 h5 h8 h11
    have e1 : inR a.sigE 0 2305843009213693949 = true := by simp [-getElem?_pos, inR]; exact ⟨h6, h7⟩
    have e2 : (!((a.seq == 0) && !a.prev.isEmpty)) = true := by
      cases hs : (a.seq == 0)
      · rfl
      · have := h9 (by simpa [-getElem?_pos] using hs); simp [-getElem?_pos] at this; simp [-getElem?_pos, this]
    have e3 : (!(f.object && !isDig a.object && (!f.target || !a.object.isEmpty))) = true := by
      cases ho' : f.object
      · rfl
      · cases hd : isDig a.object
        · have := h12 ho' (by simp [-getElem?_pos, hd]); simp only [this]; rfl
        · rfl
    have e4 : (!(decide (0 < a.seq) && !isDig a.prev)) = true := by rw [h10]; rfl
    have e5 : (!(f.target && !idRight a.target && (!f.object || !a.target.isEmpty))) = true := by rw [h13]; rfl
    simp only [h2, h3, h4, h5, h8, h11, e1, e2, e3, e4, e5, Bool.true_and]
  rw [hrs]
  rcases kinds_rule _ hmem with hr | ⟨g, hr⟩
  · have hr : f.rule = .nilfn := hr
    simp [-getElem?_pos, hr, ruleS]
    exact ⟨true, trivial⟩
  · have hr' : f.rule = .fn g := hr
    simp [-getElem?_pos, hr', ruleS]
    refine exY_i (R g a) ⟨?_, rfl⟩
    refine callW0 (fun s => hR g s ⟨_, hmem, hr⟩) rfl ?_
    simp [-getElem?_pos]
end Go.Proofs.YthkmfboffnhkaaaGreatDoor
