/-
  What the package variable act.kinds tells a look-up.
-/
import Derived.Test.YthkmfboffnhkaaaGreatDoorWD
import Derived.LaidMore
import Derived.Maps.Keyed
import Derived.WideKeyElems2
set_option linter.all false
namespace Go.Proofs.YthkmfboffnhkaaaGreatDoor
open Go Go.L1
set_option maxRecDepth 100000

def ruleBytes : List (FuncId × (UInt8 × List UInt8)) := [
  (283, 97, [103, 111, 114, 97, 47, 97, 99, 116, 46, 107, 105, 110, 100, 115, 36, 49]),
  (286, 97, [103, 111, 114, 97, 47, 97, 99, 116, 46, 97, 117, 100, 105, 101, 110, 99, 101]),
  (287, 97, [103, 111, 114, 97, 47, 97, 99, 116, 46, 114, 101, 97, 115, 111, 110]),
  (288, 97, [103, 111, 114, 97, 47, 97, 99, 116, 46, 107, 105, 110, 100, 115, 36, 50]),
  (289, 97, [103, 111, 114, 97, 47, 97, 99, 116, 46, 107, 105, 110, 100, 115, 36, 51]),
  (292, 97, [103, 111, 114, 97, 47, 97, 99, 116, 46, 107, 105, 110, 100, 115, 36, 52]),
  (293, 97, [103, 111, 114, 97, 47, 97, 99, 116, 46, 107, 105, 110, 100, 115, 36, 53]),
  (294, 97, [103, 111, 114, 97, 47, 97, 99, 116, 46, 107, 105, 110, 100, 115, 36, 54]),
  (295, 97, [103, 111, 114, 97, 47, 97, 99, 116, 46, 107, 105, 110, 100, 115, 36, 55]),
  (296, 97, [103, 111, 114, 97, 47, 97, 99, 116, 46, 107, 105, 110, 100, 115, 36, 56])]
def ruleD (r : C) : DataW (List UInt8) := match r with
  | .fn g => match ruleBytes.lookup g with
    | some p => .held (p.1 :: p.2)
    | none => .nil
  | _ => .nil
def fieldsD (f : Fields) : DataW (List UInt8) :=
  .agg [.lit (.bool f.object), .lit (.bool f.target), .lit (.bool f.audience), .lit (.bool f.group), .lit (.bool f.to), .lit (.bool f.text), .lit (.bool f.wraps), .lit (.bool f.n), .lit (.bool f.m), ruleD f.rule]
def kindsD : DataW Unit := match (Rows.laid_agora_act_kinds : DataW Unit) with
  | .iface _ d => d
  | _ => .nil
theorem kindsD_out : kindsD.funcsOut = .map (kindsList.map fun p => (.int .i64 p.1, fieldsD p.2)) := by kernel_rfl
theorem kinds_mem : ("agora/act.kinds", DataW.iface "func table" kindsD) ∈ Rows.listsGrowsRow.laid := List.Mem.tail _ (List.Mem.head _)
theorem gKinds : Tryz.prog.globalNamed "agora/act.kinds" = some 0 := by kernel_rfl
theorem tKinds : (Tryz.prog.globals[0]?).map (·.type) = some 250 := by kernel_rfl
theorem cells248 : Tryz.prog.cellsOf 248 = 10 := by kernel_rfl
theorem cells4 : Tryz.prog.cellsOf 4 = 1 := by kernel_rfl
theorem cells151 : Tryz.prog.cellsOf 151 = 1 := by kernel_rfl
noncomputable def onlyOne (p : FuncId × (UInt8 × List UInt8)) : Bool := ((List.range Tryz.prog.funcs.size).filter fun f => (Tryz.prog.funcs[f]?).any (·.name.toUTF8.data.toList == p.2.1 :: p.2.2)) == [p.1]
theorem rules_one : ruleBytes.all onlyOne = true := by kernel_rfl
theorem rules_have : kindsList.all (fun p => match p.2.rule with
  | .fn g => (ruleBytes.lookup g).isSome
  | .nilfn => true
  | _ => false) = true := by kernel_rfl

theorem one_of {g : FuncId} {p : UInt8 × List UInt8} (h : ruleBytes.lookup g = some p) :
    ((List.range Tryz.prog.funcs.size).filter fun f => (Tryz.prog.funcs[f]?).any (·.name.toUTF8.data.toList == p.1 :: p.2)) = [g] := by
  have key : ∀ (l : List (FuncId × (UInt8 × List UInt8))), l.all onlyOne = true → l.lookup g = some p → onlyOne (g, p) = true := by
    intro l
    induction l with
    | nil => simp
    | cons q l ih =>
      obtain ⟨k, q⟩ := q
      intro h1 h2
      simp only [List.all_cons, Bool.and_eq_true] at h1
      simp only [List.lookup] at h2
      split at h2
      · next hk => injection h2 with h2; subst h2; simp at hk; subst hk; exact h1.1
      · exact ih h1.2 h2
  have := key _ rules_one h
  unfold onlyOne at this
  exact eq_of_beq this

section
variable {B : World} {sp : Nat → Bool} {n : Nat} {q : List MemPlace}
theorem open_rule {r : C} {v : Value} (hr : r = .nilfn ∨ ∃ g, r = .fn g ∧ (ruleBytes.lookup g).isSome = true) (h : DataW.trod (funcToken Tryz.prog) Tryz.prog B 0 sp true n 151 [v] = some (ruleD r, q)) (w : World) :
    RelC (fun _ => False) w r v := by
  rcases hr with rfl | ⟨g, rfl, hg⟩
  · cases n with
    | zero => simp [DataW.trod] at h
    | succ n =>
      cases v <;> simp [DataW.trod, Tryz.underlying151, ruleD] at h
      exact .nilfn
  · obtain ⟨p, hp⟩ := Option.isSome_iff_exists.1 hg
    simp only [ruleD, hp] at h
    rw [func_of_trod (f0 := g) Tryz.underlying151 (one_of hp) h]
    exact .fn g
theorem open_b {b : Bool} {v : Value} (h : DataW.trod (funcToken Tryz.prog) Tryz.prog B 0 sp true n 4 [v] = some (.lit (.bool b), q)) (w : World) : RelC (fun _ => False) w (.bool b) v := by
  obtain ⟨b', h1, h2⟩ := DataW.trod_bool Tryz.underlying4 h
  simp at h1 h2
  subst h1
  rw [h2.1]
  exact .bool b'
theorem open_fields {f : Fields} {v : Value} (hv : v.formed Tryz.prog 248 = true) (hr : f.rule = .nilfn ∨ ∃ g, f.rule = .fn g ∧ (ruleBytes.lookup g).isSome = true)
    (h : DataW.trod (funcToken Tryz.prog) Tryz.prog B 0 sp true n 248 v.cells.toList = some (fieldsD f, q)) (w : World) :
    ∃ vs : Array Value, v = .agg vs ∧ vs.size = f.cells.length ∧ ∀ (i : Nat) c x, f.cells[i]? = some c → vs[i]? = some x → RelC (fun _ => False) w c x := by
  have hag : ∃ vs : Array Value, v = .agg vs ∧ vs.size = 10 := by
    cases v <;> simp [Value.formed, Tryz.underlying248] at hv
    next vs => exact ⟨vs, rfl, by rw [hv, cells248]⟩
  obtain ⟨⟨l⟩, rfl, hs⟩ := hag
  match l, hs with
  | [v0, v1, v2, v3, v4, v5, v6, v7, v8, v9], _ =>
    obtain ⟨xs, m, _, hx, _, hlen, hf⟩ := DataW.trod_struct Tryz.underlying248 h
    match xs, hlen with
    | [(d0, p0), (d1, p1), (d2, p2), (d3, p3), (d4, p4), (d5, p5), (d6, p6), (d7, p7), (d8, p8), (d9, p9)], _ =>
      simp only [fieldsD, List.map_cons, List.map_nil, Prod.mk.injEq, DataW.agg.injEq, List.cons.injEq] at hx
      obtain ⟨⟨h0, h1, h2, h3, h4, h5, h6, h7, h8, h9, _⟩, _⟩ := hx
      subst h0 h1 h2 h3 h4 h5 h6 h7 h8 h9
      have k0 := hf 0 _ rfl
      have k1 := hf 1 _ rfl
      have k2 := hf 2 _ rfl
      have k3 := hf 3 _ rfl
      have k4 := hf 4 _ rfl
      have k5 := hf 5 _ rfl
      have k6 := hf 6 _ rfl
      have k7 := hf 7 _ rfl
      have k8 := hf 8 _ rfl
      have k9 := hf 9 _ rfl
      simp [Value.cells, cells4, cells151] at k0 k1 k2 k3 k4 k5 k6 k7 k8 k9
      refine ⟨_, rfl, rfl, fun i c x hi hx => ?_⟩
      have r0 := open_b k0 w
      have r1 := open_b k1 w
      have r2 := open_b k2 w
      have r3 := open_b k3 w
      have r4 := open_b k4 w
      have r5 := open_b k5 w
      have r6 := open_b k6 w
      have r7 := open_b k7 w
      have r8 := open_b k8 w
      have r9 := open_rule hr k9 w
      match i with
      | 0 | 1 | 2 | 3 | 4 | 5 | 6 | 7 | 8 | 9 => simp [Fields.cells] at hi hx; subst hi hx; assumption
      | k + 10 => simp [Fields.cells] at hi
end

theorem kinds_hasG : HasG GW 0 := by
  intro w hw
  obtain ⟨g, t, cs, fuel, p, hg, ht, hv, hd⟩ := hw.funcs kinds_mem
  obtain rfl := Option.some.inj (gKinds.symm.trans hg)
  obtain rfl := Option.some.inj (tKinds.symm.trans ht)
  rw [kindsD_out] at hd
  rcases WideElems.open_map Tryz.underlying250 hd with ⟨_, h⟩ | ⟨b, es, clock, m, _, hcs, _⟩
  · simp at h
  · have hc := World.var?_cell hg hv 0
    rw [Array.eq_one_of_toList hcs] at hc
    refine ⟨?_, _, hc⟩
    unfold World.cell? at hc
    rcases Nat.lt_or_ge 0 w.heap.size with h | h
    · exact h
    · rw [Array.getElem?_eq_none h] at hc; simp at hc
theorem at_list (n : Int) (zd : DataW (List UInt8)) : ∀ l : List (Int × Fields), (DataW.map (l.map fun p => (Lit.int .i64 p.1, fieldsD p.2))).atKey (.int .i64 n) zd = match l.lookup n with
    | some f => fieldsD f
    | none => zd
  | [] => rfl
  | (k, f) :: l => by
    have ih := at_list n zd l
    by_cases h : k = n
    · subst h; simp [DataW.atKey, Lit.sameKey, List.lookup]
    · have h2 : (n == k) = false := by simpa using Ne.symm h
      simp only [List.lookup, h2]
      rw [← ih]
      simp [DataW.atKey, Lit.sameKey, h]
theorem kinds_look : LookG Tryz.prog GW 0 250 kindsTab := by
  intro B w hB hw x hx n hn
  obtain ⟨g, t, cs, fuel, p, hg, ht, hv, hd⟩ := hB.funcs kinds_mem
  obtain rfl := Option.some.inj (gKinds.symm.trans hg)
  obtain rfl := Option.some.inj (tKinds.symm.trans ht)
  rw [kindsD_out] at hd
  rcases WideElems.open_map Tryz.underlying250 hd with ⟨_, h⟩ | ⟨b, es, clock, m, _, hcs, hb, _, hF, hxx⟩
  · simp at h
  · have hc := World.var?_cell hg hv 0
    rw [Array.eq_one_of_toList hcs, hx] at hc
    simp at hc
    subst hc
    have hblt : b < B.heap.size := by
      rcases Nat.lt_or_ge b B.heap.size with h | h
      · exact h
      · rw [Array.getElem?_eq_none h] at hb; simp at hb
    have hb' : w.heap[b]? = some (.map es clock) := by rw [hw b hblt]; exact hb
    simp only [Prod.mk.injEq, DataW.map.injEq] at hxx
    obtain ⟨hE, _⟩ := hxx
    obtain ⟨z, hz1, hz2⟩ := zeroV_run (P := Tryz.prog) (w := w) (e := 248) (v := agg noFields.cells) (by kernel_rfl)
    have hkey : keyOf Tryz.prog 3 (.int .i64 n) = some (.int .i64 n) := by simp [keyOf, mapKey, Tryz.underlying3, hn]
    rcases Maps.fit_look true (Maps.int_keyed Tryz.underlying3) Tryz.underlying250 hz1 hb' hF hkey with ⟨h1, _, h3⟩ | ⟨e0, y, h1, h2, h3, h4, h5, _⟩
    · rw [← hE] at h3
      have hnone : kindOf n = none := by
        cases hk : kindOf n with
        | none => rfl
        | some f =>
          have := h3 .nil
          rw [at_list, show kindsList.lookup n = some f from hk] at this
          simp [fieldsD] at this
      have hrz := relV_valOf (γ := ⟨w, fun _ => False, []⟩) (w := w) z
      rw [← hz2] at hrz
      cases hrz with
      | agg _ vs hl hh =>
        refine ⟨vs, by simpa [kindsTab, hnone] using h1, by simpa [kindsTab, hnone] using hl, fun i c v hi hv => ?_⟩
        simp only [kindsTab, hnone, Option.getD_none] at hi
        have := hh i (.c c) v (by rw [List.getElem?_map, hi]; rfl) hv
        cases this with | c _ _ h => exact h
    · rw [← hE] at h5
      cases hk : kindOf n with
      | none =>
        have k1 := h5 .nil
        have k2 := h5 (.lit (.bool true))
        rw [at_list, show kindsList.lookup n = none from hk] at k1 k2
        rw [← k1] at k2
        cases k2
      | some f =>
        have k1 := h5 .nil
        rw [at_list, show kindsList.lookup n = some f from hk] at k1
        simp only at k1
        simp only [WideElems.elemAt] at h4
        split at h4
        · next hform =>
          have hy : y = (fieldsD f, y.2) := by rw [k1]
          rw [hy] at h4
          have hrule : f.rule = .nilfn ∨ ∃ g, f.rule = .fn g ∧ (ruleBytes.lookup g).isSome = true := by
            have := List.all_eq_true.1 rules_have _ (lookup_mem hk)
            simp only at this
            split at this
            · next g hg => exact .inr ⟨g, hg, this⟩
            · next hg => exact .inl hg
            · cases this
          obtain ⟨vs, g1, g2, g3⟩ := open_fields hform hrule h4 w
          refine ⟨vs, ?_, by simpa [kindsTab, hk] using g2, fun i c v hi hv => ?_⟩
          · rw [g1] at h3; simpa [kindsTab, hk] using h3
          · simp only [kindsTab, hk, Option.getD_some] at hi
            exact g3 i c v hi hv
        · cases h4
end Go.Proofs.YthkmfboffnhkaaaGreatDoor
