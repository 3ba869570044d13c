/-
  L1, part l: own arrays lent to calls that give flat data back. Generic in the program.
-/
import Derived.Test.YthkmfboffnhkaaaGreatDoorM5
set_option linter.all false
namespace Go.L1
open Go

/-- What an own array holds, as data. -/
def viewC (st : List SO) : V → V
  | .c x => .c x
  | .own id ep => match st[id]? with
    | some (.arr _ _ ep' xs) => if ep' = ep then .c (.sl xs) else .undef
    | _ => .undef
  | _ => .undef
def viewV (st : List SO) : V → V
  | .agg cs => .agg (cs.map (viewC st))
  | v => viewC st v
def flatC : C → Bool
  | .bool _ | .int _ _ | .str _ => true
  | _ => false
def flat1 : V → Bool
  | .c x => flatC x
  | _ => false
def flatV : V → Bool
  | .c x => flatC x
  | .tup cs => cs.all flat1
  | .agg cs => cs.all flat1
  | _ => false

theorem flatC_rel {p p' : Nat → Prop} {w w' : World} {c : C} {x : Value} (hf : flatC c = true) (h : RelC p w c x) : RelC p' w' c x := by
  cases h with
  | bool b => exact .bool b
  | int k n => exact .int k n
  | str s hs => exact .str s hs
  | nilsl => simp [flatC] at hf
  | sl => simp [flatC] at hf
  | fn => simp [flatC] at hf
  | nilfn => simp [flatC] at hf
  | nilp => simp [flatC] at hf
  | nilm => simp [flatC] at hf
theorem flat1_rel {γ γ' : Gh} {w w' : World} {v : V} {x : Value} (hf : flat1 v = true) (h : RelV γ w v x) : RelV γ' w' v x := by
  cases v with
  | c y => cases h with | c _ _ h => exact .c _ _ (flatC_rel hf h)
  | _ => simp [flat1] at hf
theorem flatV_rel {γ γ' : Gh} {w w' : World} {v : V} {x : Value} (hf : flatV v = true) (h : RelV γ w v x) : RelV γ' w' v x := by
  cases v with
  | c y => cases h with | c _ _ h => exact .c _ _ (flatC_rel hf h)
  | tup cs =>
    simp only [flatV, List.all_eq_true] at hf
    cases h with | tup _ vs hl hh => exact .tup _ vs hl fun i v x hv hx => flat1_rel (hf v (List.mem_of_getElem? hv)) (hh i v x hv hx)
  | agg cs =>
    simp only [flatV, List.all_eq_true] at hf
    cases h with | agg _ vs hl hh => exact .agg _ vs hl fun i v x hv hx => flat1_rel (hf v (List.mem_of_getElem? hv)) (hh i v x hv hx)
  | _ => simp [flatV] at hf

/-- All that there is, for all to read. -/
def ghAll (γ : Gh) (w : World) : Gh := ⟨γ.base, fun b => b < w.heap.size, []⟩
theorem ghAll_owns {γ : Gh} {w : World} {b : Nat} : ¬ (ghAll γ w).owns b := by
  rintro ⟨_, _, h, _⟩
  simp [ghAll] at h
theorem relW_all {γ : Gh} {st : List SO} {w : World} (h : RelW γ st w) : RelW (ghAll γ w) [] w :=
  ⟨rfl, h.basesz, fun b hb => ⟨Nat.lt_of_lt_of_le hb h.basesz, (h.base b hb).2⟩, fun b hb => hb, fun b hb => (ghAll_owns hb).elim, fun b _ hb => ghAll_owns hb,
    fun i j l l' b h => by simp [ghAll] at h, fun i l h => by simp [ghAll] at h, fun i l o h => by simp [ghAll] at h⟩
theorem arr_data {γ : Gh} {w : World} {l : Loc} {ety esz e : Nat} {xs : List (List C)} (hr : RelO γ w l (.arr ety esz e xs)) (hlt : ∀ b, γ.pers b → b < w.heap.size) :
    RelC (fun b => b < w.heap.size) w (.sl xs) l.hdr := by
  obtain ⟨hb2, hep, hfix, vs, hown, hlen, hrel⟩ := hr
  rcases hown.2 with ⟨hv, hn⟩ | ⟨g, cap, cur, hv, _, hh, hnc, hcm, hcs, htk⟩
  · have : xs = [] := List.eq_nil_of_length_eq_zero hn
    rw [this, hv]; exact .nilsl
  · rw [hv]
    have hcell : ∀ (i : Nat) x (j : Nat) c, xs[i]? = some x → x[j]? = some c → ∃ v, cur[i * esz + j]? = some v ∧ RelC γ.pers w c v := by
      intro i x j c hi hj
      have h1 := rowIdx hlen i x j c hi hj
      have hj' := lt_of_some hj
      rw [hlen x (List.mem_of_getElem? hi)] at hj'
      have hi' := lt_of_some hi
      have hlt : i * esz + j < xs.length * esz := by
        calc i * esz + j < i * esz + esz := by omega
          _ = (i + 1) * esz := by rw [Nat.add_mul]; omega
          _ ≤ xs.length * esz := Nat.mul_le_mul_right _ (by omega)
      have hvl := hown.1
      obtain ⟨u, hu⟩ : ∃ u, vs[i * esz + j]? = some u := ⟨_, List.getElem?_eq_getElem (by omega)⟩
      refine ⟨u, ?_, hrel _ _ _ h1 hu⟩
      rw [← htk, List.getElem?_take_of_lt hlt] at hu
      simpa using hu
    refine .sl xs esz ⟨g, 0, none⟩ xs.length cap (fun i j => cur.getD (i * esz + j) undef) (fun _ => (Array.getElem?_eq_some_iff.1 hh).1) (fun _ => rfl) rfl hnc hcm
      (fun i x hi => hlen x (List.mem_of_getElem? hi)) (fun i x j c hi hj => ?_) (fun i x j c hi hj => ?_)
    · obtain ⟨u, hv1, _⟩ := hcell i x j c hi hj
      rw [add_mk]
      simp only [Nat.zero_add]
      unfold World.cell?
      simp only [hh]
      simp [hv1]
    · obtain ⟨u, hv1, hv2⟩ := hcell i x j c hi hj
      have : cur.getD (i * esz + j) undef = u := by simp [hv1]
      rw [this]
      exact hv2.mono hlt (fun _ _ => rfl)
theorem rel_viewC {γ : Gh} {st : List SO} {w : World} {v : V} {x : Value} (h1 : RelW γ st w) (h : RelV γ w v x) : RelV (ghAll γ w) w (viewC st v) x := by
  cases v with
  | c y => cases h with | c _ _ h => exact .c _ _ (h.mono h1.plt (fun _ _ => rfl))
  | own id ep =>
    simp only [viewC]
    split
    · next ety esz ep' xs ho =>
      split
      · next he =>
        subst he
        cases h with
        | own _ _ l _ hl hf hle hone hx =>
          have hr := h1.objs id l _ hl ho
          rw [hx hr.2.1]
          exact .c _ _ (arr_data hr h1.plt)
      · exact .undef _
    · exact .undef _
  | _ => exact .undef _
theorem rel_viewV {γ : Gh} {st : List SO} {w : World} {v : V} {x : Value} (h1 : RelW γ st w) (h : RelV γ w v x) : RelV (ghAll γ w) w (viewV st v) x := by
  cases v with
  | agg cs =>
    cases h with
    | agg _ vs hl hh =>
      refine .agg _ vs (by simpa using hl) fun i v x hv hx => ?_
      rw [List.getElem?_map] at hv
      cases hc : cs[i]? with
      | none => rw [hc] at hv; cases hv
      | some u =>
        rw [hc] at hv
        simp only [Option.map_some, Option.some.injEq] at hv
        subst hv
        exact rel_viewC h1 (hh i u x hc hx)
  | _ => exact rel_viewC h1 h
/-- A call that reads own arrays and gives flat data back. -/
theorem FnOK.lend {P : Program} {G : World → Prop} {g : FuncId} {vs vs' : List V} {st : List SO} {res : V} (hres : flatV res = true) (hv : vs.map (viewV st) = vs') (h : ∀ s, FnOK P G g vs' s res s) : FnOK P G g vs st res st := by
  refine ⟨(h []).1, fun γ w vals h1 h2 h3 h4 => ?_⟩
  refine ((h []).2 (ghAll γ w) w vals (relW_all h1) h2 (by rw [← hv]; simpa using h3) fun i v x hi hx => ?_).mono ?_
  · rw [← hv, List.getElem?_map] at hi
    cases hc : vs[i]? with
    | none => rw [hc] at hi; cases hi
    | some u =>
      rw [hc] at hi
      simp only [Option.map_some, Option.some.injEq] at hi
      subst hi
      exact rel_viewV h1 (h4 i u x hc hx)
  · rintro e w' ⟨γ', x, rfl, _, hx, hev⟩
    have hkeep : ∀ b, b < w.heap.size → w'.heap[b]? = w.heap[b]? := fun b hb => hev.keep b hb ghAll_owns
    exact ⟨γ, x, rfl, h1.frame hev.size hkeep, flatV_rel hres hx, ⟨rfl, hev.os, hev.tape, hev.output, hev.size, fun b hb _ => hkeep b hb, fun _ h => h, fun _ h _ => .inl h, fun _ h _ => h, .refl _ _⟩⟩
/-- An own array given away for good: from now on for all to read. -/
theorem freeze_world {γ : Gh} {st : List SO} {w : World} {id e esz : Nat} {ety : TypeId} {xs : List (List C)} (h : RelW γ st w) (ho : st[id]? = some (.arr ety esz e xs)) :
    ∃ γ' : Gh, γ'.locs.length = γ.locs.length ∧ γ'.base = γ.base ∧ RelW γ' (st.set id .dead) w ∧ (∀ v x, RelV γ w v x → RelV γ' w v x) ∧ (∀ x, RelV γ w (.own id e) x → RelV γ' w (.c (.sl xs)) x) ∧ Evo γ.locs.length γ w γ' w := by
  have hid : id < γ.locs.length := by rw [h.len]; exact lt_of_some ho
  obtain ⟨l, hl⟩ : ∃ l, γ.locs[id]? = some l := ⟨_, List.getElem?_eq_getElem hid⟩
  have hro := h.objs id l _ hl ho
  obtain ⟨hb2, hep, hfix, vs, hown, hlen, hrel⟩ := hro
  let l' : Loc := ⟨.slice none 0 0, none, l.epoch + 1⟩
  let γ' : Gh := { γ with pers := fun b => γ.pers b ∨ blkOf l.hdr = some b, locs := γ.locs.set id l' }
  have hblk : ∀ b, b ∈ l.blks ↔ blkOf l.hdr = some b := fun b => by unfold Loc.blks; rw [hb2]; simp
  have hpo : ∀ b, blkOf l.hdr = some b → γ.owns b := fun b hb => ⟨id, l, hl, (hblk b).2 hb⟩
  have getset : ∀ i l1, γ'.locs[i]? = some l1 → (i = id ∧ l1 = l') ∨ (i ≠ id ∧ γ.locs[i]? = some l1) := by
    intro i l1 h'
    by_cases hi : i = id
    · subst hi
      rw [List.getElem?_set_self hid] at h'
      injection h' with h'
      exact .inl ⟨rfl, h'.symm⟩
    · rw [List.getElem?_set_ne (Ne.symm hi)] at h'
      exact .inr ⟨hi, h'⟩
  have newo : ∀ b, γ'.owns b → γ.owns b ∧ blkOf l.hdr ≠ some b := by
    rintro b ⟨i, l1, h', hb⟩
    rcases getset i l1 h' with ⟨rfl, rfl⟩ | ⟨hi, h''⟩
    · cases hb
    · refine ⟨⟨i, l1, h'', hb⟩, fun he => hi ?_⟩
      exact h.inj i id l1 l b h'' hl hb ((hblk b).2 he)
  have kept : ∀ n, LocsKept n γ γ' := by
    intro n i l1 _ h'
    by_cases hi : i = id
    · subst hi
      have : l1 = l := Option.some.inj (h'.symm.trans hl)
      subst this
      refine ⟨l', List.getElem?_set_self hid, fun he => ?_, fun hf => ?_, by rw [hfix]; rfl, by simp [l']⟩
      · simp [l'] at he
      · rw [hfix] at hf; cases hf
    · exact ⟨l1, by show (γ.locs.set id l')[i]? = _; rw [List.getElem?_set_ne (Ne.symm hi)]; exact h', fun _ => rfl, fun _ => rfl, rfl, Nat.le_refl _⟩
  have hpp : ∀ b, γ.pers b → γ'.pers b := fun _ h => .inl h
  refine ⟨γ', by simp [γ'], rfl, ?_, fun v x hv => hv.mono hpp (fun _ _ => rfl) (kept _), fun x hx => ?_, ?_⟩
  · refine ⟨by simp [γ', h.len], h.basesz, fun b hb => ⟨.inl (h.base b hb).1, (h.base b hb).2⟩, fun b hb => ?_, fun b hb => h.olt b (newo b hb).1, fun b hb hbo => ?_, fun i j l1 l2 b h1 h2 hb1 hb2 => ?_, fun i l1 h1 => ?_, fun i l1 o1 h1 ho1 => ?_⟩
    · rcases hb with hb | hb
      · exact h.plt b hb
      · exact h.olt b (hpo b hb)
    · obtain ⟨k1, k2⟩ := newo b hbo
      rcases hb with hb | hb
      · exact h.apart b hb k1
      · exact k2 hb
    · rcases getset i l1 h1 with ⟨rfl, rfl⟩ | ⟨hi, h1'⟩
      · cases hb1
      · rcases getset j l2 h2 with ⟨rfl, rfl⟩ | ⟨hj, h2'⟩
        · cases hb2
        · exact h.inj i j l1 l2 b h1' h2' hb1 hb2
    · rcases getset i l1 h1 with ⟨rfl, rfl⟩ | ⟨_, h1'⟩
      · simp [l', Loc.blks, blkOf]
      · exact h.two i l1 h1'
    · rcases getset i l1 h1 with ⟨rfl, rfl⟩ | ⟨hi, h1'⟩
      · rw [List.getElem?_set_self (lt_of_some ho)] at ho1
        injection ho1 with ho1
        subst ho1
        exact trivial
      · rw [List.getElem?_set_ne (Ne.symm hi)] at ho1
        exact RelO.mono (γ := γ) (γ' := γ') hpp (fun _ _ => rfl) (kept _) (fun _ _ => rfl) (h.objs i l1 o1 h1' ho1)
  · cases hx with
    | own _ _ l1 _ hloc hf hle hone hhdr =>
      have hll : l1 = l := Option.some.inj (hloc.symm.trans hl)
      subst hll
      rw [hhdr hep]
      refine .c _ _ ?_
      rcases hown.2 with ⟨hv, hn⟩ | ⟨g, cap, cur, hv, _, hh, hnc, hcm, hcs, htk⟩
      · have : xs = [] := List.eq_nil_of_length_eq_zero hn
        rw [this, hv]; exact .nilsl
      · have hg : blkOf l1.hdr = some g := by rw [hv]; rfl
        rw [hv]
        have hcell : ∀ (i : Nat) x (j : Nat) c, xs[i]? = some x → x[j]? = some c → ∃ v, vs[i * esz + j]? = some v ∧ RelC γ.pers w c v := by
          intro i x j c hi hj
          have h1 := rowIdx hlen i x j c hi hj
          have hlt : i * esz + j < vs.length := by
            have := lt_of_some h1
            rw [flat_len hlen] at this
            rw [hown.1]; exact this
          exact ⟨_, List.getElem?_eq_getElem hlt, hrel _ _ _ h1 (List.getElem?_eq_getElem hlt)⟩
        refine .sl xs esz ⟨g, 0, none⟩ xs.length cap (fun i j => vs.getD (i * esz + j) undef) (fun _ => .inr hg) (fun _ => rfl) rfl hnc hcm (fun i x hi => hlen x (List.mem_of_getElem? hi)) (fun i x j c hi hj => ?_) (fun i x j c hi hj => ?_)
        · obtain ⟨v, hv1, _⟩ := hcell i x j c hi hj
          have := hown.cells (g := g) (by rw [hv]; rfl) _ v hv1
          rw [this]; simp [hv1]
        · obtain ⟨v, hv1, hv2⟩ := hcell i x j c hi hj
          have : vs.getD (i * esz + j) undef = v := by simp [hv1]
          rw [this]; exact hv2.mono hpp (fun _ _ => rfl)
  · refine ⟨rfl, rfl, rfl, rfl, Nat.le_refl _, fun _ _ _ => rfl, hpp, fun b hb hlt => ?_, fun b hb _ => (newo b hb).1, kept _⟩
    rcases hb with hb | hb
    · exact .inl hb
    · exact .inr (hpo b hb)
def frzA (id ep : Nat) (xs : List (List C)) : V → V
  | .own i e => if i = id ∧ e = ep then .c (.sl xs) else .own i e
  | v => v
/-- A call with an own array for an argument, which it gives away. -/
theorem FnOK.frz {P : Program} {G : World → Prop} {g : FuncId} {vs vs' : List V} {st st' : List SO} {res : V} {id ep esz : Nat} {ety : TypeId} {xs : List (List C)} (ho : st[id]? = some (.arr ety esz ep xs)) (hv : vs.map (frzA id ep xs) = vs')
    (h : FnOK P G g vs' (st.set id .dead) res st') : FnOK P G g vs st res st' := by
  refine ⟨h.1, fun γ w vals h1 h2 h3 h4 => ?_⟩
  obtain ⟨γ1, k1, k2, k3, k4, k5, k6⟩ := freeze_world h1 ho
  refine (h.2 γ1 w vals k3 (by rw [k2]; exact h2) (by rw [← hv]; simpa using h3) fun i v x hi hx => ?_).mono ?_
  · rw [← hv, List.getElem?_map] at hi
    cases hc : vs[i]? with
    | none => rw [hc] at hi; cases hi
    | some u =>
      rw [hc] at hi
      simp only [Option.map_some, Option.some.injEq] at hi
      subst hi
      have hu := h4 i u x hc hx
      cases u with
      | own i' e' =>
        simp only [frzA]
        split
        · next he => obtain ⟨rfl, rfl⟩ := he; exact k5 x hu
        · exact k4 _ _ hu
      | _ => exact k4 _ _ hu
  · rintro e w' ⟨γ', x, rfl, q1, q2, q3⟩
    exact ⟨γ', x, rfl, q1, q2, k6.trans q3 (by rw [k1]; exact Nat.le_refl _)⟩
attribute [simp] viewV viewC flatV flat1 flatC frzA
end Go.L1
