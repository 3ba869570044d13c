/-
  Walks: relation.Of.
-/
import Derived.Test.YthkmfboffnhkaaaGreatDoorWK
import Derived.Test.YthkmfboffnhkaaaGreatDoorWT
import Derived.Test.YthkmfboffnhkaaaGreatDoorPL
import Derived.Test.YthkmfboffnhkaaaGreatDoorTP
set_option linter.all false
namespace Go.Proofs.YthkmfboffnhkaaaGreatDoor
attribute [local simp] relation_set_add_R0 relation_set_add_L relation_set_add_ks relation_set_remove_R0 relation_set_remove_L relation_set_remove_ks relation_sets_undo_R0 relation_sets_undo_R1 relation_sets_undo_R2 relation_sets_undo_R3 relation_sets_undo_R4 relation_sets_undo_R5 relation_sets_undo_R6 relation_sets_undo_R7 relation_sets_undo_R8 relation_sets_undo_R9 relation_sets_undo_B0 relation_sets_undo_L relation_sets_undo_ks relation_sets_apply_R0 relation_sets_apply_R1 relation_sets_apply_R2 relation_sets_apply_R3 relation_sets_apply_R4 relation_sets_apply_R5 relation_sets_apply_R6 relation_sets_apply_R7 relation_sets_apply_R8 relation_sets_apply_R9 relation_sets_apply_R10 relation_sets_apply_R11 relation_sets_apply_R12 relation_sets_apply_R13 relation_sets_apply_R14 relation_sets_apply_R15 relation_sets_apply_R16 relation_sets_apply_R17 relation_sets_apply_R18 relation_sets_apply_B0 relation_sets_apply_L relation_sets_apply_ks relation_set_list_R0 relation_set_list_R1 relation_set_list_L relation_set_list_ks
open Go Go.L1 Go.RowKit Go.Maps
set_option maxRecDepth 100000
set_option maxHeartbeats 4000000

theorem setAdd_ok {st : List SO} {id : Nat} {l : List Str} (x : Str) (ho : st[id]? = some (.map false false (setC l))) :
    FnOK Tryz.prog GW 111 [.mref id, .c (.str x)] st (.tup []) (st.set id (.map false false (setC (addSet l x)))) := by
  refine relation_set_add_F.eff {} (by simp [-getElem?_pos]) rfl (fun h => stOk_set h trivial) (by simp [-getElem?_pos]) ?_
  simp [-getElem?_pos, mixed, ho, setC_keys, setC_put, addSet]
theorem setRem_ok {st : List SO} {id : Nat} {l : List Str} (x : Str) (ho : st[id]? = some (.map false false (setC l))) :
    FnOK Tryz.prog GW 112 [.mref id, .c (.str x)] st (.tup []) (st.set id (.map false false (setC (remS l x)))) := by
  refine relation_set_remove_F.eff {} (by simp [-getElem?_pos]) rfl (fun h => stOk_set h trivial) (by simp [-getElem?_pos]) ?_
  simp [-getElem?_pos, mixed, ho, setC_keys, setC_del, remS]
/-- The sets of a relation, as objects of the store. -/
def setsO (t : TieS) : List SO := [.map false false (setC t.follows), .map false false (setC t.accepts), .map false false (setC t.blocks), .map false false (setC t.mutes)]
def setsV (n : Nat) : V := .agg [.mref n, .mref (n + 1), .mref (n + 2), .mref (n + 3)]
theorem setsO_ok {s : List SO} {t t' : TieS} (h : StOk (s ++ setsO t)) : StOk (s ++ setsO t') := by
  intro o ho
  have hl : (s ++ setsO t').length = (s ++ setsO t).length := by simp [-getElem?_pos, setsO]
  rw [hl]
  rcases List.mem_append.1 ho with h1 | h1
  · exact h o (List.mem_append_left _ h1)
  · simp only [setsO, List.mem_cons, List.not_mem_nil, or_false] at h1
    rcases h1 with rfl | rfl | rfl | rfl <;> trivial
theorem undo_ok (a : Act) (t : TieS) (s : List SO) : FnOK Tryz.prog GW 113 [setsV s.length, agg a.cells] (s ++ setsO t) (.tup []) (s ++ setsO (undoS t a)) := by
  refine relation_sets_undo_F.eff {} (by simp [-getElem?_pos, setsV, agg]) rfl (fun h => setsO_ok h) (by simp [-getElem?_pos, setsO]) ?_
  simp [-getElem?_pos, mixed, setsV, agg, Act.cells]
  have g0 : (s ++ setsO t)[s.length]? = some (.map false false (setC t.follows)) := by simp [-getElem?_pos, setsO]
  have g1 : (s ++ setsO t)[s.length + 1]? = some (.map false false (setC t.accepts)) := by simp [-getElem?_pos, setsO]
  have g2 : (s ++ setsO t)[s.length + 2]? = some (.map false false (setC t.blocks)) := by simp [-getElem?_pos, setsO]
  have g3 : (s ++ setsO t)[s.length + 3]? = some (.map false false (setC t.mutes)) := by simp [-getElem?_pos, setsO]
  refine ⟨fun h => ?_, fun h => ⟨fun h2 => ?_, fun h2 => ⟨fun h3 => ?_, fun h3 => ⟨fun h4 => ?_, fun h4 => ?_⟩⟩⟩⟩
  · refine callW2 (setRem_ok a.target g0) rfl ?_
    simp [-getElem?_pos, undoS, h, setsO]
  · refine callW2 (setRem_ok a.target g1) rfl ?_
    simp [-getElem?_pos, undoS, h, h2, setsO]
  · refine callW2 (setRem_ok a.target g2) rfl ?_
    simp [-getElem?_pos, undoS, h, h2, h3, setsO]
  · refine callW2 (setRem_ok a.target g3) rfl ?_
    simp [-getElem?_pos, undoS, h, h2, h3, h4, setsO]
  · exact ⟨[], by simp [-getElem?_pos, undoS, h, h2, h3, h4]⟩
theorem apply_ok (c : Chain) (i : Nat) (a : Act) (ha : c.acts[i]? = some a) (hc : ∀ a ∈ c.acts, a.Fits) (hl : c.acts.length ≤ 1000000000) (t : TieS) (s : List SO) :
    FnOK Tryz.prog GW 73 [setsV s.length, agg c.cells, .c (I i)] (s ++ setsO t) (.tup []) (s ++ setsO (applyS digestS c.acts i a t)) := by
  refine relation_sets_apply_F.eff {} (by simp [-getElem?_pos, setsV, agg]) rfl (fun h => setsO_ok h) (by simp [-getElem?_pos, setsO]) ?_
  have hlt := lt_of_some ha
  simp [-getElem?_pos, mixed, setsV, agg, Chain.cells, ha, hlt, Act.cells]
  have g0 : ∀ t, (s ++ setsO t)[s.length]? = some (.map false false (setC t.follows)) := fun t => by simp [-getElem?_pos, setsO]
  have g1 : ∀ t, (s ++ setsO t)[s.length + 1]? = some (.map false false (setC t.accepts)) := fun t => by simp [-getElem?_pos, setsO]
  have g2 : ∀ t, (s ++ setsO t)[s.length + 2]? = some (.map false false (setC t.blocks)) := fun t => by simp [-getElem?_pos, setsO]
  have g3 : ∀ t, (s ++ setsO t)[s.length + 3]? = some (.map false false (setC t.mutes)) := fun t => by simp [-getElem?_pos, setsO]
  refine ⟨fun h => ?_, fun h => ⟨fun h2 => ?_, fun h2 => ⟨fun h3 => ?_, fun h3 => ⟨fun h4 => ?_, fun h4 => ⟨fun h5 => ?_, fun h5 => ⟨fun h6 => ?_, fun h6 => ?_⟩⟩⟩⟩⟩⟩
  · refine callW2 (setAdd_ok a.target (g0 t)) rfl ?_
    simp [-getElem?_pos, applyS, h, setsO]
  · refine callW2 (setAdd_ok a.target (g1 t)) rfl ?_
    simp [-getElem?_pos, applyS, h, h2, setsO]
  · refine callW2 (setRem_ok a.target (g1 t)) rfl ?_
    simp [-getElem?_pos, applyS, h, h2, h3, setsO]
  · have e1 : (s ++ setsO t).set (s.length + 2) (.map false false (setC (addSet t.blocks a.target))) = s ++ setsO { t with blocks := addSet t.blocks a.target } := by simp [-getElem?_pos, setsO]
    refine callW2 (e1 ▸ setAdd_ok a.target (g2 t)) rfl ?_
    simp [-getElem?_pos]
    have e2 : (s ++ setsO { t with blocks := addSet t.blocks a.target }).set s.length (.map false false (setC (remS t.follows a.target))) = s ++ setsO { t with blocks := addSet t.blocks a.target, follows := remS t.follows a.target } := by simp [-getElem?_pos, setsO]
    refine callW2 (e2 ▸ setRem_ok a.target (g0 _)) rfl ?_
    simp [-getElem?_pos]
    refine callW2 (setRem_ok a.target (g1 _)) rfl ?_
    simp [-getElem?_pos, applyS, h, h2, h3, h4, setsO]
  · refine callW2 (setAdd_ok a.target (g3 t)) rfl ?_
    simp [-getElem?_pos, applyS, h, h2, h3, h4, h5, setsO]
  · refine callW0 (index_ok c hc (by omega) a.object) rfl ?_
    have hap : applyS digestS c.acts i a t = match indexS digestS c.acts a.object with
        | some j => if j < i then (match c.acts[j]? with
          | some b => undoS t b
          | none => t) else t
        | none => t := by simp only [applyS, h6]; rfl
    rw [hap]
    have hj : ∀ j, indexS digestS c.acts a.object = some j → j < c.acts.length := fun j hj => by
      unfold indexS at hj
      exact (List.findIdx?_eq_some_iff_getElem.1 hj).1
    cases hq : indexS digestS c.acts a.object with
    | none => simp [-getElem?_pos, indexR, hq]; exact exY_i true trivial
    | some j =>
      have hjl := hj j hq
      obtain ⟨b, hb⟩ := get_of_lt hjl
      have hbu : undoS t b = undoS t b := rfl
      simp [-getElem?_pos, indexR, hq, hb, mixed, Act.cells]
      refine exY_i (decide (j < i)) ⟨rfl, fun hy => ?_, fun hy => ?_⟩
      · have hji : j < i := by simpa [-getElem?_pos] using hy
        refine callW2 (undo_ok b t s) rfl ?_
        simp [-getElem?_pos, hji, hb]
      · have hji : ¬ j < i := by simpa [-getElem?_pos] using hy
        exact ⟨[], by simp [-getElem?_pos, hji]⟩
  · exact ⟨[], by simp [-getElem?_pos, applyS, h, h2, h3, h4, h5, h6]⟩
theorem keysT_give : KeysGive 149 := fun b r nn D0 R w hb hm hown =>
  AnyZ.keys_gives (ρ := Tryz.keysT_ren) { Tryz.keysT with } Fence.wide _ trivial rfl (by omega) b r nn D0 _ hb hm hown
theorem setList_ok {st : List SO} {id : Nat} {l : List Str} (ho : st[id]? = some (.map false false (setC l))) (hnd : l.Nodup) (hwf : ∀ k ∈ l, k.length ≤ 9223372036854775807) (hl : l.length ≤ 1000000000) :
    FnOK Tryz.prog GW 74 [.mref id] st (.c (texts (sorted l))) st := by
  refine relation_set_list_F.pu {} (by simp [-getElem?_pos]) rfl ?_
  simp [-getElem?_pos, mixed]
  refine callW2 (keys_of (g := 114) (F := 149) (by kernel_rfl) Tryz.keysT_in) rfl ?_
  simp [-getElem?_pos, mixed]
  refine callW2 (sortedSeqD_ok l hwf (enters_of Tryz.func149 (by kernel_rfl) rfl) (keysStr_seq (F := 149) keysT_give l (setC l) (by simp [-getElem?_pos, setC]) hnd hwf hl (ag := false) (bid := st.length) (id := id) (by simp [-getElem?_pos]) (by rw [List.getElem?_append_left (lt_of_some ho)]; exact ho))) rfl ?_
  simp [-getElem?_pos, mixed, strs, texts]
end Go.Proofs.YthkmfboffnhkaaaGreatDoor
