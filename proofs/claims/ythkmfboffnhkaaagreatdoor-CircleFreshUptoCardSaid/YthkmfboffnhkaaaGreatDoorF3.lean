/-
  The frame: from a contract to the specification.
-/
import Derived.Test.YthkmfboffnhkaaaGreatDoorF2
import Derived.Test.YthkmfboffnhkaaaGreatDoorCards
import Derived.Test.YthkmfboffnhkaaaGreatDoorTie
import Derived.WalkKit
import Derived.ProofKit
import Derived.OpenShut
import Derived.Deep.DeepHandedRow
set_option linter.all false
namespace Go.Proofs.YthkmfboffnhkaaaGreatDoor
open Go Go.L1 Go.ChangeShapes Go.WideShapes Go.ChangeAt Go.RowKit
set_option maxRecDepth 100000
set_option maxHeartbeats 4000000

theorem kidsT : Kids Tryz.prog (· < Tryz.prog.types.size) := kids_rows (by kernel_rfl) (by kernel_rfl)
theorem fullT : ∀ t e, t < Tryz.prog.types.size → Tryz.prog.underlying t = some (.slice e) → 0 < Tryz.prog.cellsOf e := slices_full_of _ (by kernel_rfl)

/-- The world of a call, its store empty. -/
def gh0 (W : World) : Gh := ⟨W, fun b => b < W.heap.size, []⟩
theorem relW0 (W : World) : RelW (gh0 W) [] W :=
  ⟨rfl, Nat.le_refl _, fun b hb => ⟨hb, rfl⟩, fun b hb => hb, fun b ⟨_, _, h, _⟩ => by simp [gh0] at h, fun b _ ⟨_, _, h, _⟩ => by simp [gh0] at h, fun i j l l' b h => by simp [gh0] at h,
    fun i l h => by simp [gh0] at h, fun i l o h => by simp [gh0] at h⟩
structure Kept (W W' : World) : Prop where
  os : W'.os = W.os
  output : W'.output = W.output
  heap : ∀ b, b < W.heap.size → W'.heap[b]? = W.heap[b]?
theorem fn_true {g : FuncId} {args : List V} (h : FnOK Tryz.prog GW g args [] (.c (.bool true)) []) {W : World} (hG : GW W) {vals : Array Value} (hs : vals.size = args.length)
    (hr : ∀ (i : Nat) v x, args[i]? = some v → vals[i]? = some x → RelV (gh0 W) W v x) : Calls Tryz.prog g vals W fun e W' => e = .returned (.bool true) ∧ Kept W W' := by
  refine (h.2 (gh0 W) W vals (relW0 W) hG hs hr).mono fun e W' ⟨γ', x, he, _, hx, hev⟩ => ?_
  cases hx with
  | c _ _ hx =>
    cases hx with
    | bool b => exact ⟨he, hev.os, hev.output, fun b hb => hev.keep b hb fun ⟨_, _, h, _⟩ => by simp [gh0] at h⟩

section
variable {H : Type} {enc : TypeId × Value → H} {W W' : World}
theorem trodAll_kept (hk : Kept W W') {sp : Nat → Bool} : ∀ {ts : List TypeId} {vs : List Value} {ds : List (DataW H)} {ps : List MemPlace}, (∀ t ∈ ts, t < Tryz.prog.types.size) →
    DataW.TrodAll enc Tryz.prog W 0 (fun _ => true) true ts vs ds ps → (∀ p ∈ ps, p.block < W.heap.size) → (∀ p ∈ ps, sp p.block = true) → DataW.TrodAll enc Tryz.prog W' 0 sp true ts vs ds ps
  | [], [], [], _, _, h, _, _ => h
  | t :: ts, v :: vs, d :: ds, _, ht, ⟨p, q, ⟨n, h1⟩, h2, he⟩, hl, hs => by
    subst he
    refine ⟨p, q, ⟨n, DataW.trod_stays kidsT (fun {t e} => fullT t e) (fun h => by cases h) (ht t (List.mem_cons_self ..)) h1 (fun x hx => ?_) fun x hx => hs x (List.mem_append_left _ hx)⟩,
      trodAll_kept hk (fun t' ht' => ht t' (List.mem_cons_of_mem _ ht')) h2 (fun x hx => hl x (List.mem_append_right _ hx)) (fun x hx => hs x (List.mem_append_right _ hx)), rfl⟩
    have hb := hl x (List.mem_append_left _ hx)
    cases x with
    | cell b off => exact cell_of_heap (a := ⟨b, off, none⟩) (hk.heap b hb)
    | map b => exact hk.heap b hb
theorem trodAll_len {base : Nat} {sp : Nat → Bool} {held : Bool} : ∀ {ts : List TypeId} {vs : List Value} {ds : List (DataW H)} {ps : List MemPlace}, DataW.TrodAll enc Tryz.prog W base sp held ts vs ds ps → ds.length = ts.length
  | [], [], [], _, _ => rfl
  | _ :: _, _ :: _, _ :: _, _, ⟨_, _, _, h, _⟩ => by simp [trodAll_len h]
theorem post_true {f : Func} {s : ChangeSpec} {apart fresh handsOn again : Bool} {args : Array Value} {ds gs : List (DataW H)} {before : List MemPlace} (hv : s.vars = [])
    (hW : DataW.Whole enc Tryz.prog f.params.toList s.vars apart W args.toList ds gs before) (hfn : ∀ ds : List (DataW H), ds.length = f.params.toList.length → s.fn H ds = { results := [.lit (.bool true)], args := ds })
    (hres : f.resultTypes = #[4]) (hb : Tryz.prog.underlying 4 = some .bool) (hts : ∀ t ∈ f.params.toList, t < Tryz.prog.types.size) (hk : Kept W W') :
    s.post enc Tryz.prog f apart fresh handsOn again W args (.bool true) W' := by
  have hlt := hW.lt
  have hW0 := hW
  obtain ⟨p, q, hA, hV, rfl, hz, hn⟩ := hW
  rw [hv] at hV
  obtain ⟨rfl, rfl⟩ := trodVars_none hV
  have hfn' := hfn (ds ++ []) (by rw [List.append_nil]; exact (trodAll_len hA))
  rw [List.append_nil] at hfn'
  have hold : ∀ x ∈ p ++ [], (fun b => decide (b < W.heap.size)) x.block = true := fun x hx => by simpa using hlt x hx
  have hr : ∀ (b : Nat) (sp : Nat → Bool) (hd : Bool), DataW.TrodAll enc Tryz.prog W' b sp hd f.resultTypes.toList ((Value.bool true).resultList f.resultTypes.size) (s.fn H (ds ++ [])).results [] := by
    intro b sp hd
    rw [List.append_nil, hfn', hres]
    exact trodAll_cons_mk (shut_bool hb _) trodAll_mk0
  have ha : ∀ sp : Nat → Bool, (∀ x ∈ p ++ [], sp x.block = true) → DataW.TrodAll enc Tryz.prog W' 0 sp true f.params.toList args.toList (s.fn H (ds ++ [])).args p := by
    intro sp hsp
    rw [List.append_nil, hfn']
    exact trodAll_kept hk hts hA (fun x hx => hlt x (by simpa using hx)) (fun x hx => hsp x (by simpa using hx))
  have hvv : ∀ sp : Nat → Bool, DataW.TrodVars enc Tryz.prog W' sp s.vars (s.fn H (ds ++ [])).vars [] := by
    intro sp
    rw [List.append_nil, hfn', hv]
    exact rfl
  have hkb : ∀ may, W.keptBut W' may := fun may => World.keptBut_mono (fun _ h => h.elim) (World.keptBut_none_iff.2 ⟨hk.os, hk.output, hk.heap⟩)
  refine ⟨ds, [], p ++ [], [], p, [], hW0, hr _ _ _, ha _ hold, hvv _, hkb _, fun _ => ?_⟩
  refine ⟨?_, _, _, ([] ++ p) ++ [], ⟨[] ++ p, [], trodAll_append (ha _ (fun _ _ => rfl)) (hr _ _ _), hvv _, rfl, ?_, ?_⟩, ?_⟩
  · exact ok_one hres rfl (okWide_bool_mk hb _)
  · intro b off hp
    have hp' : MemPlace.cell b off ∈ p ++ [] := by simpa using hp
    have := hlt _ hp'
    rw [frozen_of_heap (a := ⟨b, off, none⟩) (hk.heap b this)]
    exact hz b off hp'
  · intro h
    simpa using hn h
  · intro x hx _
    simpa using hx
end
end Go.Proofs.YthkmfboffnhkaaaGreatDoor
