/-
  L1, part r: loops over functions. Generic in the program.
-/
import Derived.Test.YthkmfboffnhkaaaGreatDoorM6
set_option linter.all false
namespace Go.L1
open Go

/-- An iterator over N places: at those that it wants it calls yield with 'els k'. -/
def IterL (cx : Cx) (it : FuncId) (caps : List V) (st : List SO) (N : Nat) (want : Nat → Bool) (els : Nat → List V) : Prop :=
  fnB cx.P it = true ∧ ∀ γ w (cv : Array Value), RelW γ st w → cx.G γ.base → cv.size = caps.length → (∀ (i : Nat) v x, caps[i]? = some v → cv[i]? = some x → RelV γ w v x) →
    ∃ vals : Nat → Array Value, (∀ k, k < N → (vals k).size = (els k).length ∧ ∀ (i : Nat) v x, (els k)[i]? = some v → (vals k)[i]? = some x → RelV γ w v x) ∧
      ∀ (l : Nat) (W : World) (J : Nat → World → Prop) (Jx : World → Prop), w.heap.size ≤ W.heap.size → (∀ b, b < w.heap.size → W.heap[b]? = w.heap[b]?) →
        (∀ k W', J k W' → ∀ b, γ.pers b → W'.heap[b]? = w.heap[b]?) →
        (∀ k W' W2, J k W' → W'.heap.size ≤ W2.heap.size → (∀ b, b < W'.heap.size → W2.heap[b]? = W'.heap[b]?) → W2.os = W'.os → W2.tape = W'.tape → W2.output = W'.output → J k W2) →
        (∀ k W', k < N → want k = false → J k W' → J (k + 1) W') →
        (∀ k W' n, k < N → want k = true → J k W' → YieldAt Fence.wide n cx.P l (vals k) W' fun e W2 => (e = .returned (.bool true) ∧ J (k + 1) W2) ∨ (e = .returned (.bool false) ∧ Jx W2)) →
        J 0 W → Calls cx.P it (#[.func (.yield l) #[] #[]] ++ cv) W fun e W' => (∃ v, e = .returned v) ∧ (J N W' ∨ Jx W')

def setPs (f : Fenv) (ps : List Nat) (vs : List V) : Fenv := (ps.zip vs).foldl (fun f p => upd f p.1 p.2) f
theorem setPs_rel {γ : Gh} {w : World} {N : Nat} : ∀ (ps : List Nat) (vs : List V) (xs : List Value) (f : Fenv) (tm : Array Value), vs.length = xs.length → (∀ p ∈ ps, p < N) → tm.size = N →
    (∀ (i : Nat) v x, vs[i]? = some v → xs[i]? = some x → RelV γ w v x) → (∀ d, RelV γ w (f d) (tm.getD d undef)) →
    ((ps.zip xs).foldl (fun t p => t.setIfInBounds p.1 p.2) tm).size = N ∧ ∀ d, RelV γ w (setPs f ps vs d) (((ps.zip xs).foldl (fun t p => t.setIfInBounds p.1 p.2) tm).getD d undef)
  | [], vs, xs, f, tm, _, _, hs, _, h => ⟨by simpa using hs, by simpa [setPs] using h⟩
  | p :: ps, [], xs, f, tm, hl, _, hs, _, h => by
    have : xs = [] := List.eq_nil_of_length_eq_zero hl.symm
    subst this
    exact ⟨by simpa using hs, by simpa [setPs] using h⟩
  | p :: ps, v :: vs, [], f, tm, hl, _, _, _, _ => by cases hl
  | p :: ps, v :: vs, x :: xs, f, tm, hl, hp, hs, hr, h => by
    have ih := setPs_rel (γ := γ) (w := w) (N := N) ps vs xs (upd f p v) (tm.setIfInBounds p x) (by simpa using hl) (fun q hq => hp q (List.mem_cons_of_mem _ hq)) (by simpa using hs)
      (fun i v' x' hi hx => hr (i + 1) v' x' (by simpa using hi) (by simpa using hx)) (fun d => by
        unfold upd
        by_cases hd : d = p
        · subst hd
          have hlt : d < tm.size := by rw [hs]; exact hp d (List.mem_cons_self ..)
          have : (tm.setIfInBounds d x).getD d undef = x := by simp [hlt]
          rw [if_pos rfl, this]
          exact hr 0 v x rfl rfl
        · have : (tm.setIfInBounds p x).getD d undef = tm.getD d undef := by simp [Array.getElem?_setIfInBounds_ne (Ne.symm hd)]
          rw [if_neg hd, this]
          exact h d)
    simpa [setPs] using ih

/-- The record of a loop. -/
def recL (fn : FuncId) (tmps : Array Value) (ps : Array Tmp) (assign body : Code) (D : Nat) (s : LoopState) (pe : Option Code) : Loop :=
  { state := s, pending := pe, fn, tmps, params := ps, assign, body, defers := D }

/-- What a round must come to. -/
def rndT (n : Nat) (I : List SO → Prop) (Q : Exit → Fenv → List SO → Prop) (f : Fenv) : Exit → Fenv → List SO → Prop
  | .normal, _, st => ∃ st' extra, st = st' ++ extra ∧ n ≤ st'.length ∧ (StOk st → StOk st') ∧ I st'
  | .ret, _, st => ∃ st' extra, st = st' ++ extra ∧ n ≤ st'.length ∧ (StOk st → StOk st') ∧ Q .ret f st'
  | .exit id, _, st => ∃ st' extra, st = st' ++ extra ∧ n ≤ st'.length ∧ (StOk st → StOk st') ∧ Q (.exit id) f st'
  | _, _, _ => False

theorem tri_rng {cx : Cx} {f fr : Fenv} {st : List SO} {Q : Exit → Fenv → List SO → Prop} {g : Operand} {ps : Array Tmp} {assign body : Code} {it : FuncId} {caps : List V} {N : Nat}
    {want : Nat → Bool} {els : Nat → List V} (hg : opnd f g = .clo it caps) (hiter : IterL cx it caps st N want els) (hlen : ∀ k, k < N → (els k).length = ps.size)
    (hps : ∀ p ∈ ps.toList, p < cx.N) (hn1 : noRng assign = true) (hn2 : noRng body = true) (hfr : ∀ d, fr d = .undef ∨ (fr d = f d ∧ plainV (f d) = true))
    (I : Nat → List SO → Prop) (h0 : I 0 st) (hskip : ∀ k st', k < N → want k = false → I k st' → I (k + 1) st')
    (hround : ∀ k st', k < N → want k = true → I k st' → Tri ⟨cx.P, cx.G, cx.N, st.length⟩ assign (setPs fr ps.toList (els k)) st'
      (thenT (fun f2 st2 => Tri ⟨cx.P, cx.G, cx.N, st.length⟩ body f2 st2 (rndT st.length (I (k + 1)) Q f)) (fun _ _ _ => False)))
    (hdone : ∀ st', I N st' → Q .normal f st') : Tri cx (.rangeFunc g ps assign body) f st Q := by
  intro γ0 w0 a w hs ro n hr
  obtain rfl : ro = none := by
    rcases hr with h | h
    · exact h
    · simp [noRng] at h
  obtain ⟨γ, gb, sg⟩ := hs
  obtain ⟨cv, hcv, hcs, hcr⟩ : ∃ cv : Array Value, a.eval g = .func (.func it) #[] cv ∧ cv.size = caps.length ∧ ∀ (i : Nat) v x, caps[i]? = some v → cv[i]? = some x → RelV γ w v x := by
    have key : ∀ x, RelV γ w (.clo it caps) x → ∃ cv : Array Value, x = .func (.func it) #[] cv ∧ cv.size = caps.length ∧ ∀ (i : Nat) v x, caps[i]? = some v → cv[i]? = some x → RelV γ w v x := by
      intro x hx
      cases hx with | clo _ _ vs hl h => exact ⟨vs, rfl, hl, h⟩
    cases g with
    | tmp t =>
      have h1 := relS_slotV (sg.slots t)
      simp only [opnd] at hg
      rw [hg] at h1
      exact key _ h1
    | const v => simp only [opnd] at hg; have := relV_constV (γ := γ) (w := w) v; rw [hg] at this; exact key _ this
    | global g => simp [opnd] at hg
    | func g => simp [opnd] at hg
  obtain ⟨hfb, hiter⟩ := hiter
  obtain ⟨vals, hvals, hrun⟩ := hiter γ w cv sg.rel sg.g hcs hcr
  refine wpIn_rangeFunc ?_
  intro fn hfn
  obtain ⟨rc, hrc⟩ : ∃ rc : LoopState → Option Code → Loop, rc = recL fn a.tmps ps assign body w.heap.size := ⟨_, rfl⟩
  obtain ⟨W1, hW1⟩ : ∃ W1, (w.alloc (.deferred (some []))).alloc (.loop (rc .ready none)) = W1 := ⟨_, rfl⟩
  have hsz1 : W1.heap.size = w.heap.size + 2 := by rw [← hW1]; simp
  have hold : ∀ b, b < w.heap.size → W1.heap[b]? = w.heap[b]? := fun b hb => by
    rw [← hW1, heap_alloc_old _ _ _ (by simp; omega), heap_alloc_old _ _ _ hb]
  have hL1 : W1.heap[w.heap.size + 1]? = some (.loop (rc .ready none)) := by
    rw [← hW1]; have := heap_alloc_at (w.alloc (.deferred (some []))) (.loop (rc .ready none)); rwa [World.size_alloc] at this
  have hD1 : W1.heap[w.heap.size]? = some (.deferred (some [])) := by
    rw [← hW1, heap_alloc_old _ _ _ (by simp)]; exact heap_alloc_at w _
  have hos1 : W1.os = w.os := by rw [← hW1]; rfl
  have htp1 : W1.tape = w.tape := by rw [← hW1]; rfl
  have hout1 : W1.output = w.output := by rw [← hW1]; rfl
  have hnp : ∀ b, w.heap.size ≤ b → ¬ γ.pers b := fun b hb h => by have := sg.rel.plt b h; omega
  have hno : ∀ b, w.heap.size ≤ b → ¬ γ.owns b := fun b hb h => by have := sg.rel.olt b h; omega
  have hγl : γ.locs.length = st.length := sg.rel.len
  obtain ⟨l, hl⟩ : ∃ l, l = w.heap.size + 1 := ⟨_, rfl⟩
  rw [← hl] at hL1
  -- the loop's base world, by the state of its record
  obtain ⟨B, hB⟩ : ∃ B : LoopState → Option Code → World, B = fun s pe => W1.putObj l (.loop (rc s pe)) := ⟨_, rfl⟩
  have hBs : ∀ s pe, (B s pe).heap.size = w.heap.size + 2 := fun s pe => by rw [hB]; simp [hsz1]
  have hBl : ∀ s pe, (B s pe).heap[l]? = some (.loop (rc s pe)) := fun s pe => by rw [hB]; exact World.putObj_heap_same (by omega)
  have hBo : ∀ s pe b, b ≠ l → (B s pe).heap[b]? = W1.heap[b]? := fun s pe b hb => by rw [hB]; exact World.putObj_heap_other hb
  have hBos : ∀ s pe, (B s pe).os = w.os := fun s pe => by rw [hB]; exact hos1
  have hBtp : ∀ s pe, (B s pe).tape = w.tape := fun s pe => by rw [hB]; exact htp1
  have hBout : ∀ s pe, (B s pe).output = w.output := fun s pe => by rw [hB]; exact hout1
  have recAt : ∀ {s pe γ' W}, Evo st.length γ (B s pe) γ' W → W.heap[l]? = some (.loop (rc s pe)) := fun {s pe γ' W} he =>
    (he.keep l (by rw [hBs]; omega) (hno l (by omega))).trans (hBl s pe)
  have npl : ∀ {s pe γ' W}, Evo st.length γ (B s pe) γ' W → ∀ b, w.heap.size ≤ b → b < w.heap.size + 2 → ¬ γ'.pers b ∧ ¬ γ'.owns b := fun {s pe γ' W} he b hb hb2 =>
    ⟨fun h => (he.newp b h (by rw [hBs]; exact hb2)).elim (hnp b hb) (hno b hb), fun h => hno b hb (he.newo b h (by rw [hBs]; exact hb2))⟩
  have oldAt : ∀ {s pe γ' W}, Evo st.length γ (B s pe) γ' W → ∀ b, b < w.heap.size → ¬ γ.owns b → W.heap[b]? = w.heap[b]? := fun {s pe γ' W} he b hb ho =>
    (he.keep b (by rw [hBs]; omega) ho).trans ((hBo s pe b (by omega)).trans (hold b hb))
  -- a state of the frame behind the loop
  have back : ∀ {s pe γ' W st'} (o : Obj), Evo st.length γ (B s pe) γ' W → RelW γ' st' W →
      St cx γ0 w0 f st' { a with defers := [mark w.heap.size] ++ a.defers } (W.putObj l o) := by
    intro s pe γ' W st' o he hrw
    have hpl := npl he l (by omega) (by omega)
    have hpD := npl he w.heap.size (Nat.le_refl _) (by omega)
    have hkb : ∀ b, b < w.heap.size → ¬ γ.owns b → (W.putObj l o).heap[b]? = w.heap[b]? := fun b hb ho => (World.putObj_heap_other (by omega)).trans (oldAt he b hb ho)
    have hpk : ∀ b, γ.pers b → (W.putObj l o).heap[b]? = w.heap[b]? := fun b h => hkb b (sg.rel.plt b h) (sg.rel.apart b h)
    have hsz : w.heap.size ≤ W.heap.size := by have := he.size; rw [hBs] at this; omega
    have hlk : LocsKept γ.locs.length γ γ' := by rw [hγl]; exact he.locs
    have hn0 : cx.n0 ≤ st.length := by
      rw [← sg.n0, ← hγl]
      rcases Nat.eq_zero_or_pos γ0.locs.length with h | h
      · omega
      · have hlt : γ0.locs.length - 1 < γ0.locs.length := by omega
        obtain ⟨l', hl', _⟩ := sg.evo.locs (γ0.locs.length - 1) _ (by rw [← sg.n0]; exact hlt) (List.getElem?_eq_getElem hlt)
        have := lt_of_some hl'
        omega
    have hE : Evo st.length γ w γ' (W.putObj l o) := ⟨he.base, he.os.trans (hBos s pe), he.tape.trans (hBtp s pe), he.output.trans (hBout s pe), by simpa using hsz, hkb, he.pers,
      fun b h hlt => he.newp b h (by rw [hBs]; omega), fun b h hlt => he.newo b h (by rw [hBs]; omega), he.locs⟩
    refine ⟨γ', gb, ⟨sg.evo.trans hE hn0, sg.n0, hrw.turn World.putObj_size (fun b hb => World.putObj_heap_other hb) hpl.1 hpl.2, by rw [he.base]; exact sg.g, sg.size, ?_, fun d => ?_, fun d cs hd => ?_, sg.inj⟩⟩
    · obtain ⟨Ds, h1, h2, h3⟩ := sg.defers
      refine ⟨w.heap.size :: Ds, by simp [h1], List.nodup_cons.2 ⟨fun h => ?_, h2⟩, fun D hD => ?_⟩
      · have := (Array.getElem?_eq_some_iff.1 (h3 _ h).2.1).1; omega
      · rcases List.mem_cons.1 hD with rfl | hD
        · exact ⟨sg.evo.size, (World.putObj_heap_other (by omega)).trans ((he.keep _ (by rw [hBs]; omega) (hno _ (Nat.le_refl _))).trans ((hBo s pe _ (by omega)).trans hD1)), hpD.1, hpD.2⟩
        · obtain ⟨j1, j2, j3, j4⟩ := h3 D hD
          have hlt := (Array.getElem?_eq_some_iff.1 j2).1
          exact ⟨j1, (hkb D hlt j4).trans j2, fun h => (he.newp D h (by rw [hBs]; omega)).elim j3 j4, fun h => j4 (he.newo D h (by rw [hBs]; omega))⟩
    · have hsd := sg.slots d
      show RelS γ' (W.putObj l o) gb d (f d) (a.tmps.getD d undef)
      cases hv : f d with
      | box cs =>
        rw [hv] at hsd
        obtain ⟨h1, vs, T, h2, h3⟩ := hsd
        obtain ⟨_, b2, _, b4⟩ := sg.boxes d cs hv
        exact ⟨h1, vs, T, by rw [hkb _ b2 b4]; exact h2, h3.mono he.pers hpk hlk⟩
      | lp d' off => rw [hv] at hsd; exact hsd
      | _ => rw [hv] at hsd; exact RelV.mono he.pers hpk hlk hsd
    · obtain ⟨b1, b2, b3, b4⟩ := sg.boxes d cs hd
      exact ⟨b1, by simp; omega, fun h => (he.newp _ h (by rw [hBs]; omega)).elim b3 b4, fun h => b4 (he.newo _ h (by rw [hBs]; omega))⟩
  have hev0 : Evo st.length γ (B .ready none) γ W1 := by
    refine ⟨rfl, (hos1.trans (hBos _ _).symm), (htp1.trans (hBtp _ _).symm), (hout1.trans (hBout _ _).symm), by rw [hBs]; omega, fun b _ _ => ?_, fun _ h => h, fun _ h _ => .inl h, fun _ h _ => h, .refl _ _⟩
    by_cases hb : b = l
    · subst hb; exact hL1.trans (hBl _ _).symm
    · exact (hBo _ _ b hb).symm
  have hrel1 : RelW γ st W1 := sg.rel.frame (by omega) hold
  have hcall : Calls cx.P it (#[.func (.yield l) #[] #[]] ++ cv) W1 fun e W' => (∃ v, e = .returned v) ∧
      ((∃ γ' st', Evo st.length γ (B .ready none) γ' W' ∧ RelW γ' st' W' ∧ I N st') ∨
       (∃ γ' st' x c, Evo st.length γ (B .done (some c)) γ' W' ∧ RelW γ' st' W' ∧ ((x = .ret ∧ c = Code.ret) ∨ ∃ id, x = .exit id ∧ c = Code.exit id) ∧ Q x f st')) := by
    refine hrun l W1 (fun k W' => ∃ γ' st', Evo st.length γ (B .ready none) γ' W' ∧ RelW γ' st' W' ∧ I k st')
      (fun W' => ∃ γ' st' x c, Evo st.length γ (B .done (some c)) γ' W' ∧ RelW γ' st' W' ∧ ((x = .ret ∧ c = Code.ret) ∨ ∃ id, x = .exit id ∧ c = Code.exit id) ∧ Q x f st')
      (by omega) hold ?_ ?_ ?_ ?_ ⟨γ, st, hev0, hrel1, h0⟩
    · rintro k W' ⟨γ', st', he, _, _⟩ b hb
      exact oldAt he b (sg.rel.plt b hb) (sg.rel.apart b hb)
    · rintro k W' W2 ⟨γ', st', he, hrw, hi⟩ hsz hkeep h1 h2 h3
      refine ⟨γ', st', ⟨he.base, h1.trans he.os, h2.trans he.tape, h3.trans he.output, Nat.le_trans he.size hsz, fun b hb ho => ?_, he.pers, he.newp, he.newo, he.locs⟩, hrw.frame hsz hkeep, hi⟩
      exact (hkeep b (Nat.lt_of_lt_of_le hb he.size)).trans (he.keep b hb ho)
    · rintro k W' hk hw ⟨γ', st', he, hrw, hi⟩
      exact ⟨γ', st', he, hrw, hskip k st' hk hw hi⟩
    · rintro k W m hk hw ⟨γ', st', he, hrw, hi⟩
      obtain ⟨hvs, hvr⟩ := hvals k hk
      have hlW := recAt he
      have hy := run_yield (P := cx.P) (args := vals k) hlW (by rw [hrc]; exact hvs.trans (hlen k hk))
      rw [hrc] at hy
      refine ⟨fn, _, assign, body, hy, roundIn_of_wpIn hfn ?_⟩
      clear hy
      have hpk : ∀ b, γ.pers b → W.heap[b]? = w.heap[b]? := fun b h => oldAt he b (sg.rel.plt b h) (sg.rel.apart b h)
      have hlk : LocsKept γ.locs.length γ γ' := by rw [hγl]; exact he.locs
      have hmono : ∀ {v x}, RelV γ w v x → RelV γ' W v x := fun h => RelV.mono he.pers hpk hlk h
      obtain ⟨tms, htms⟩ : ∃ tms : Array Value, tms = (ps.toList.zip (vals k).toList).foldl (fun t p => t.setIfInBounds p.1 p.2) a.tmps := ⟨_, rfl⟩
      have hfold : (((recL fn a.tmps ps assign body w.heap.size .ready none).params.zip (vals k)).foldl (fun tmps (t, a) => tmps.setIfInBounds t a) (recL fn a.tmps ps assign body w.heap.size .ready none).tmps) = tms := by
        rw [htms, ← Array.foldl_toList, Array.toList_zip]
        rfl
      rw [hfold]
      obtain ⟨hts, htr⟩ := setPs_rel (γ := γ') (w := W) (N := cx.N) ps.toList (els k) (vals k).toList fr a.tmps (by simp [hvs]) hps sg.size
        (fun i v x hi hx => hmono (hvr i v x hi (by simpa using hx))) (fun d => by
          rcases hfr d with h | ⟨h, hp⟩
          · rw [h]; exact .undef _
          · rw [h]; exact hmono ((sg.slots d).plain hp))
      rw [← htms] at hts htr
      have hnb : ∀ d cs, setPs fr ps.toList (els k) d ≠ .box cs := fun d cs hd => by have := htr d; rw [hd] at this; cases this
      have hst : St ⟨cx.P, cx.G, cx.N, st.length⟩ γ (B .ready none) (setPs fr ps.toList (els k)) st' { tmps := tms, defers := [] } W :=
        ⟨γ', fun _ => 0, ⟨he, hγl, hrw, by rw [he.base]; exact sg.g, hts, .nil, fun d => (htr d).toS, fun d cs hd => absurd hd (hnb d cs), fun d _ cs _ hd => absurd hd (hnb d cs)⟩⟩
      refine wpIn_mono (hround k st' hk hw hi γ _ _ W hst (some l) m (.inr hn1)) ?_
      rintro e a2 W2 ⟨f2, st2, hq, hs2⟩
      cases e with
      | normal =>
        obtain ⟨γ2, gb2, sg2⟩ := hs2
        have hl2 := recAt sg2.evo
        refine ⟨_, run_beginRound hl2 (by rw [hrc]; rfl), ?_⟩
        have hpl2 := npl sg2.evo l (by omega) (by omega)
        have hobj : (Obj.loop { rc .ready none with state := .busy }) = .loop (rc .busy none) := by rw [hrc]; rfl
        rw [hobj]
        have hl3 : l < W2.heap.size := (Array.getElem?_eq_some_iff.1 hl2).1
        have sg3 : StG ⟨cx.P, cx.G, cx.N, st.length⟩ γ (B .busy none) γ2 gb2 f2 st2 a2 (W2.putObj l (.loop (rc .busy none))) :=
          sg2.turn (l := l) rfl (by rw [hBs, hBs]) World.putObj_size ((sg2.evo.os).trans ((hBos _ _).trans (hBos _ _).symm)) ((sg2.evo.tape).trans ((hBtp _ _).trans (hBtp _ _).symm)) ((sg2.evo.output).trans ((hBout _ _).trans (hBout _ _).symm))
            (fun b hb => World.putObj_heap_other hb) (fun b hb => by rw [hBo _ _ b hb, hBo _ _ b hb]) (fun _ => (World.putObj_heap_same hl3).trans (hBl _ _).symm) hpl2.1 hpl2.2
            (fun d cs hd he' => by have := (sg2.boxes d cs hd).1; rw [hBs] at this; omega)
            (by have := sg2.defers; rw [hBs] at this ⊢; exact this.mono (fun D hD _ _ _ => World.putObj_heap_other (by omega)) (fun _ _ _ h => .inl h) (fun _ _ _ h => h))
        refine wpIn_mono (hq γ _ a2 _ ⟨γ2, gb2, sg3⟩ (some l) m (.inr hn2)) ?_
        rintro e a4 W4 ⟨f4, st4, hq4, γ4, gb4, sg4⟩
        have hl4 := recAt sg4.evo
        have hpl4 := npl sg4.evo l (by omega) (by omega)
        have hl5 : l < W4.heap.size := (Array.getElem?_eq_some_iff.1 hl4).1
        -- the round's end
        have fin : ∀ (s : LoopState) (pe : Option Code) (st5 extra : List SO), st4 = st5 ++ extra → st.length ≤ st5.length → (StOk st4 → StOk st5) →
            Evo st.length γ (B s pe) (γ4.cut st5.length) (W4.putObj l (.loop (rc s pe))) ∧ RelW (γ4.cut st5.length) st5 (W4.putObj l (.loop (rc s pe))) := by
          intro s pe st5 extra h1 h2 h3
          have sg5 : StG ⟨cx.P, cx.G, cx.N, st.length⟩ γ (B s pe) γ4 gb4 f4 st4 a4 (W4.putObj l (.loop (rc s pe))) :=
            sg4.turn (l := l) rfl (by rw [hBs, hBs]) World.putObj_size ((sg4.evo.os).trans ((hBos _ _).trans (hBos _ _).symm)) ((sg4.evo.tape).trans ((hBtp _ _).trans (hBtp _ _).symm)) ((sg4.evo.output).trans ((hBout _ _).trans (hBout _ _).symm))
              (fun b hb => World.putObj_heap_other hb) (fun b hb => by rw [hBo _ _ b hb, hBo _ _ b hb]) (fun _ => (World.putObj_heap_same hl5).trans (hBl _ _).symm) hpl4.1 hpl4.2
              (fun d cs hd he' => by have := (sg4.boxes d cs hd).1; rw [hBs] at this; omega)
              (by have := sg4.defers; rw [hBs] at this ⊢; exact this.mono (fun D hD _ _ _ => World.putObj_heap_other (by omega)) (fun _ _ _ h => .inl h) (fun _ _ _ h => h))
          refine ⟨sg5.evo.trans (evo_cut (γ := γ4) h2) (Nat.le_refl _), ?_⟩
          have hr5 := sg5.rel
          have hok := h3 (relW_stOk hr5)
          rw [h1] at hr5
          exact relW_cut hok hr5
        have hobj4 : ∀ s pe, (Obj.loop { rc .busy none with state := s, pending := pe }) = .loop (rc s pe) := fun s pe => by rw [hrc]; rfl
        cases e with
        | normal =>
          obtain ⟨st5, extra, h1, h2, h3, h4⟩ := hq4
          obtain ⟨k1, k2⟩ := fin .ready none st5 extra h1 h2 h3
          refine ⟨_, _, run_endRound none hl4, .inl ⟨rfl, γ4.cut st5.length, st5, ?_, ?_, h4⟩⟩
          · rw [hobj4]; exact k1
          · rw [hobj4]; exact k2
        | ret =>
          obtain ⟨st5, extra, h1, h2, h3, h4⟩ := hq4
          obtain ⟨k1, k2⟩ := fin .done (some .ret) st5 extra h1 h2 h3
          refine ⟨_, _, run_endRound (some .ret) hl4, .inr ⟨rfl, γ4.cut st5.length, st5, .ret, .ret, ?_, ?_, .inl ⟨rfl, rfl⟩, h4⟩⟩
          · rw [hobj4]; exact k1
          · rw [hobj4]; exact k2
        | exit id =>
          obtain ⟨st5, extra, h1, h2, h3, h4⟩ := hq4
          obtain ⟨k1, k2⟩ := fin .done (some (.exit id)) st5 extra h1 h2 h3
          refine ⟨_, _, run_endRound (some (.exit id)) hl4, .inr ⟨rfl, γ4.cut st5.length, st5, .exit id, .exit id, ?_, ?_, .inr ⟨id, rfl, rfl⟩, h4⟩⟩
          · rw [hobj4]; exact k1
          · rw [hobj4]; exact k2
        | _ => exact hq4.elim
      | _ => exact hq.elim
  refine ⟨l, [mark w.heap.size], W1, { target := .fn (.func it) cv, args := #[.func (.yield l) #[] #[]] }, W1, it, #[.func (.yield l) #[] #[]] ++ cv, W1, ?_, ?_, fun _ _ => trivial, ?_, fun h => (by cases h), ?_⟩
  · rw [← hW1, hl, hrc]; exact run_enterLoop_outer _ _ _ _ _
  · simp only [resolve, hcv]
    simp [go_sem]
  · simp [invoke, go_sem, callFunc_run hfb]
  · refine callsIn_wideR (hcall.mono ?_)
    rintro e W2 ⟨⟨v, rfl⟩, ⟨γ', st', he, hrw, hi⟩ | ⟨γ', st', x, c, he, hrw, hx, hq⟩⟩
    · exact ⟨none, _, by have := run_endLoop (P := cx.P) (recAt he) (by rw [hrc]; simp [recL]); rw [hrc] at this; exact this, f, st', hdone st' hi, back _ he hrw⟩
    · refine ⟨some c, _, by have := run_endLoop (P := cx.P) (recAt he) (by rw [hrc]; simp [recL]); rw [hrc] at this; exact this, ?_⟩
      rcases hx with ⟨rfl, rfl⟩ | ⟨id, rfl, rfl⟩
      · exact wpIn_ret ⟨f, st', hq, back _ he hrw⟩
      · exact wpIn_exit ⟨f, st', hq, back _ he hrw⟩

/-! ### Over light code -/
def setE (e : Env) (ps : List Nat) (vs : List V) : Env := (ps.zip vs).foldl (fun e p => (p.1, p.2) :: e) e
theorem get_setE : ∀ (ps : List Nat) (vs : List V) (e : Env), getE (setE e ps vs) = setPs (getE e) ps vs
  | [], _, _ => rfl
  | _ :: _, [], _ => rfl
  | p :: ps, v :: vs, e => by
    have := get_setE ps vs ((p, v) :: e)
    rw [get_cons] at this
    simpa [setE, setPs] using this
def plains : Env → Bool
  | [] => true
  | (_, v) :: r => plainV v && plains r
theorem plains_get : ∀ (e : Env) (d : Nat), plains e = true → getE e d = .undef ∨ plainV (getE e d) = true
  | [], _, _ => .inl rfl
  | (k, v) :: r, d, h => by
    simp only [plains, Bool.and_eq_true] at h
    simp only [getE]
    split
    · exact .inr h.1
    · exact plains_get r d h.2
def rndE (n : Nat) (I : List SO → Prop) (Q : Exit → Env → List SO → Prop) (e : Env) : Exit → Env → List SO → Prop
  | .normal, _, st => ∃ st' extra, st = st' ++ extra ∧ n ≤ st'.length ∧ (StOk st → StOk st') ∧ I st'
  | .ret, _, st => ∃ st' extra, st = st' ++ extra ∧ n ≤ st'.length ∧ (StOk st → StOk st') ∧ Q .ret e st'
  | .exit id, _, st => ∃ st' extra, st = st' ++ extra ∧ n ≤ st'.length ∧ (StOk st → StOk st') ∧ Q (.exit id) e st'
  | _, _, _ => False
theorem triL_rng {cx : Cx} {ks : Nat → List Nat} {e e1 : Env} {st : List SO} {Q : Exit → Env → List SO → Prop} {g : Operand} {ps : Array Tmp} {la lb : LCode} {it : FuncId} {caps : List V} {N : Nat}
    {want : Nat → Bool} {els : Nat → List V} (hg : opnd (getE e) g = .clo it caps) (hiter : IterL cx it caps st N want els) (hlen : ∀ k, k < N → (els k).length = ps.size)
    (hsub : subE e e1) (hpl : plains e1 = true)
    (I : Nat → List SO → Prop) (h0 : I 0 st) (hskip : ∀ k st', k < N → want k = false → I k st' → I (k + 1) st')
    (hround : ∀ k st', k < N → want k = true → I k st' → TriX ⟨cx.P, cx.G, cx.N, st.length⟩ ks la (setE e1 ps.toList (els k)) st'
      (thenE (fun e2 st2 => TriX ⟨cx.P, cx.G, cx.N, st.length⟩ ks lb e2 st2 (rndE st.length (I (k + 1)) Q e)) (fun _ _ _ => False)))
    (hdone : ∀ st', I N st' → Q .normal e st') : TriX cx ks (.rng g ps la lb) e st Q := by
  intro c hc hB
  cases c <;> simp [light] at hc
  obtain ⟨rfl, rfl, ha, hb⟩ := hc
  simp only [codeB, Bool.and_eq_true, List.all_eq_true, decide_eq_true_eq] at hB
  obtain ⟨⟨⟨⟨c1, c2⟩, c3⟩, c4⟩, c5⟩ := hB
  refine tri_rng (fr := getE e1) hg hiter hlen c5 c3 c4 (fun d => ?_) I h0 hskip (fun k st' hk hw hi => ?_) (fun st' h => ⟨e, rfl, hdone st' h⟩)
  · rcases plains_get e1 d hpl with h | h
    · exact .inl h
    · rcases subE_get hsub d with h2 | h2
      · exact .inl h2
      · exact .inr ⟨h2, h2 ▸ h⟩
  · rw [← get_setE]
    refine (hround k st' hk hw hi _ ha c1).mono ?_
    rintro x f2 st2 ⟨e2, rfl, hq⟩
    cases x with
    | normal =>
      refine (hq _ hb c2).mono ?_
      rintro x f3 st3 ⟨e3, rfl, hq3⟩
      cases x with
      | normal => exact hq3
      | ret => obtain ⟨a1, a2, a3, a4, a5, a6⟩ := hq3; exact ⟨a1, a2, a3, a4, a5, e, rfl, a6⟩
      | exit id => obtain ⟨a1, a2, a3, a4, a5, a6⟩ := hq3; exact ⟨a1, a2, a3, a4, a5, e, rfl, a6⟩
      | _ => exact hq3.elim
    | _ => exact hq.elim
theorem rngM_intro {cx : Cx} {an : Ann} {ks : Nat → List Nat} {e : Env} {st : List SO} {Q : Exit → Env → List SO → Prop} {g : Operand} {ps : Array Tmp} {ma mb : MCode} {it : FuncId} {caps : List V} {N : Nat}
    {want : Nat → Bool} {els : Nat → List V} (e1 : Env) (I : Nat → List SO → Prop) (hiter : IterL cx it caps st N want els) (hg : opnd (getE e) g = .clo it caps) (hlen : ∀ k, k < N → (els k).length = ps.size)
    (hsub : subE e e1) (hpl : plains e1 = true) (h0 : I 0 st) (hskip : ∀ k st', k < N → want k = false → I k st' → I (k + 1) st')
    (hround : ∀ k st', k < N → want k = true → I k st' → wpM ⟨cx.P, cx.G, cx.N, st.length⟩ an ks ma (setE e1 ps.toList (els k)) st'
      (thenE (fun e2 st2 => wpM ⟨cx.P, cx.G, cx.N, st.length⟩ an ks mb e2 st2 (rndE st.length (I (k + 1)) Q e)) (fun _ _ _ => False)))
    (hdone : ∀ st', I N st' → Q .normal e st') : @rngM cx an ks g ps ma mb e st ⟨Q⟩ := fun hok => by
  simp only [MCode.ok, Bool.and_eq_true] at hok
  refine triL_rng hg hiter hlen hsub hpl I h0 hskip (fun k st' hk hw hi => ?_) hdone
  refine (wpM_sound ma _ _ _ (hround k st' hk hw hi) hok.1).mono ?_
  intro x e2 st2 hq
  cases x with
  | normal => exact wpM_sound mb _ _ _ hq hok.2
  | _ => exact hq

/-! ### Results that lie in the store -/
def resOneS (P : Program) (e : Env) (st : List SO) : ResultVar → Option V
  | .tmp t => some (getE e t)
  | .cell a t => match getE e a with
    | .box cs => loadAbs P t cs 0
    | .ptr id off => match st[id]? with
      | some (.box cs) => loadAbs P t cs off
      | _ => none
    | _ => none
def resVsS (P : Program) (e : Env) (st : List SO) : List ResultVar → Option (List V)
  | [] => some []
  | r :: rest => match resOneS P e st r, resVsS P e st rest with
    | some v, some vs => if plainV v = true then some (v :: vs) else none
    | _, _ => none
def resAllS (P : Program) (e : Env) (st : List SO) (rs : List ResultVar) : Option V :=
  match resVsS P e st rs with
  | some [v] => some v
  | some vs => some (.tup vs)
  | none => none
section
variable {cx : Cx}
theorem resOneS_run {γ0 γ : Gh} {w0 w : World} {gb : Nat → Nat} {e : Env} {st : List SO} {a : Act} {r : ResultVar} {v : V} (sg : StG cx γ0 w0 γ gb (getE e) st a w)
    (h : resOneS cx.P e st r = some v) (hp : plainV v = true) :
    ∃ x, (resSem a.tmps r).run cx.P w = .ok x w ∧ RelV γ w v x := by
  cases r with
  | tmp t => exact resOne_run sg (r := .tmp t) h hp
  | cell c t =>
    simp only [resOneS] at h
    split at h
    · next cs hc => exact resOne_run sg (r := .cell c t) (by simp only [resOne, hc]; exact h) hp
    · next id off hc =>
      split at h
      · next cs hs =>
        have hsl := sg.slots c
        rw [hc] at hsl
        have hsl : RelV γ w (.ptr id off) (a.tmps.getD c undef) := hsl
        simp only [resSem]
        generalize a.tmps.getD c undef = x at *
        cases hsl with
        | ptr _ _ b l hl hb =>
          obtain ⟨_, b', vs, T, h1, h2, h3⟩ := sg.rel.objs id l _ hl hs
          rw [hb] at h1
          cases h1
          obtain ⟨x, hx, hr⟩ := load_row h2 h3 h
          refine ⟨x, ?_, hr⟩
          simp only [asAddr, Sem.run_bind, Sem.run_pure, Result.andThen_ok]
          exact hx
      · cases h
    · cases h
theorem resVsS_run {γ0 γ : Gh} {w0 w : World} {gb : Nat → Nat} {e : Env} {st : List SO} {a : Act} (sg : StG cx γ0 w0 γ gb (getE e) st a w) : ∀ (rs : List ResultVar) (vs : List V),
    resVsS cx.P e st rs = some vs → ∃ xs : List Value, (rs.mapM (resSem a.tmps)).run cx.P w = .ok xs w ∧
      xs.length = vs.length ∧ ∀ (i : Nat) v x, vs[i]? = some v → xs[i]? = some x → RelV γ w v x
  | [], vs, h => by
    simp only [resVsS, Option.some.injEq] at h
    subst h
    exact ⟨[], rfl, rfl, by simp⟩
  | r :: rest, vs, h => by
    simp only [resVsS] at h
    split at h
    · next v vs' h1 h2 =>
      split at h
      · next hp =>
        injection h with h
        subst h
        obtain ⟨x, hx, hr⟩ := resOneS_run sg h1 hp
        obtain ⟨xs, hxs, hl, hrs⟩ := resVsS_run sg rest vs' h2
        refine ⟨x :: xs, ?_, by simp [hl], fun i u y hi hy => ?_⟩
        · rw [List.mapM_cons]
          simp only [Sem.run_bind, Sem.run_pure]
          rw [hx]
          simp only [Result.andThen_ok]
          rw [hxs]
          rfl
        · cases i with
          | zero => simp at hi hy; subst hi hy; exact hr
          | succ i => simp at hi hy; exact hrs i u y hi hy
      · cases h
    · cases h
theorem resAllS_run {γ0 γ : Gh} {w0 w : World} {gb : Nat → Nat} {e : Env} {st : List SO} {a : Act} {fn : Func} {v : V} (sg : StG cx γ0 w0 γ gb (getE e) st a w)
    (h : resAllS cx.P e st fn.results.toList = some v) : ∃ x, (results fn a.tmps).run cx.P w = .ok x w ∧ RelV γ w v x := by
  unfold resAllS at h
  have main : ∀ vs, resVsS cx.P e st fn.results.toList = some vs → ∃ xs : Array Value, (results fn a.tmps).run cx.P w = .ok (if h : xs.size = 1 then xs[0] else .tuple xs) w ∧
      xs.size = vs.length ∧ ∀ (i : Nat) v x, vs[i]? = some v → xs[i]? = some x → RelV γ w v x := by
    intro vs hvs
    obtain ⟨xs, hxs, hl, hr⟩ := resVsS_run sg _ _ hvs
    refine ⟨xs.toArray, ?_, by simp [hl], fun i v x hi hx => hr i v x hi (by simpa using hx)⟩
    rw [results_eq, Array.mapM_eq_mapM_toList]
    simp only [Sem.run_bind, Sem.run_map]
    rw [hxs]
    rfl
  split at h
  · next u hu =>
    injection h with h
    subst h
    obtain ⟨xs, h1, h2, h3⟩ := main _ hu
    have h2' : xs.size = 1 := h2
    rw [dif_pos h2'] at h1
    exact ⟨_, h1, h3 0 u _ rfl (by rw [Array.getElem?_eq_getElem (by omega)])⟩
  · next vs hne hvs =>
    injection h with h
    subst h
    obtain ⟨xs, h1, h2, h3⟩ := main _ hvs
    have h2' : ¬ xs.size = 1 := by
      intro h4
      rw [h2] at h4
      match vs, h4 with
      | [u], _ => exact hne u rfl
    rw [dif_neg h2'] at h1
    exact ⟨_, h1, .tup _ _ h2 h3⟩
  · cases h
end
/-- The end of a function whose results lie in the store. -/
def EndsS (cx : Cx) (rs : List ResultVar) (res : V) (st0 : List SO) : Exit → Env → List SO → Prop := fun x e st =>
  (x = .normal ∨ x = .ret) ∧ (∃ extra, st = st0 ++ extra) ∧ resAllS cx.P e st rs = some res
theorem FnL.sto {P : Program} {G : World → Prop} {g : FuncId} {N : Nat} {M : MCode} {rs : List ResultVar} {ks : Nat → List Nat} {args : List V} {st st' : List SO} {res : V}
    (h : FnL P G g N M rs ks) (an : Ann) (ha : args.length ≤ N) (hres : noRef res = true) (hok : StOk st → StOk st') (hlen : st.length ≤ st'.length)
    (hw : wpM ⟨P, G, N, st.length⟩ an ks M (argE args 0) st (EndsS ⟨P, G, N, st.length⟩ rs res st')) : FnOK P G g args st res st' := by
  obtain ⟨⟨fn, h1, h2, h3, h4, h5⟩, h6, h7⟩ := h
  obtain ⟨c, hc, hl⟩ := Option.map_eq_some_iff.1 h3
  rw [hc] at h4
  simp only [Option.map_some, Option.some.injEq] at h4
  refine fn_intro_g h1 hc h5 h7 hl h4 ha fun hst => (wpM_sound M _ _ _ hw h6).mono ?_
  rintro x e st1 ⟨hx, ⟨extra, rfl⟩, hr⟩
  refine ⟨hx, e, _, WeakE.refl, fun γ0 w0 γ gb a w sg => ?_⟩
  obtain ⟨v, hv, hrel⟩ := resAllS_run sg (by rw [h2]; exact hr)
  exact ⟨γ.cut st'.length, v, hv, relW_cut (hok hst) sg.rel, relV_cut (noRef_spec res hres) hrel, sg.evo.trans (evo_cut (γ := γ) (w := w) hlen) (Nat.le_refl _)⟩
end Go.L1
