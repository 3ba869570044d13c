/-
  The frame: chains and texts out of readings.
-/
import Derived.Test.YthkmfboffnhkaaaGreatDoorF1
import Derived.Test.YthkmfboffnhkaaaGreatDoorWD
import Derived.OpenShut
set_option linter.all false
namespace Go.Proofs.YthkmfboffnhkaaaGreatDoor
open Go Go.L1
set_option maxRecDepth 100000
set_option maxHeartbeats 4000000

def boxT : PT := .st [.s, .s, .s]
def wrapT : PT := .st [.i .i64, .i .i64, boxT]
def actT : PT := .st [.s, .i .i64, .s, .i .i64, .i .i64, .s, .s, .i .i64, .s, .sl .s, .s, boxT, .i .i64, .sl wrapT, .i .i64, .i .i64, .st [.i .i64, .i .i64]]
def keyT : PT := .st [.i .i64, .i .i64, .i .i64]
def chainT : PT := .st [.s, .sl actT, .sl keyT, .s, .i .i64, .b]
theorem pt22 : ptOf Tryz.prog 60 22 = some (.sl chainT) := by kernel_rfl
theorem pt23 : ptOf Tryz.prog 60 23 = some (.sl .s) := by kernel_rfl
theorem pt3 : ptOf Tryz.prog 60 3 = some (.i .i64) := by kernel_rfl

section
variable {B : Nat}
theorem fit_b {cs : List C} (h : Fit B .b cs) : ∃ x, cs = [.bool x] := by cases h with | b x => exact ⟨x, rfl⟩
theorem fit_i {k : IntKind} {cs : List C} (h : Fit B (.i k) cs) : ∃ n, cs = [.int k n] ∧ (Lit.int k n).wf = true := by cases h with | i k n h => exact ⟨n, rfl, h⟩
theorem fit_s {cs : List C} (h : Fit B .s cs) : ∃ l, cs = [.str l] ∧ l.length ≤ B := by cases h with | s l h => exact ⟨l, rfl, h⟩
theorem fit_sl {e : PT} {cs : List C} (h : Fit B (.sl e) cs) : ∃ xs, cs = [.sl xs] ∧ xs.length ≤ B ∧ ∀ x ∈ xs, Fit B e x := by cases h with | sl e xs h hx => exact ⟨xs, rfl, h, hx⟩
theorem fit_nil {cs : List C} (h : Fit B (.st []) cs) : cs = [] := by cases h; rfl
theorem fit_cons {f : PT} {fs : List PT} {cs : List C} (h : Fit B (.st (f :: fs)) cs) : ∃ x y, cs = x ++ y ∧ Fit B f x ∧ Fit B (.st fs) y := by
  cases h with | cons f fs x y hx hy => exact ⟨x, y, rfl, hx, hy⟩
theorem fit_list {α : Type} {e : PT} {g : α → List C} {Q : α → Prop} (h : ∀ x, Fit B e x → ∃ a, x = g a ∧ Q a) : ∀ xs : List (List C), (∀ x ∈ xs, Fit B e x) → ∃ ls : List α, xs = ls.map g ∧ ∀ a ∈ ls, Q a
  | [], _ => ⟨[], rfl, by simp⟩
  | x :: r, hx => by
    obtain ⟨a, h1, h2⟩ := h x (hx x (List.mem_cons_self ..))
    obtain ⟨ls, h3, h4⟩ := fit_list h r fun y hy => hx y (List.mem_cons_of_mem _ hy)
    exact ⟨a :: ls, by simp [h1, h3], fun b hb => by
      rcases List.mem_cons.1 hb with rfl | hb
      · exact h2
      · exact h4 b hb⟩
theorem fit_box {cs : List C} (h : Fit B boxT cs) : ∃ b : Box, cs = [.str b.nonce, .str b.data, .str b.tag] ∧ b.nonce.length ≤ B ∧ b.data.length ≤ B ∧ b.tag.length ≤ B := by
  obtain ⟨_, _, rfl, h0, h⟩ := fit_cons h
  obtain ⟨_, _, rfl, h1, h⟩ := fit_cons h
  obtain ⟨_, _, rfl, h2, h⟩ := fit_cons h
  obtain rfl := fit_nil h
  obtain ⟨a, rfl, k0⟩ := fit_s h0
  obtain ⟨b, rfl, k1⟩ := fit_s h1
  obtain ⟨c, rfl, k2⟩ := fit_s h2
  exact ⟨⟨a, b, c⟩, rfl, k0, k1, k2⟩
theorem fit_texts {cs : List C} (h : Fit B (.sl .s) cs) : ∃ l : List (List UInt8), cs = [texts l] ∧ l.length ≤ B ∧ ∀ s ∈ l, s.length ≤ B := by
  obtain ⟨xs, rfl, h1, h2⟩ := fit_sl h
  obtain ⟨ls, rfl, h3⟩ := fit_list (g := fun s : List UInt8 => [C.str s]) (Q := fun s => s.length ≤ B) (fun x hx => fit_s hx) xs h2
  exact ⟨ls, rfl, by simpa using h1, h3⟩
end
theorem wf64 {n : Int} (h : (Lit.int .i64 n).wf = true) : n ≤ 9223372036854775807 := (bounds_i64 h).2
theorem fit_wrap {cs : List C} (h : Fit tooBig wrapT cs) : ∃ w : Wrap, cs = w.cells ∧ (w.box.Fits ∧ w.to ≤ 9223372036854775807 ∧ w.eph ≤ 9223372036854775807) := by
  obtain ⟨_, _, rfl, h0, h⟩ := fit_cons h
  obtain ⟨_, _, rfl, h1, h⟩ := fit_cons h
  obtain ⟨_, _, rfl, h2, h⟩ := fit_cons h
  obtain rfl := fit_nil h
  obtain ⟨a, rfl, k0⟩ := fit_i h0
  obtain ⟨b, rfl, k1⟩ := fit_i h1
  obtain ⟨c, rfl, k2, k3, k4⟩ := fit_box h2
  exact ⟨⟨a, b, c⟩, rfl, ⟨k2, k3, k4⟩, wf64 k0, wf64 k1⟩
theorem sumL_le (l : List (List UInt8)) (h : ∀ s ∈ l, s.length ≤ tooBig) : sumL l ≤ tooBig * l.length := by
  induction l with
  | nil => simp [sumL]
  | cons x r ih =>
    have h1 := ih fun s hs => h s (List.mem_cons_of_mem _ hs)
    have h2 := h x (List.mem_cons_self ..)
    simp [sumL, Nat.mul_add] at *
    omega
theorem fit_act {cs : List C} (h : Fit tooBig actT cs) : ∃ a : Act, cs = a.cells ∧ (a.to.length ≤ 8 → a.Fits) := by
  obtain ⟨_, _, rfl, h0, h⟩ := fit_cons h
  obtain ⟨_, _, rfl, h1, h⟩ := fit_cons h
  obtain ⟨_, _, rfl, h2, h⟩ := fit_cons h
  obtain ⟨_, _, rfl, h3, h⟩ := fit_cons h
  obtain ⟨_, _, rfl, h4, h⟩ := fit_cons h
  obtain ⟨_, _, rfl, h5, h⟩ := fit_cons h
  obtain ⟨_, _, rfl, h6, h⟩ := fit_cons h
  obtain ⟨_, _, rfl, h7, h⟩ := fit_cons h
  obtain ⟨_, _, rfl, h8, h⟩ := fit_cons h
  obtain ⟨_, _, rfl, h9, h⟩ := fit_cons h
  obtain ⟨_, _, rfl, h10, h⟩ := fit_cons h
  obtain ⟨_, _, rfl, h11, h⟩ := fit_cons h
  obtain ⟨_, _, rfl, h12, h⟩ := fit_cons h
  obtain ⟨_, _, rfl, h13, h⟩ := fit_cons h
  obtain ⟨_, _, rfl, h14, h⟩ := fit_cons h
  obtain ⟨_, _, rfl, h15, h⟩ := fit_cons h
  obtain ⟨_, _, rfl, h16, h⟩ := fit_cons h
  obtain rfl := fit_nil h
  obtain ⟨author, rfl, k0⟩ := fit_s h0
  obtain ⟨seq, rfl, k1⟩ := fit_i h1
  obtain ⟨prev, rfl, k2⟩ := fit_s h2
  obtain ⟨kind, rfl, k3⟩ := fit_i h3
  obtain ⟨time, rfl, k4⟩ := fit_i h4
  obtain ⟨object, rfl, k5⟩ := fit_s h5
  obtain ⟨target, rfl, k6⟩ := fit_s h6
  obtain ⟨scope, rfl, k7⟩ := fit_i h7
  obtain ⟨group, rfl, k8⟩ := fit_s h8
  obtain ⟨to, rfl, k9, k9'⟩ := fit_texts h9
  obtain ⟨text, rfl, k10⟩ := fit_s h10
  obtain ⟨body, rfl, k11, k11', k11''⟩ := fit_box h11
  obtain ⟨epoch, rfl, k12⟩ := fit_i h12
  obtain ⟨ws, rfl, k13, k13'⟩ := fit_sl h13
  obtain ⟨wraps, rfl, k13''⟩ := fit_list (fun x hx => fit_wrap hx) ws k13'
  obtain ⟨n, rfl, k14⟩ := fit_i h14
  obtain ⟨m, rfl, k15⟩ := fit_i h15
  obtain ⟨_, _, rfl, h17, h20⟩ := fit_cons h16
  obtain ⟨_, _, rfl, h18, h19⟩ := fit_cons h20
  obtain rfl := fit_nil h19
  obtain ⟨sigE, rfl, k16⟩ := fit_i h17
  obtain ⟨sigS, rfl, k17⟩ := fit_i h18
  refine ⟨⟨author, seq, prev, kind, time, object, target, scope, group, to, text, body, epoch, wraps, n, m, sigE, sigS⟩, rfl, fun h8 => ?_⟩
  refine ⟨k0, k2, k5, k6, k8, k10, ⟨k11, k11', k11''⟩, k9, ?_, by simpa using k13, k13'', k3, ?_⟩
  · have h1 := sumL_le to k9'
    have h2 : to.length ≤ 8 := h8
    have h3 := Nat.mul_le_mul_left tooBig h2
    have h4 : tooBig * 8 = 8388608 := by decide
    show sumL to ≤ 8388608
    omega
  · have e1 := wf64 k1; have e3 := wf64 k3; have e4 := wf64 k4; have e7 := wf64 k7; have e12 := wf64 k12; have e14 := wf64 k14; have e15 := wf64 k15; have e16 := wf64 k16; have e17 := wf64 k17
    intro x hx
    simp at hx
    rcases hx with rfl | rfl | rfl | rfl | rfl | rfl | rfl | rfl | rfl <;> assumption
theorem fit_key {cs : List C} (h : Fit tooBig keyT cs) : ∃ k : KeyAt, cs = k.cells ∧ True := by
  obtain ⟨_, _, rfl, h0, h⟩ := fit_cons h
  obtain ⟨_, _, rfl, h1, h⟩ := fit_cons h
  obtain ⟨_, _, rfl, h2, h⟩ := fit_cons h
  obtain rfl := fit_nil h
  obtain ⟨a, rfl, k0⟩ := fit_i h0
  obtain ⟨b, rfl, k1⟩ := fit_i h1
  obtain ⟨c, rfl, k2⟩ := fit_i h2
  exact ⟨⟨a, b, c⟩, rfl, trivial⟩
theorem fit_chain {cs : List C} (h : Fit tooBig chainT cs) : ∃ c : Chain, cs = c.cells ∧ ∀ a ∈ c.acts, a.to.length ≤ 8 → a.Fits := by
  obtain ⟨_, _, rfl, h0, h⟩ := fit_cons h
  obtain ⟨_, _, rfl, h1, h⟩ := fit_cons h
  obtain ⟨_, _, rfl, h2, h⟩ := fit_cons h
  obtain ⟨_, _, rfl, h3, h⟩ := fit_cons h
  obtain ⟨_, _, rfl, h4, h⟩ := fit_cons h
  obtain ⟨_, _, rfl, h5, h⟩ := fit_cons h
  obtain rfl := fit_nil h
  obtain ⟨id, rfl, _⟩ := fit_s h0
  obtain ⟨ls, rfl, _, k1⟩ := fit_sl h1
  obtain ⟨acts, rfl, k1'⟩ := fit_list (fun x hx => fit_act hx) ls k1
  obtain ⟨ks, rfl, _, k2⟩ := fit_sl h2
  obtain ⟨keys, rfl, _⟩ := fit_list (fun x hx => fit_key hx) ks k2
  obtain ⟨prev, rfl, _⟩ := fit_s h3
  obtain ⟨gen, rfl, _⟩ := fit_i h4
  obtain ⟨fork, rfl⟩ := fit_b h5
  exact ⟨⟨id, acts, keys, prev, gen, fork⟩, rfl, k1'⟩
theorem fit_chains {cs : List C} (h : Fit tooBig (.sl chainT) cs) : ∃ l : List Chain, cs = [.sl (l.map Chain.cells)] ∧ l.length ≤ tooBig ∧ ∀ c ∈ l, ∀ a ∈ c.acts, a.to.length ≤ 8 → a.Fits := by
  obtain ⟨xs, rfl, h1, h2⟩ := fit_sl h
  obtain ⟨ls, rfl, h3⟩ := fit_list (fun x hx => fit_chain hx) xs h2
  exact ⟨ls, rfl, by simpa using h1, h3⟩
end Go.Proofs.YthkmfboffnhkaaaGreatDoor
