/- What an argument reads as gives a value of its kind: numbers, bools, strings, slices, structs of these. -/
import Derived.Test.YtooamacekmjpaaaVSized
import Derived.Test.YtooamacekmjpaaaVWords
import Derived.Deep.Slices
import Derived.Deep.Fields
import Derived.ChangeSame
import Derived.OpenShut
import Derived.ShutString
import Derived.SizedLaws
namespace Go.Proofs.YtooamacekmjpaaaX
open Go.ChangeShapes Go.WideShapes Go.Deep Go.RowKit Go.Proofs.YtooamacekmjpaaaW.PrintWords
set_option linter.unusedVariables false
/-- Whatever reads at type t is of kind d, and is as G says. -/
def Opens {α : Type} (P : Program) (t : TypeId) (d : Kd α) (G : α → Prop) : Prop :=
  ∀ (H : Type) (enc : TypeId × Value → H) (w : World) (base : Nat) (spare : Nat → Bool) (held : Bool) (fuel : Nat) (cs : List Value) (y : DataW H × List MemPlace), DataW.trod enc P w base spare held fuel t cs = some y → ∃ x, d.K w x cs ∧ G x
variable {P : Program} {t e : TypeId} {α β : Type}
theorem opens_int {k : IntKind} (h : P.underlying t = some (.int k)) : Opens P t (Kd.int k) (fun n => (Lit.int k n).wf = true) := by
  intro H enc w base spare held fuel cs y hy
  obtain ⟨n, rfl, _, hw⟩ := DataW.trod_int h hy
  exact ⟨n, rfl, hw⟩
theorem opens_bool (h : P.underlying t = some .bool) : Opens P t Kd.bool (fun _ => True) := by
  intro H enc w base spare held fuel cs y hy
  obtain ⟨b, rfl, _⟩ := DataW.trod_bool h hy
  exact ⟨b, rfl, trivial⟩
theorem opens_string (h : P.underlying t = some .string) : Opens P t Kd.string (fun s => s.size ≤ maxLen) := by
  intro H enc w base spare held fuel cs y hy
  obtain ⟨s, rfl, _, hs⟩ := DataW.trod_string h hy
  exact ⟨s, rfl, hs⟩
theorem opens_iso {d : Kd α} {G : α → Prop} (f : β → α) (g : α → β) (hfg : ∀ a, f (g a) = a) (o : Opens P t d G) : Opens P t (Kd.iso d f) (fun x => G (f x)) := by
  intro H enc w base spare held fuel cs y hy
  obtain ⟨x, hk, hg⟩ := o H enc w base spare held fuel cs y hy
  refine ⟨g x, ?_, ?_⟩
  · show d.K w (f (g x)) cs
    rw [hfg]; exact hk
  · show G (f (g x))
    rw [hfg]; exact hg
theorem opens_slice {d : Kd α} {G : α → Prop} (e' : Nat) (h : P.underlying t = some (.slice e)) (hc : P.cellsOf e = d.sz) (o : Opens P e d G) : Opens P t (Kd.slice e' d) (fun l => l.length ≤ maxLen ∧ ∀ x ∈ l, G x) := by
  intro H enc w base spare held fuel cs y hy
  rcases open_slice h hy with ⟨rfl, _⟩ | ⟨a, len, cap, m, n, D, Pl, rfl, _, hl, hm, hmm, _, hi⟩
  · exact ⟨[], ⟨none, 0, rfl, Nat.le_refl _, rfl, by simp, fun hn => absurd hn (by simp)⟩, by simp, fun x hx => by cases hx⟩
  · have hlm : len ≤ m := by
      rw [hmm]; split <;> omega
    have each : ∀ i : Fin len, ∃ (c : List Value) (x : α), w.cells? base (a.add (i.1 * P.cellsOf e)) (P.cellsOf e) = some c ∧ d.K w x c ∧ G x := by
      intro i
      obtain ⟨c, h1, h2⟩ := hi i.1 (by have := i.2; omega)
      obtain ⟨x, hk, hg⟩ := o H enc w base spare held n c _ h2
      exact ⟨c, x, h1, hk, hg⟩
    have hx : ∃ X : Fin len → α, ∀ i : Fin len, ∃ c : List Value, w.cells? base (a.add (i.1 * P.cellsOf e)) (P.cellsOf e) = some c ∧ d.K w (X i) c ∧ G (X i) :=
      ⟨fun i => Classical.choose (Classical.choose_spec (each i)), fun i => ⟨_, Classical.choose_spec (Classical.choose_spec (each i))⟩⟩
    obtain ⟨X, hX⟩ := hx
    have hlen : (List.ofFn X).length = len := List.length_ofFn
    refine ⟨List.ofFn X, ⟨some a, cap, by rw [hlen], by rw [hlen]; exact hl, rfl, ?_, fun hn => ⟨a, rfl, ?_⟩⟩, ?_, ?_⟩
    · rw [hlen]; unfold maxLen at hm; omega
    · intro j p hj
      have hjl : j < len := by
        have := (List.getElem?_eq_some_iff.1 hj).1
        rwa [hlen] at this
      have hp : p = X ⟨j, hjl⟩ := by
        rw [List.getElem?_ofFn, dif_pos hjl] at hj
        exact (Option.some.inj hj).symm
      obtain ⟨c, h1, h2, _⟩ := hX ⟨j, hjl⟩
      refine ⟨c, d.K_len h2, hp ▸ h2, fun i u hu => ?_⟩
      obtain ⟨_, hcl, hat⟩ := World.cells?_some h1
      have hil : i < c.length := (List.getElem?_eq_some_iff.1 hu).1
      have := hat i (by rw [hcl] at hil; exact hil)
      rw [hc] at this
      rw [← Go.Deep.add_add, this, hu]
    · rw [hlen]; unfold maxLen at hm ⊢; omega
    · intro x hx
      obtain ⟨i, rfl⟩ := List.mem_ofFn.1 hx
      obtain ⟨c, _, _, hg⟩ := hX i
      exact hg
theorem opens_two {d0 : Kd α} {d1 : Kd β} {G0 : α → Prop} {G1 : β → Prop} {f0 f1 : Field} (h : P.underlying t = some (.struct #[f0, f1])) (hC : P.cellsOf t = d0.sz + d1.sz) (h0 : f0.offset = 0) (h1 : f1.offset = d0.sz)
    (c0 : P.cellsOf f0.type = d0.sz) (c1 : P.cellsOf f1.type = d1.sz) (o0 : Opens P f0.type d0 G0) (o1 : Opens P f1.type d1 G1) : Opens P t (Kd.pair d0 d1) (fun x => G0 x.1 ∧ G1 x.2) := by
  intro H enc w base spare held fuel cs y hy
  obtain ⟨xs, n, _, _, hl, hxl, hf⟩ := DataW.trod_struct h hy
  have g0 := hf 0 f0 rfl
  have g1 := hf 1 f1 rfl
  have hx2 : xs.length = 2 := hxl
  rw [List.getElem?_eq_getElem (by omega)] at g0 g1
  rw [h0, c0] at g0
  rw [h1, c1] at g1
  obtain ⟨x0, k0, p0⟩ := o0 H enc w base spare held n _ _ g0
  obtain ⟨x1, k1, p1⟩ := o1 H enc w base spare held n _ _ g1
  refine ⟨(x0, x1), ⟨_, _, ?_, k0, k1⟩, p0, p1⟩
  rw [List.drop_zero, List.take_of_length_le (l := cs.drop d0.sz) (by rw [List.length_drop]; omega), List.take_append_drop]
theorem opens_five {α0 α1 α2 α3 α4 : Type} {d0 : Kd α0} {d1 : Kd α1} {d2 : Kd α2} {d3 : Kd α3} {d4 : Kd α4} {G0 : α0 → Prop} {G1 : α1 → Prop} {G2 : α2 → Prop} {G3 : α3 → Prop} {G4 : α4 → Prop} {f0 f1 f2 f3 f4 : Field}
    (h : P.underlying t = some (.struct #[f0, f1, f2, f3, f4])) (hC : P.cellsOf t = 5) (h0 : f0.offset = 0) (h1 : f1.offset = 1) (h2 : f2.offset = 2) (h3 : f3.offset = 3) (h4 : f4.offset = 4)
    (c0 : P.cellsOf f0.type = 1) (c1 : P.cellsOf f1.type = 1) (c2 : P.cellsOf f2.type = 1) (c3 : P.cellsOf f3.type = 1) (c4 : P.cellsOf f4.type = 1)
    (o0 : Opens P f0.type d0 G0) (o1 : Opens P f1.type d1 G1) (o2 : Opens P f2.type d2 G2) (o3 : Opens P f3.type d3 G3) (o4 : Opens P f4.type d4 G4) :
    Opens P t (Kd.pair d0 (Kd.pair d1 (Kd.pair d2 (Kd.pair d3 d4)))) (fun x => G0 x.1 ∧ G1 x.2.1 ∧ G2 x.2.2.1 ∧ G3 x.2.2.2.1 ∧ G4 x.2.2.2.2) := by
  intro H enc w base spare held fuel cs y hy
  obtain ⟨xs, n, _, _, hl, hxl, hf⟩ := DataW.trod_struct h hy
  have g0 := hf 0 f0 rfl
  have g1 := hf 1 f1 rfl
  have g2 := hf 2 f2 rfl
  have g3 := hf 3 f3 rfl
  have g4 := hf 4 f4 rfl
  have hx5 : xs.length = 5 := hxl
  rw [List.getElem?_eq_getElem (by omega)] at g0 g1 g2 g3 g4
  rw [h0, c0] at g0
  rw [h1, c1] at g1
  rw [h2, c2] at g2
  rw [h3, c3] at g3
  rw [h4, c4] at g4
  obtain ⟨x0, k0, p0⟩ := o0 H enc w base spare held n _ _ g0
  obtain ⟨x1, k1, p1⟩ := o1 H enc w base spare held n _ _ g1
  obtain ⟨x2, k2, p2⟩ := o2 H enc w base spare held n _ _ g2
  obtain ⟨x3, k3, p3⟩ := o3 H enc w base spare held n _ _ g3
  obtain ⟨x4, k4, p4⟩ := o4 H enc w base spare held n _ _ g4
  rw [hC] at hl
  match cs, hl with
  | [b0, b1, b2, b3, b4], _ =>
    exact ⟨(x0, x1, x2, x3, x4), ⟨_, _, rfl, k0, _, _, rfl, k1, _, _, rfl, k2, _, _, rfl, k3, k4⟩, p0, p1, p2, p3, p4⟩
end Go.Proofs.YtooamacekmjpaaaX
