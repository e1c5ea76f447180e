/- Short words for the walks: each stands for a step, or an argument, that the walks take again and again; what is left to show is shown in the same way each time. -/
import Derived.Test.YtagfiehoodepbaaDoorB
import Derived.Test.YtagfiehoodepbaaDoorWWords
import Derived.Test.YtagfiehoodepbaaDoorWLast
import Derived.Test.YtagfiehoodepbaaDoorWTab
import Derived.Test.YtagfiehoodepbaaDoorWApart
import Derived.Test.YtagfiehoodepbaaDoorWKept
set_option linter.unusedVariables false
set_option linter.unusedSimpArgs false
namespace Go.Proofs.YtagfiehoodepbaaDoor
open Go.RowKit Go.Proofs.YtagfiehoodepbaaDoorW.PrintWords Go.Proofs.YtagfiehoodepbaaDoorW.PrintLast Go.Proofs.YtagfiehoodepbaaDoorW.PrintMore
/-- n marks, as a number tells them. -/
def bl : Nat → Nat → List Bool
  | 0, _ => []
  | n + 1, k => (k % 2 == 1) :: bl n (k / 2)
def bs (n k : Nat) : Array Bool := (bl n k).toArray
section
variable {P : Program} {md : Region.Mode} {ops : Array Oper} {Q : Exit → Act → World → Prop} {S : World → Prop} {ds : List Nat} {oi : Oper} {v : Value} {fuel : Nat} {l : Array Bool} {a a' : Act} {w : World}
theorem pu (i t n k : Nat) (hi : ops[i]? = some oi) (hN : oi.dst = some t) (h : wpAnyLast P md ops Q S ds fuel (bs n k) a' w)
    (hw : Region.wanted oi (yielded ops a.tmps) = true := by rfl) (hr : ∀ w', (execOp a.eval oi).run P w' = .ok (.value v) w' := by intro w'; go_simp; with_reducible rfl)
    (hc : anyB md ops l (bs n k) i = true := by first | exact any_of HT_.out (by kernel_rfl) | kernel_rfl)
    (hQ : ∀ c a w, Q (.panic c) (a.put oi.dst v) w → Q (.panic c) a w := by exact fun _ _ _ h => h)
    (ha : a.put (some t) v = a' := by simp only [Act.put, List.setIfInBounds_toArray, List.set_cons_zero, List.set_cons_succ, i64_w, i32_w]; rfl) :
    wpAnyLast P md ops Q S ds (fuel + 1) l a w := pure_ (bs n k) hi hN hc hQ (Or.inl ⟨hw, hr⟩) ha h
theorem po (i t n k : Nat) (hi : ops[i]? = some oi) (hN : oi.dst = some t) (h : wpAnyLast P md ops Q S ds fuel (bs n k) a' w)
    (hw : Region.wanted oi (yielded ops a.tmps) = false := by rfl)
    (hc : anyB md ops l (bs n k) i = true := by first | exact any_of HT_.out (by kernel_rfl) | kernel_rfl)
    (hQ : ∀ c a w, Q (.panic c) (a.put oi.dst undef) w → Q (.panic c) a w := by exact fun _ _ _ h => h)
    (ha : a.put (some t) undef = a' := by simp only [Act.put, List.setIfInBounds_toArray, List.set_cons_zero, List.set_cons_succ, i64_w, i32_w]; rfl) :
    wpAnyLast P md ops Q S ds (fuel + 1) l a w := pure_ (bs n k) hi hN hc hQ (Or.inr ⟨hw, rfl⟩) ha h
theorem ta1 (i t n k : Nat) (hi : ops[i]? = some oi) (hN : oi.dst = some t) (hS : S w) (h : wpAnyLast P md ops Q S ds fuel (bs n k) a' w)
    (hw : Region.wanted oi (yielded ops a.tmps) = true := by rfl) (hr : ∀ w', S w' → (execOp a.eval oi).run P w' = .ok (.value v) w' := by rintro w' ⟨s0⟩; go_simp; with_reducible rfl)
    (hc : takeB md ops ds l (bs n k) i = true := by first | exact take_ofW HT_.out HW_.out (by kernel_rfl) | kernel_rfl)
    (hQ : ∀ c a w, Q (.panic c) (a.put oi.dst v) w → Q (.panic c) a w := by exact fun _ _ _ h => h)
    (ha : a.put (some t) v = a' := by simp only [Act.put, List.setIfInBounds_toArray, List.set_cons_zero, List.set_cons_succ, i64_w, i32_w]; rfl) :
    wpAnyLast P md ops Q S ds (fuel + 1) l a w := take_ (bs n k) hi hN hc hQ (Or.inl ⟨hw, hr⟩) hS ha h
theorem ta2 (i t n k : Nat) (hi : ops[i]? = some oi) (hN : oi.dst = some t) (hS : S w) (h : wpAnyLast P md ops Q S ds fuel (bs n k) a' w)
    (hw : Region.wanted oi (yielded ops a.tmps) = true := by rfl) (hr : ∀ w', S w' → (execOp a.eval oi).run P w' = .ok (.value v) w' := by rintro w' ⟨s0, s1⟩; go_simp; with_reducible rfl)
    (hc : takeB md ops ds l (bs n k) i = true := by first | exact take_ofW HT_.out HW_.out (by kernel_rfl) | kernel_rfl)
    (hQ : ∀ c a w, Q (.panic c) (a.put oi.dst v) w → Q (.panic c) a w := by exact fun _ _ _ h => h)
    (ha : a.put (some t) v = a' := by simp only [Act.put, List.setIfInBounds_toArray, List.set_cons_zero, List.set_cons_succ, i64_w, i32_w]; rfl) :
    wpAnyLast P md ops Q S ds (fuel + 1) l a w := take_ (bs n k) hi hN hc hQ (Or.inl ⟨hw, hr⟩) hS ha h
theorem ta3 (i t n k : Nat) (hi : ops[i]? = some oi) (hN : oi.dst = some t) (hS : S w) (h : wpAnyLast P md ops Q S ds fuel (bs n k) a' w)
    (hw : Region.wanted oi (yielded ops a.tmps) = true := by rfl) (hr : ∀ w', S w' → (execOp a.eval oi).run P w' = .ok (.value v) w' := by rintro w' ⟨s0, s1, s2⟩; go_simp; with_reducible rfl)
    (hc : takeB md ops ds l (bs n k) i = true := by first | exact take_ofW HT_.out HW_.out (by kernel_rfl) | kernel_rfl)
    (hQ : ∀ c a w, Q (.panic c) (a.put oi.dst v) w → Q (.panic c) a w := by exact fun _ _ _ h => h)
    (ha : a.put (some t) v = a' := by simp only [Act.put, List.setIfInBounds_toArray, List.set_cons_zero, List.set_cons_succ, i64_w, i32_w]; rfl) :
    wpAnyLast P md ops Q S ds (fuel + 1) l a w := take_ (bs n k) hi hN hc hQ (Or.inl ⟨hw, hr⟩) hS ha h
theorem ta4 (i t n k : Nat) (hi : ops[i]? = some oi) (hN : oi.dst = some t) (hS : S w) (h : wpAnyLast P md ops Q S ds fuel (bs n k) a' w)
    (hw : Region.wanted oi (yielded ops a.tmps) = true := by rfl) (hr : ∀ w', S w' → (execOp a.eval oi).run P w' = .ok (.value v) w' := by rintro w' ⟨s0, s1, s2, s3⟩; go_simp; with_reducible rfl)
    (hc : takeB md ops ds l (bs n k) i = true := by first | exact take_ofW HT_.out HW_.out (by kernel_rfl) | kernel_rfl)
    (hQ : ∀ c a w, Q (.panic c) (a.put oi.dst v) w → Q (.panic c) a w := by exact fun _ _ _ h => h)
    (ha : a.put (some t) v = a' := by simp only [Act.put, List.setIfInBounds_toArray, List.set_cons_zero, List.set_cons_succ, i64_w, i32_w]; rfl) :
    wpAnyLast P md ops Q S ds (fuel + 1) l a w := take_ (bs n k) hi hN hc hQ (Or.inl ⟨hw, hr⟩) hS ha h
theorem ta5 (i t n k : Nat) (hi : ops[i]? = some oi) (hN : oi.dst = some t) (hS : S w) (h : wpAnyLast P md ops Q S ds fuel (bs n k) a' w)
    (hw : Region.wanted oi (yielded ops a.tmps) = true := by rfl) (hr : ∀ w', S w' → (execOp a.eval oi).run P w' = .ok (.value v) w' := by rintro w' ⟨s0, s1, s2, s3, s4⟩; go_simp; with_reducible rfl)
    (hc : takeB md ops ds l (bs n k) i = true := by first | exact take_ofW HT_.out HW_.out (by kernel_rfl) | kernel_rfl)
    (hQ : ∀ c a w, Q (.panic c) (a.put oi.dst v) w → Q (.panic c) a w := by exact fun _ _ _ h => h)
    (ha : a.put (some t) v = a' := by simp only [Act.put, List.setIfInBounds_toArray, List.set_cons_zero, List.set_cons_succ, i64_w, i32_w]; rfl) :
    wpAnyLast P md ops Q S ds (fuel + 1) l a w := take_ (bs n k) hi hN hc hQ (Or.inl ⟨hw, hr⟩) hS ha h
theorem ta6 (i t n k : Nat) (hi : ops[i]? = some oi) (hN : oi.dst = some t) (hS : S w) (h : wpAnyLast P md ops Q S ds fuel (bs n k) a' w)
    (hw : Region.wanted oi (yielded ops a.tmps) = true := by rfl) (hr : ∀ w', S w' → (execOp a.eval oi).run P w' = .ok (.value v) w' := by rintro w' ⟨s0, s1, s2, s3, s4, s5⟩; go_simp; with_reducible rfl)
    (hc : takeB md ops ds l (bs n k) i = true := by first | exact take_ofW HT_.out HW_.out (by kernel_rfl) | kernel_rfl)
    (hQ : ∀ c a w, Q (.panic c) (a.put oi.dst v) w → Q (.panic c) a w := by exact fun _ _ _ h => h)
    (ha : a.put (some t) v = a' := by simp only [Act.put, List.setIfInBounds_toArray, List.set_cons_zero, List.set_cons_succ, i64_w, i32_w]; rfl) :
    wpAnyLast P md ops Q S ds (fuel + 1) l a w := take_ (bs n k) hi hN hc hQ (Or.inl ⟨hw, hr⟩) hS ha h
theorem ta7 (i t n k : Nat) (hi : ops[i]? = some oi) (hN : oi.dst = some t) (hS : S w) (h : wpAnyLast P md ops Q S ds fuel (bs n k) a' w)
    (hw : Region.wanted oi (yielded ops a.tmps) = true := by rfl) (hr : ∀ w', S w' → (execOp a.eval oi).run P w' = .ok (.value v) w' := by rintro w' ⟨s0, s1, s2, s3, s4, s5, s6⟩; go_simp; with_reducible rfl)
    (hc : takeB md ops ds l (bs n k) i = true := by first | exact take_ofW HT_.out HW_.out (by kernel_rfl) | kernel_rfl)
    (hQ : ∀ c a w, Q (.panic c) (a.put oi.dst v) w → Q (.panic c) a w := by exact fun _ _ _ h => h)
    (ha : a.put (some t) v = a' := by simp only [Act.put, List.setIfInBounds_toArray, List.set_cons_zero, List.set_cons_succ, i64_w, i32_w]; rfl) :
    wpAnyLast P md ops Q S ds (fuel + 1) l a w := take_ (bs n k) hi hN hc hQ (Or.inl ⟨hw, hr⟩) hS ha h
theorem ta8 (i t n k : Nat) (hi : ops[i]? = some oi) (hN : oi.dst = some t) (hS : S w) (h : wpAnyLast P md ops Q S ds fuel (bs n k) a' w)
    (hw : Region.wanted oi (yielded ops a.tmps) = true := by rfl) (hr : ∀ w', S w' → (execOp a.eval oi).run P w' = .ok (.value v) w' := by rintro w' ⟨s0, s1, s2, s3, s4, s5, s6, s7⟩; go_simp; with_reducible rfl)
    (hc : takeB md ops ds l (bs n k) i = true := by first | exact take_ofW HT_.out HW_.out (by kernel_rfl) | kernel_rfl)
    (hQ : ∀ c a w, Q (.panic c) (a.put oi.dst v) w → Q (.panic c) a w := by exact fun _ _ _ h => h)
    (ha : a.put (some t) v = a' := by simp only [Act.put, List.setIfInBounds_toArray, List.set_cons_zero, List.set_cons_succ, i64_w, i32_w]; rfl) :
    wpAnyLast P md ops Q S ds (fuel + 1) l a w := take_ (bs n k) hi hN hc hQ (Or.inl ⟨hw, hr⟩) hS ha h
theorem ta9 (i t n k : Nat) (hi : ops[i]? = some oi) (hN : oi.dst = some t) (hS : S w) (h : wpAnyLast P md ops Q S ds fuel (bs n k) a' w)
    (hw : Region.wanted oi (yielded ops a.tmps) = true := by rfl) (hr : ∀ w', S w' → (execOp a.eval oi).run P w' = .ok (.value v) w' := by rintro w' ⟨s0, s1, s2, s3, s4, s5, s6, s7, s8⟩; go_simp; with_reducible rfl)
    (hc : takeB md ops ds l (bs n k) i = true := by first | exact take_ofW HT_.out HW_.out (by kernel_rfl) | kernel_rfl)
    (hQ : ∀ c a w, Q (.panic c) (a.put oi.dst v) w → Q (.panic c) a w := by exact fun _ _ _ h => h)
    (ha : a.put (some t) v = a' := by simp only [Act.put, List.setIfInBounds_toArray, List.set_cons_zero, List.set_cons_succ, i64_w, i32_w]; rfl) :
    wpAnyLast P md ops Q S ds (fuel + 1) l a w := take_ (bs n k) hi hN hc hQ (Or.inl ⟨hw, hr⟩) hS ha h
end
theorem am {p : Prop} (h : p) : Aside0 p := ⟨h⟩
/-! What is known of one world, said of a later one. -/
theorem zk {W W' : World} {g : Nat} {o : Obj} (h : Aside0 (W.heap[g]? = some o))
    (f : W.heap[g]? = some o → W'.heap[g]? = some o := by intro h_; repeat (first | (with_reducible first | exact h_ | refine blk_drewN ?_ _ | refine blk_drew ?_ | refine blk_alloc ?_ _ | refine blk_far ?_ (Aside0.out (by assumption)) _) | exact h_)) :
    W'.heap[g]? = some o := f h.out
theorem zp {W W' : World} {g : Nat} {o o' : Obj} (h : Aside0 (W.heap[g]? = some o))
    (f : W.heap[g]? = some o → W'.heap[g]? = some o' := by intro h_; repeat (first | (with_reducible first | exact h_ | refine blk_drewN ?_ _ | refine blk_drew ?_ | refine blk_alloc ?_ _ | apply blk_put | apply blk_far | rfl | exact Aside0.out (by assumption)) | rfl | exact h_)) :
    W'.heap[g]? = some o' := f h.out
theorem zb {n : Nat} {w W W' : World} (h : Aside0 (Below n w W))
    (f : Below n w W → Below n w W' := by intro h_; repeat (first | (with_reducible first | exact h_ | apply below_alloc | apply pw_below_drewN | apply below_drew1 | refine below_set ?_ (Aside0.out (by assumption)) | refine below_set ?_ (IsS57.ge (Aside0.out (by assumption)))) | exact h_)) :
    Below n w W' := f h.out
theorem zh {w W W' : World} {g : Nat} {r : Option Nat} (h : Aside0 (KeepBut w W g r))
    (f : KeepBut w W g r → KeepBut w W' g r := by intro h_; repeat (first | (with_reducible first | exact h_ | apply KeepBut.set_ | apply keep_drewN | apply keep_drew | apply keep_alloc | refine keep_far ?_ (Aside0.out (by assumption)) _) | exact h_)) :
    KeepBut w W' g r := f h.out
theorem zq {w W W' : World} {S : Nat → Prop} (h : Aside0 (Kept w W S))
    (f : Kept w W S → Kept w W' S := by intro h_; repeat (first | (with_reducible first | exact h_ | apply Kept.alloc | apply Kept.drewN | apply Kept.drew | refine Kept.setCell ?_ (.inr (Aside0.out (by assumption))) _ | refine Kept.setCell ?_ (Aside0.out (by assumption)) _) | exact h_)) :
    Kept w W' S := f h.out
theorem zr {α : Type} {d : Kd α} {e : Nat} {W W' : World} {base : Nat} {ok ok' : Nat → Prop} {v : Value} {xs : List α} (h : Aside0 (d.R e W base ok v xs))
    (f : d.R e W base ok v xs → d.R e W' base ok' v xs := by intro h_; (with_reducible repeat (first | apply Kd.R_alloc | apply Kd.R_drewN | apply Kd.R_drew)); exact h_) : d.R e W' base ok' v xs := f h.out
theorem zs {α : Type} {d : Kd α} {e : Nat} {W W' : World} {base : Nat} {ok ok' : Nat → Prop} {v : Value} {xs : List α} (h : Aside0 (d.S e W base ok v xs))
    (f : d.S e W base ok v xs → d.S e W' base ok' v xs := by intro h_; (with_reducible repeat (first | apply Kd.S_alloc | apply Kd.S_drewN | apply Kd.S_drew)); exact h_) : d.S e W' base ok' v xs := f h.out
theorem rf {α : Type} {d : Kd α} {e : Nat} {W W' : World} {base g t : Nat} {cells : Array Value} {ok ok' : Nat → Prop} {v : Value} {xs : List α} (h : Aside0 (d.R e W base ok v xs)) (b : Aside0 (W.heap[g]? = some (.cells cells t (0, 0))))
    (ht : ∀ q, q ∈ e :: d.E → q ≠ t := by decide)
    (f : d.R e W base (fun k => ok k ∧ k ≠ g) v xs → d.R e W' base (fun k => ok k ∧ k ≠ g) v xs := by intro h_; repeat (first | (with_reducible first | exact h_ | apply Kd.R_alloc | apply Kd.R_drewN | apply Kd.R_drew) | refine Kd.R_far ?_ (fun _ hk => hk.2) _))
    (m : ∀ k, ok k ∧ k ≠ g → ok' k := by exact fun _ hk => hk.1) : d.R e W' base ok' v xs := Kd.R_mono (f (Kd.R_types h.out b.out ht)) m
theorem sf {α : Type} {d : Kd α} {e : Nat} {W W' : World} {base g t : Nat} {cells : Array Value} {ok ok' : Nat → Prop} {v : Value} {xs : List α} (h : Aside0 (d.S e W base ok v xs)) (b : Aside0 (W.heap[g]? = some (.cells cells t (0, 0))))
    (ht : ∀ q, q ∈ e :: d.E → q ≠ t := by decide)
    (f : d.S e W base (fun k => ok k ∧ k ≠ g) v xs → d.S e W' base (fun k => ok k ∧ k ≠ g) v xs := by intro h_; repeat (first | (with_reducible first | exact h_ | apply Kd.S_alloc | apply Kd.S_drewN | apply Kd.S_drew) | refine Kd.S_far ?_ (fun _ hk => hk.2) _))
    (m : ∀ k, ok k ∧ k ≠ g → ok' k := by exact fun _ hk => hk.1) : d.S e W' base ok' v xs := Kd.S_mono (f (Kd.S_types h.out b.out ht)) m
/-! The row of a block. -/
section
variable {W : World} {g t : Nat} {v0 v1 v2 v3 v4 : Value} {vs : List Value}
theorem ce0 (h : Aside0 (W.heap[g]? = some (.cells ⟨v0 :: vs⟩ t (0, 0)))) : W.cell? ⟨g, 0, none⟩ = some v0 := (blk_cell h.out 0).trans rfl
theorem ce1 (h : Aside0 (W.heap[g]? = some (.cells ⟨v0 :: v1 :: vs⟩ t (0, 0)))) : W.cell? ⟨g, 1, none⟩ = some v1 := (blk_cell h.out 1).trans rfl
theorem ce2 (h : Aside0 (W.heap[g]? = some (.cells ⟨v0 :: v1 :: v2 :: vs⟩ t (0, 0)))) : W.cell? ⟨g, 2, none⟩ = some v2 := (blk_cell h.out 2).trans rfl
theorem ce3 (h : Aside0 (W.heap[g]? = some (.cells ⟨v0 :: v1 :: v2 :: v3 :: vs⟩ t (0, 0)))) : W.cell? ⟨g, 3, none⟩ = some v3 := (blk_cell h.out 3).trans rfl
theorem ce4 (h : Aside0 (W.heap[g]? = some (.cells ⟨v0 :: v1 :: v2 :: v3 :: v4 :: vs⟩ t (0, 0)))) : W.cell? ⟨g, 4, none⟩ = some v4 := (blk_cell h.out 4).trans rfl
end
/-! An answer compared. -/
theorem ze {p : Prop} (h : p := by first | rfl | (simp; done) | (simp [*]; done) | (simp; first | exact Go.Proofs.YtagfiehoodepbaaDoorB.bne1 _ _ | exact Go.Proofs.YtagfiehoodepbaaDoorB.bne2 _ _ | exact Go.Proofs.YtagfiehoodepbaaDoorB.bne3 _ _ | exact Go.Proofs.YtagfiehoodepbaaDoorB.bne4 _ _ | exact Go.Proofs.YtagfiehoodepbaaDoorB.emp1 _ | exact Go.Proofs.YtagfiehoodepbaaDoorB.emp2 _ | exact Go.Proofs.YtagfiehoodepbaaDoorB.emp3 _)) : p := h
theorem zl {p : Prop} (h : p := by first | (with_reducible assumption) | assumption) : p := h
/-! Calls. -/
section
variable {P : Program} {ops : Array Oper} {Q : Exit → Act → World → Prop} {rest : List Oper} {oi : Oper} {a : Act} {w : World} {K : Act → World → Prop} {f : FuncId} {as : Array Operand} {ts : Array TypeId}
theorem gl {fn : Func} (hf : P.funcs[f]? = some fn) (t : Nat) (args : Array Value) (hd : oi.dst = some t) (hg : oi.guard = none) (hop : oi.op = .call { callee := .value (.func f), args := as, argTypes := ts })
    (h : Calls P f args w fun e w' => ∃ v, e = .returned v ∧ wpList P ops Q rest (a.put (some t) v) w')
    (hname : (fn.name == "runtime.NumGoroutine") = false := by kernel_rfl) (hb : fn.body.isSome = true := by rfl)
    (hargs : as.map a.eval = args := by (try simp only [List.map_toArray, List.map_cons, List.map_nil]); first | done | rfl | (simp only [List.length_drop, List.length_take]; rfl)) : wpList P ops Q (oi :: rest) a w :=
  goesL_ (some t) hd hg hf hname hb args hop hargs h
theorem gs {fn : Func} (hf : P.funcs[f]? = some fn) {N : Option Tmp} (args : Array Value) (hN : oi.dst = N) (hop : oi.op = .call { callee := .value (.func f), args := as, argTypes := ts })
    (h : Calls P f args w fun e w' => ∃ v, e = .returned v ∧ K (a.put N v) w')
    (hname : (fn.name == "runtime.NumGoroutine") = false := by kernel_rfl) (hb : fn.body.isSome = true := by rfl) (hw : Region.wanted oi (yielded ops a.tmps) = true := by rfl)
    (hargs : as.map a.eval = args := by (try simp only [List.map_toArray, List.map_cons, List.map_nil]); first | done | rfl | (simp only [List.length_drop, List.length_take]; rfl)) : if Region.wanted oi (yielded ops a.tmps) = true then Oper.wp P oi a w K Q else K (a.put N undef) w :=
  goes_ hf hname hb args hw hN hop hargs h
theorem bx (t : Nat) (cs : Array Value)
    (h : ∀ g, g = w.heap.size → ∀ w1, w1.heap[g]? = some (.cells cs t (0, 0)) → Below w.heap.size w w1 → wpList P ops Q rest (a.put oi.dst (.pointer (some ⟨g, 0, none⟩))) w1)
    (hg : oi.guard = none := by rfl) {N : Nat} (hd : oi.dst = some N := by rfl) (hr : (execOp a.eval oi).run P w = .ok (.value (.pointer (some ⟨w.heap.size, 0, none⟩))) (w.alloc (.cells cs t (0, 0))) := by first | (go_simp; done) | (go_simp; rfl)) :
    wpList P ops Q (oi :: rest) a w := box_event hg hd hr h
end
theorem zn {w W : World} {g : Nat} (hg : g = W.heap.size) (h : Below w.heap.size w W) : w.heap.size ≤ g := hg ▸ below_size h
theorem zm {w W : World} {g g' : Nat} {r : Option Nat} (hg : g = W.heap.size) (h : KeepBut w W g' r) : w.heap.size ≤ g := hg ▸ keep_size h
theorem zx {W : World} {g g' : Nat} {o : Obj} (hg : g' = W.heap.size) (h : W.heap[g]? = some o) : g ≠ g' := hg ▸ Nat.ne_of_lt (blk_lt h)
theorem zy {W : World} {g g' : Nat} {o : Obj} (hg : g' = W.heap.size) (h : W.heap[g]? = some o) : g' ≠ g := (zx hg h).symm
theorem zc {α : Type} {d : Kd α} {W W' : World} {A : Option Addr} {n : Nat} {xs : List α} (h : d.C W A n xs)
    (f : d.C W A n xs → d.C W' A n xs := by intro h_; repeat (first | (with_reducible exact h_) | (with_reducible refine Kd.C_alloc ?_ _) | (with_reducible refine Kd.C_drewN ?_ _) | (with_reducible refine Kd.C_drew ?_) | exact h_)) : d.C W' A n xs := f h
theorem zv {p : Prop} (h : p := by first | rfl | (simp [errW_none, errW_some] <;> rfl) | (simp [errW_none, errW_some]; first | exact Go.Proofs.YtagfiehoodepbaaDoorB.emp1 _ | exact Go.Proofs.YtagfiehoodepbaaDoorB.emp2 _ | exact Go.Proofs.YtagfiehoodepbaaDoorB.emp3 _) | (simp [*, errW_none, errW_some] <;> rfl)) : p := h
theorem zw {p : Prop} (h : p := by first | rfl | (simp [errW_none, errW_some] <;> rfl) | (simp [*, errW_none, errW_some] <;> rfl)) : p := h
theorem hcx {w W : World} {a : Addr} {v : Value} {p : Prop} (hB : Aside0 (Below w.heap.size w W)) (h : w.cell? a = some v) (f : W.cell? a = some v → p := by exact fun h => h) : p := f ((hB.out.cell (World.block_lt_of_cell? w _ h)).trans h)
theorem bfz {W : World} {g t : Nat} {cs : Array Value} (h : Aside0 (W.heap[g]? = some (.cells cs t (0, 0)))) (i : Nat) : W.frozen? ⟨g, i, none⟩ = false := blk_frozen h.out i
theorem obs {α β : Type} {a : Option α} {f : α → Option β} {b : β} (h : a.bind f = some b) : ∃ x, a = some x ∧ f x = some b := Option.bind_eq_some_iff.mp h
theorem hY {α : Type} {y e : α} {p q : Prop} (hy : y = e) (H : p) (f : y = e → p → q := by intro hy H; first | (rw [hy]; with_reducible exact H) | (have H2_ := (Option.bind_some _ _).symm.trans H; rw [hy]; with_reducible exact H2_) | (have H2_ := (Option.bind_some _ _).symm.trans H; with_reducible exact H2_) | with_reducible exact H | (rw [hy]; exact H) | exact H) : q := f hy H
section
variable {P : Program} {md : Region.Mode} {ops : Array Oper} {Q : Exit → Act → World → Prop} {S : World → Prop} {ds : List Nat} {N : Option Tmp} {oi : Oper} {fuel : Nat} {l : Array Bool} {a : Act} {w : World}
theorem oz (i n k : Nat) (hi : ops[i]? = some oi) (hN : oi.dst = N)
    (h : ∀ K : Act → World → Prop, Shut (∀ a' w', S w' → (S w' → wpAnyLast P md ops Q S ds fuel (bs n k) a' w') → K a' w') → if Region.wanted oi (yielded ops a.tmps) = true then Oper.wp P oi a w K Q else K (a.put N undef) w)
    (hc : readyB md ops l (bs n k) i = true := by first | exact one_of HT_.out (by kernel_rfl) | kernel_rfl) (hd : i ∉ ds := by decide) : wpAnyLast P md ops Q S ds (fuel + 1) l a w := one_ (bs n k) hi hN hc hd h
theorem la (i n k : Nat) (hi : ops[i]? = some oi) (hN : oi.dst = N)
    (h : ∀ K : Act → World → Prop, Shut (∀ a' w', wpAnyLast P md ops Q S ds fuel (bs n k) a' w' → K a' w') → if Region.wanted oi (yielded ops a.tmps) = true then Oper.wp P oi a w K Q else K (a.put N undef) w)
    (hc : readyB md ops l (bs n k) i = true := by first | exact one_of HT_.out (by kernel_rfl) | kernel_rfl) (hd : i ∈ ds := by decide) : wpAnyLast P md ops Q S ds (fuel + 1) l a w := last_ (bs n k) hi hN hc hd h
end
/-! More rounds, the same answer. -/
theorem mo0 {q : Prop} (h : q := by repeat' first | (with_reducible exact LeO.refl _) | (with_reducible exact LeO.none _) | (with_reducible refine LeO.ite ?_ ?_) | (with_reducible refine LeO.bind ?_ (fun _ => ?_)) | exact LeO.none _ | refine LeO.ite ?_ ?_ | refine LeO.bind ?_ (fun _ => ?_)) : q := h
theorem mo1 {p0 q : Prop} (m0 : p0) (h : p0 → q := by intro m0; repeat' first | (with_reducible apply m0) | (with_reducible exact LeO.refl _) | (with_reducible exact LeO.none _) | (with_reducible refine LeO.ite ?_ ?_) | (with_reducible refine LeO.bind ?_ (fun _ => ?_)) | apply m0 | exact LeO.none _ | refine LeO.ite ?_ ?_ | refine LeO.bind ?_ (fun _ => ?_)) : q := h m0
theorem mo2 {p0 p1 q : Prop} (m0 : p0) (m1 : p1) (h : p0 → p1 → q := by intro m0 m1; repeat' first | (with_reducible apply m0) | (with_reducible apply m1) | (with_reducible exact LeO.refl _) | (with_reducible exact LeO.none _) | (with_reducible refine LeO.ite ?_ ?_) | (with_reducible refine LeO.bind ?_ (fun _ => ?_)) | apply m0 | apply m1 | exact LeO.none _ | refine LeO.ite ?_ ?_ | refine LeO.bind ?_ (fun _ => ?_)) : q := h m0 m1
theorem mo3 {p0 p1 p2 q : Prop} (m0 : p0) (m1 : p1) (m2 : p2) (h : p0 → p1 → p2 → q := by intro m0 m1 m2; repeat' first | (with_reducible apply m0) | (with_reducible apply m1) | (with_reducible apply m2) | (with_reducible exact LeO.refl _) | (with_reducible exact LeO.none _) | (with_reducible refine LeO.ite ?_ ?_) | (with_reducible refine LeO.bind ?_ (fun _ => ?_)) | apply m0 | apply m1 | apply m2 | exact LeO.none _ | refine LeO.ite ?_ ?_ | refine LeO.bind ?_ (fun _ => ?_)) : q := h m0 m1 m2
theorem mo4 {p0 p1 p2 p3 q : Prop} (m0 : p0) (m1 : p1) (m2 : p2) (m3 : p3) (h : p0 → p1 → p2 → p3 → q := by intro m0 m1 m2 m3; repeat' first | (with_reducible apply m0) | (with_reducible apply m1) | (with_reducible apply m2) | (with_reducible apply m3) | (with_reducible exact LeO.refl _) | (with_reducible exact LeO.none _) | (with_reducible refine LeO.ite ?_ ?_) | (with_reducible refine LeO.bind ?_ (fun _ => ?_)) | apply m0 | apply m1 | apply m2 | apply m3 | exact LeO.none _ | refine LeO.ite ?_ ?_ | refine LeO.bind ?_ (fun _ => ?_)) : q := h m0 m1 m2 m3
theorem mo5 {p0 p1 p2 p3 p4 q : Prop} (m0 : p0) (m1 : p1) (m2 : p2) (m3 : p3) (m4 : p4) (h : p0 → p1 → p2 → p3 → p4 → q := by intro m0 m1 m2 m3 m4; repeat' first | (with_reducible apply m0) | (with_reducible apply m1) | (with_reducible apply m2) | (with_reducible apply m3) | (with_reducible apply m4) | (with_reducible exact LeO.refl _) | (with_reducible exact LeO.none _) | (with_reducible refine LeO.ite ?_ ?_) | (with_reducible refine LeO.bind ?_ (fun _ => ?_)) | apply m0 | apply m1 | apply m2 | apply m3 | apply m4 | exact LeO.none _ | refine LeO.ite ?_ ?_ | refine LeO.bind ?_ (fun _ => ?_)) : q := h m0 m1 m2 m3 m4
end Go.Proofs.YtagfiehoodepbaaDoor
