/- The walk: each function that the law comes to as a plain Lean function, and a proof that the Go code answers so. Written by this session's program over the kit's printer. -/
import Derived.Test.YtjdkccpcgmgmmaaQFnExactStorePut0
import Derived.Test.YtjdkccpcgmgmmaaQFnExactStorePut4
namespace Go.Proofs.Ytjdkccpcgmgmmaa.PFnExactStorePut
open Go.RowKit Go.Proofs.YtjdkccpcgmgmmaaW.PrintWords Go.Proofs.YtjdkccpcgmgmmaaW.PrintLast Go.Proofs.YtjdkccpcgmgmmaaW.PrintMore
attribute [local go_sem] max2_int min2_int max_two min_two max_three min_three max_four min_four   -- for this text's walks alone
set_option linter.unusedVariables false
set_option linter.unusedSimpArgs false

/-! ### impl_StoreOk: function 22 -/
/-- 'o.Text == x.Text', x in the block B of the caller's. -/
theorem ok_pred (t : ByteArray) (u : Int) (B : Nat) (w : World) (hB : B < w.heap.size) (hcell : w.cell? ⟨B, 0, none⟩ = some (.string t)) :
    PredBelow Try.prog 56 #[.pointer (some ⟨B, 0, none⟩)] (fun x => .agg (encSlot x).toArray) (fun x => x.f0.toList == t.toList) w := fun W x hb => by
  have hc : W.cell? ⟨B, 0, none⟩ = some (.string t) := (hb.cell (p := ⟨B, 0, none⟩) hB).trans hcell
  have hBW : B < W.heap.size := Nat.lt_of_lt_of_le hB hb.size
  have hne : B ≠ W.heap.size := by omega
  show Calls Try.prog 56 #[.agg #[.string x.f0, .int .i64 x.f1], .pointer (some ⟨B, 0, none⟩)] W _
  go_enter Try.func56, Try.ntmps56
  go_wp2
  all_goals (go_ret; exact ⟨by first | rfl | simp_all, hb.alloc hb.size _⟩)
def impl_StoreOk.l0 : Nat → List (S36) → Int → Option (Bool)
  | 0, _, _ => none
  | k + 1, x0, x7 => if x7 < (x0.length : Int) then (if 0 ≤ x7 then ((impl_TextOk.f k ((rd_T36 x0 x7).f0)).bind fun t1 => (if t1 = true then ((impl_within.f ((rd_T36 x0 x7).f1) 0 99).bind fun t2 => (if t2 = true then (if ((((rd_T36 x0 x7).f0).toList == ([] : List UInt8)) != (((rd_T36 x0 x7).f1) == 0)) = true then (some false) else (if (((rd_T36 x0 x7).f0).toList == ([] : List UInt8)) = true then (impl_StoreOk.l0 k x0 (wrap64 (x7 + 1))) else (if (x0.take x7.toNat).any (fun o => o.f0.toList == ((rd_T36 x0 x7).f0).toList) = true then (some false) else (impl_StoreOk.l0 k x0 (wrap64 (x7 + 1)))))) else (some false))) else (some false))) else (none)) else (some ((x0.length : Int) == 8))
def impl_StoreOk.f (k : Nat) (l0 : List (S36)) : Option (Bool) := impl_StoreOk.l0 k l0 0
theorem impl_StoreOk.mono_l : ∀ k, (∀ y0 y1, LeO (impl_StoreOk.l0 k y0 y1) (impl_StoreOk.l0 (k + 1) y0 y1))
  | 0 => fun _ _ r h => by simp [impl_StoreOk.l0] at h
  | k + 1 => by
    have ih0 := impl_StoreOk.mono_l k
    · intro y0 y1
      unfold impl_StoreOk.l0
      repeat' first
      | (with_reducible exact ih0 _ _)
      | (with_reducible exact impl_TextOk.mono _ _)
      | (with_reducible exact LeO.refl _)
      | (with_reducible exact LeO.none _)
      | (with_reducible refine LeO.ite ?_ ?_)
      | (with_reducible refine LeO.bind ?_ (fun _ => ?_))
      | exact ih0 _ _
      | exact LeO.none _
      | refine LeO.ite ?_ ?_
      | refine LeO.bind ?_ (fun _ => ?_)
theorem impl_StoreOk.mono : ∀ a0 k, LeO (impl_StoreOk.f k a0) (impl_StoreOk.f (k + 1) a0) := by
  intro a0 k
  have ih0 := impl_StoreOk.mono_l k
  unfold impl_StoreOk.f
  exact ih0 _ _
set_option maxHeartbeats 8000000 in
set_option maxRecDepth 100000 in
theorem impl_StoreOk.calls (k : Nat) (A0 : Option Addr) (c0 : Nat) (l0 : List (S36)) (r : Bool) (w : World) (hr0 : Kd.C k36 w A0 l0.length l0) (hc0 : l0.length ≤ c0) (h : impl_StoreOk.f k l0 = some r) :
    Calls Try.prog 22 #[.slice A0 l0.length c0] w fun e w' => e = .returned (.bool r) ∧ Below w.heap.size w w' := by
  have HR0 := Aside0.mk hr0
  have HC0 := Aside0.mk hc0
  clear hr0 hc0
  have HB := Aside0.mk (Below.refl w.heap.size w)
  have H : (impl_StoreOk.l0 k l0 0) = some r := h
  clear h
  have H' := Aside0.mk H
  clear H
  have EG := Aside0.mk (show ∀ args w, (callFunc 56 args).run Try.prog w = .ok (.enter 56 args) w from enters_of Try.func56 (by kernel_rfl) rfl)
  obtain ⟨i0, hi0, _, hsz, _⟩ := info_parts (show (Try.prog.info? 36).map (fun i => (i.zero, i.size, i.bytes)) = some (some (.agg #[(.string ⟨#[]⟩), (.int .i64 0)]), 2, 24) from by kernel_rfl)
  have HCUT := Aside0.mk (fun (x : Int) (h0 : 0 ≤ x) (h1 : x ≤ (l0.length : Int)) => cut_to (P := Try.prog) 25 36 .i64 Try.underlying25 hi0 A0 l0.length c0 x h0 h1 HC0.out)
  clear hi0 hsz
  go_enter Try.func22, Try.ntmps22
  go_wp2
  go_loopg [7] k (fun kq v7 w' => ∃ (x7_1 : Int), v7 = .int .i64 x7_1 ∧ Aside0 (impl_StoreOk.l0 kq l0 x7_1 = some r) ∧ Aside0 (kq ≤ k) ∧ Aside0 (Below w.heap.size w w'))
  case atStart => exact ⟨(0), rfl, H', ⟨Nat.le_refl _⟩, HB⟩
  case round =>
    clear H'
    obtain ⟨x7_1, rfl, HA, HK1, HB⟩ := hrel
    cases gk with
    | zero => exact absurd HA.out (by simp [impl_StoreOk.l0])
    | succ k1 =>
      have H := HA.out
      clear HA
      simp only [impl_StoreOk.l0] at H
      by_cases c3 : x7_1 < (l0.length : Int)
      · rw [if_pos c3] at H
        by_cases c4 : 0 ≤ x7_1
        · rw [if_pos c4] at H
          obtain ⟨ad, e, hx0, hx1⟩ := at_T36 HR0.out x7_1 c4 c3
          cases e
          have hcut := HCUT.out x7_1 c4 (Int.le_of_lt c3)
          replace hx0 := (HB.out.cell (World.block_lt_of_cell? w _ hx0)).trans hx0
          replace hx1 := (HB.out.cell (World.block_lt_of_cell? w _ hx1)).trans hx1
          have HTK := Aside0.mk (Kd.C_below (Kd.C_take (m := x7_1.toNat) HR0.out (by omega)) HB.out)
          have HTL := Aside0.mk (show (l0.take x7_1.toNat).length = x7_1.toNat from by rw [List.length_take]; omega)
          have c3b0 : decide (x7_1 < (l0.length : Int)) = true := decide_eq_true c3
          have c4b0 : decide (0 ≤ x7_1) = true := decide_eq_true c4
          have HCON : Aside0 (∀ (u : Int) (W : World) (B : Nat), Below w.heap.size w W → B < W.heap.size → W.cell? ⟨B, 0, none⟩ = some (.string (rd_T36 l0 x7_1).f0) → Calls Try.prog 55 #[.slice (some ad) x7_1.toNat c0, .func (.func 56) #[] #[.pointer (some ⟨B, 0, none⟩)]] W fun e w' => e = .returned (.bool ((l0.take x7_1.toNat).any (fun o => o.f0.toList == ((rd_T36 l0 x7_1).f0).toList))) ∧ Below W.heap.size W w') := ⟨fun u W B hbW hBW hcW => by
            have := con_calls (fun o => o.f0.toList == ((rd_T36 l0 x7_1).f0).toList) 56 #[.pointer (some ⟨B, 0, none⟩)] EG.out (some ad) c0 (l0.take x7_1.toNat) W (Kd.C_below (Kd.C_take (m := x7_1.toNat) HR0.out (by omega)) hbW) (ok_pred _ u B W hBW hcW)
            rw [HTL.out] at this
            exact this⟩
          generalize hg0 : (rd_T36 l0 x7_1).f0 = g0 at H hx0 HCON
          generalize hg1 : (rd_T36 l0 x7_1).f1 = g1 at H hx1
          clear hg0 hg1
          replace H := Option.bind_eq_some_iff.mp H
          obtain ⟨t1, A1, H⟩ := H
          have A1' := Aside0.mk A1
          clear A1 c3 c4
          have p4 : 0 ≤ x7_1 := of_decide_eq_true c4b0
          have q4 : x7_1 < (l0.length : Int) := of_decide_eq_true c3b0
          replace p4 := eq_true p4
          replace q4 := eq_true q4
          cases t1 with
          | false =>
            rw [if_neg (by decide)] at H
            obtain rfl := Option.some.inj H
            go_wp2_with (first | (go_at_call 53; (with_reducible refine (impl_TextOk.calls k1 g0 false _ A1'.out).mono ?_); rintro e w' ⟨rfl, ⟨nd, rfl⟩⟩))
            go_ret
            exact ⟨by first | rfl | (simp; done) | (simp [*]; done), by repeat (first | (with_reducible first | exact HB.out | apply below_alloc | apply pw_below_drewN | apply below_drew1) | exact HB.out)⟩
          | true =>
            rw [if_pos rfl] at H
            replace H := Option.bind_eq_some_iff.mp H
            obtain ⟨t2, A2, H⟩ := H
            have A2' := Aside0.mk A2
            clear A2
            cases t2 with
            | false =>
              rw [if_neg (by decide)] at H
              obtain rfl := Option.some.inj H
              go_wp2_with (first | (go_at_call 53; (with_reducible refine (impl_TextOk.calls k1 g0 true _ A1'.out).mono ?_); rintro e w' ⟨rfl, ⟨nd, rfl⟩⟩) | (go_at_call 54; (with_reducible refine (impl_within.calls g1 0 99 false _ A2'.out).mono ?_); rintro e w' ⟨rfl, ⟨nd, rfl⟩⟩))
              go_ret
              exact ⟨by first | rfl | (simp; done) | (simp [*]; done), by repeat (first | (with_reducible first | exact HB.out | apply below_alloc | apply pw_below_drewN | apply below_drew1) | exact HB.out)⟩
            | true =>
              rw [if_pos rfl] at H
              obtain ⟨be, hbe⟩ : ∃ b, (g0.toList == ([] : List UInt8)) = b := ⟨_, rfl⟩
              obtain ⟨bu, hbu⟩ : ∃ b, (g1 == 0) = b := ⟨_, rfl⟩
              have hbn : (g0.toList != ([] : List UInt8)) = !be := by rw [bne, hbe]
              rw [hbe, hbu] at H
              cases be <;> cases bu
              · rw [if_neg (by decide), if_neg (by decide)] at H
                by_cases c8 : (l0.take x7_1.toNat).any (fun o => o.f0.toList == g0.toList) = true
                · rw [if_pos c8] at H
                  rw [c8] at HCON
                  clear c8
                  obtain rfl := Option.some.inj H
                  go_wp2_with (first | (go_at_call 53; (with_reducible refine (impl_TextOk.calls k1 g0 true _ A1'.out).mono ?_); rintro e w' ⟨rfl, ⟨nd, rfl⟩⟩) | (go_at_call 54; (with_reducible refine (impl_within.calls g1 0 99 true _ A2'.out).mono ?_); rintro e w' ⟨rfl, ⟨nd, rfl⟩⟩) | (go_at_call 55; (refine (HCON.out g1 _ wr.heap.size (by repeat (first | (with_reducible first | exact HB.out | apply below_alloc | apply pw_below_drewN) | exact HB.out)) (by simp) (by simp)).mono ?_); rintro e w' ⟨rfl, hb2⟩))
                  go_ret
                  exact ⟨by first | rfl | (simp; done) | (simp [*]; done), (fun h => below_then h h.size hb2) (pw_below_drewN (below_alloc HB.out _) _)⟩
                · rw [if_neg c8] at H
                  replace c8 := Bool.eq_false_iff.mpr c8
                  rw [c8] at HCON
                  clear c8
                  have H' := Aside0.mk H
                  clear H
                  go_wp2_with (first | (go_at_call 53; (with_reducible refine (impl_TextOk.calls k1 g0 true _ A1'.out).mono ?_); rintro e w' ⟨rfl, ⟨nd, rfl⟩⟩) | (go_at_call 54; (with_reducible refine (impl_within.calls g1 0 99 true _ A2'.out).mono ?_); rintro e w' ⟨rfl, ⟨nd, rfl⟩⟩) | (go_at_call 55; (refine (HCON.out g1 _ wr.heap.size (by repeat (first | (with_reducible first | exact HB.out | apply below_alloc | apply pw_below_drewN) | exact HB.out)) (by simp) (by simp)).mono ?_); rintro e w' ⟨rfl, hb2⟩))
                  go_roundg k1
                  case measure => have := HK1.out; omega
                  case rel => exact ⟨(wrap64 (x7_1 + 1)), (by first | rfl | (simp; done) | (simp [*]; done) | (simp; first | exact Go.Proofs.YtjdkccpcgmgmmaaB.bne1 _ _ | exact Go.Proofs.YtjdkccpcgmgmmaaB.bne2 _ _ | exact Go.Proofs.YtjdkccpcgmgmmaaB.bne3 _ _ | exact Go.Proofs.YtjdkccpcgmgmmaaB.bne4 _ _)), H', ⟨by have := HK1.out; omega⟩, ⟨(fun h => below_then h h.size hb2) (pw_below_drewN (below_alloc HB.out _) _)⟩⟩
              · rw [if_pos (by decide)] at H
                obtain rfl := Option.some.inj H
                go_wp2_with (first | (go_at_call 53; (with_reducible refine (impl_TextOk.calls k1 g0 true _ A1'.out).mono ?_); rintro e w' ⟨rfl, ⟨nd, rfl⟩⟩) | (go_at_call 54; (with_reducible refine (impl_within.calls g1 0 99 true _ A2'.out).mono ?_); rintro e w' ⟨rfl, ⟨nd, rfl⟩⟩))
                go_ret
                exact ⟨by first | rfl | (simp; done) | (simp [*]; done), by repeat (first | (with_reducible first | exact HB.out | apply below_alloc | apply pw_below_drewN | apply below_drew1) | exact HB.out)⟩
              · rw [if_pos (by decide)] at H
                obtain rfl := Option.some.inj H
                go_wp2_with (first | (go_at_call 53; (with_reducible refine (impl_TextOk.calls k1 g0 true _ A1'.out).mono ?_); rintro e w' ⟨rfl, ⟨nd, rfl⟩⟩) | (go_at_call 54; (with_reducible refine (impl_within.calls g1 0 99 true _ A2'.out).mono ?_); rintro e w' ⟨rfl, ⟨nd, rfl⟩⟩))
                go_ret
                exact ⟨by first | rfl | (simp; done) | (simp [*]; done), by repeat (first | (with_reducible first | exact HB.out | apply below_alloc | apply pw_below_drewN | apply below_drew1) | exact HB.out)⟩
              · rw [if_neg (by decide), if_pos (by decide)] at H
                have H' := Aside0.mk H
                clear H
                go_wp2_with (first | (go_at_call 53; (with_reducible refine (impl_TextOk.calls k1 g0 true _ A1'.out).mono ?_); rintro e w' ⟨rfl, ⟨nd, rfl⟩⟩) | (go_at_call 54; (with_reducible refine (impl_within.calls g1 0 99 true _ A2'.out).mono ?_); rintro e w' ⟨rfl, ⟨nd, rfl⟩⟩))
                go_roundg k1
                case measure => have := HK1.out; omega
                case rel => exact ⟨(wrap64 (x7_1 + 1)), (by first | rfl | (simp; done) | (simp [*]; done) | (simp; first | exact Go.Proofs.YtjdkccpcgmgmmaaB.bne1 _ _ | exact Go.Proofs.YtjdkccpcgmgmmaaB.bne2 _ _ | exact Go.Proofs.YtjdkccpcgmgmmaaB.bne3 _ _ | exact Go.Proofs.YtjdkccpcgmgmmaaB.bne4 _ _)), H', ⟨by have := HK1.out; omega⟩, ⟨by repeat (first | (with_reducible first | exact HB.out | apply below_alloc | apply pw_below_drewN | apply below_drew1) | exact HB.out)⟩⟩
        · rw [if_neg c4] at H
          exact absurd H (by simp)
      · rw [if_neg c3] at H
        have c3b0 : decide (x7_1 < (l0.length : Int)) = false := decide_eq_false c3
        clear c3
        obtain rfl := Option.some.inj H
        go_wp2
        go_ret
        exact ⟨by first | rfl | (simp; done) | (simp [*]; done), HB.out⟩

/-! ### impl_isAsked: function 59 -/
def impl_isAsked.f (k : Nat) (l0 : List (S36)) (a1 : ByteArray) : Option (Bool) := (impl_StoreOk.f k l0).bind fun t169 => (if t169 = true then ((impl_TextOk.f k a1).bind fun t170 => (if t170 = true then (some (a1.toList != ([] : List UInt8))) else (some false))) else (some false))
theorem impl_isAsked.mono : ∀ a0 a1 k, LeO (impl_isAsked.f k a0 a1) (impl_isAsked.f (k + 1) a0 a1) := by
  intro a0 a1 k
  unfold impl_isAsked.f
  repeat' first
      | (with_reducible exact impl_StoreOk.mono _ _)
      | (with_reducible exact impl_TextOk.mono _ _)
      | (with_reducible exact LeO.refl _)
      | (with_reducible exact LeO.none _)
      | (with_reducible refine LeO.ite ?_ ?_)
      | (with_reducible refine LeO.bind ?_ (fun _ => ?_))
      | exact impl_StoreOk.mono _ _
      | exact impl_TextOk.mono _ _
      | exact LeO.none _
      | refine LeO.ite ?_ ?_
      | refine LeO.bind ?_ (fun _ => ?_)
set_option maxHeartbeats 8000000 in
set_option maxRecDepth 100000 in
theorem impl_isAsked.calls (k : Nat) (A0 : Option Addr) (c0 : Nat) (l0 : List (S36)) (a1 : ByteArray) (r : Bool) (w : World) (hr0 : Kd.C k36 w A0 l0.length l0) (hc0 : l0.length ≤ c0) (h : impl_isAsked.f k l0 a1 = some r) :
    Calls Try.prog 59 #[.slice A0 l0.length c0, .string a1] w fun e w' => e = .returned (.bool r) ∧ Below w.heap.size w w' := by
  have HR0 := Aside0.mk hr0
  have HC0 := Aside0.mk hc0
  clear hr0 hc0
  have HB := Aside0.mk (Below.refl w.heap.size w)
  have H : ((impl_StoreOk.f k l0).bind fun t169 => (if t169 = true then ((impl_TextOk.f k a1).bind fun t170 => (if t170 = true then (some (a1.toList != ([] : List UInt8))) else (some false))) else (some false))) = some r := h
  clear h
  replace H := Option.bind_eq_some_iff.mp H
  obtain ⟨t169, A30, H⟩ := H
  replace H : (if t169 = true then ((impl_TextOk.f k a1).bind fun t170 => (if t170 = true then (some (a1.toList != ([] : List UInt8))) else (some false))) else (some false)) = some r := H
  have A3 := Aside0.mk A30
  clear A30
  by_cases c4 : t169 = true
  · subst c4
    have H1 : ((impl_TextOk.f k a1).bind fun t170 => (if t170 = true then (some (a1.toList != ([] : List UInt8))) else (some false))) = some r := by rw [if_pos rfl] at H; exact H
    clear H
    have H := H1
    clear H1
    replace H := Option.bind_eq_some_iff.mp H
    obtain ⟨t170, A50, H⟩ := H
    replace H : (if t170 = true then (some (a1.toList != ([] : List UInt8))) else (some false)) = some r := H
    have A5 := Aside0.mk A50
    clear A50
    by_cases c6 : t170 = true
    · subst c6
      have H1 : (some (a1.toList != ([] : List UInt8))) = some r := by rw [if_pos rfl] at H; exact H
      clear H
      have H := H1
      clear H1
      obtain rfl := Option.some.inj H
      go_enter Try.func59, Try.ntmps59
      go_wp2_with (first | ((with_reducible refine gate_callee (f := 22) rfl ?_); refine goesL_ (some 6) rfl rfl Try.func22 (by kernel_rfl) rfl #[.slice A0 l0.length c0] rfl (by (try simp only [List.map_toArray, List.map_cons, List.map_nil]); first | done | rfl | (simp only [List.length_drop, List.length_take]; rfl)) ?_; (with_reducible refine (impl_StoreOk.calls k _ _ l0 true _ ?side1 ?side2 A3.out).mono ?_); (case side1 => repeat (first | exact HR0.out | (with_reducible refine Kd.C_alloc ?_ _) | (with_reducible refine Kd.C_drewN ?_ _) | (with_reducible refine Kd.C_drew ?_))); (case side2 => exact HC0.out); rintro e w7 ⟨rfl, hb⟩; refine ⟨_, rfl, ?_⟩; have n0_ := Aside0.mk (below_step (by repeat (first | (with_reducible first | exact HB.out | apply below_alloc | apply pw_below_drewN | apply below_drew1) | exact HB.out)) hb); clear HB; have HB := n0_; clear n0_; (try clear hb); (try clear hb2); (try clear hk); (try clear hi)) | (go_at_call 53; (with_reducible refine (impl_TextOk.calls k a1 true _ A5.out).mono ?_); rintro e w' ⟨rfl, ⟨nd, rfl⟩⟩))
      go_ret
      exact ⟨by first | rfl | (simp [errW_none, errW_some] <;> rfl) | (simp [errW_none, errW_some]; first | exact Go.Proofs.YtjdkccpcgmgmmaaB.emp1 _ | exact Go.Proofs.YtjdkccpcgmgmmaaB.emp2 _ | exact Go.Proofs.YtjdkccpcgmgmmaaB.emp3 _) | (simp [*, errW_none, errW_some] <;> rfl), by repeat (first | (with_reducible first | exact HB.out | apply below_alloc | apply pw_below_drewN | apply below_drew1) | exact HB.out)⟩
    · replace c6 := Bool.eq_false_iff.mpr c6
      subst c6
      have H1 : (some false) = some r := by rw [if_neg (show ¬ (false = true) by decide)] at H; exact H
      clear H
      have H := H1
      clear H1
      obtain rfl := Option.some.inj H
      go_enter Try.func59, Try.ntmps59
      go_wp2_with (first | ((with_reducible refine gate_callee (f := 22) rfl ?_); refine goesL_ (some 6) rfl rfl Try.func22 (by kernel_rfl) rfl #[.slice A0 l0.length c0] rfl (by (try simp only [List.map_toArray, List.map_cons, List.map_nil]); first | done | rfl | (simp only [List.length_drop, List.length_take]; rfl)) ?_; (with_reducible refine (impl_StoreOk.calls k _ _ l0 true _ ?side1 ?side2 A3.out).mono ?_); (case side1 => repeat (first | exact HR0.out | (with_reducible refine Kd.C_alloc ?_ _) | (with_reducible refine Kd.C_drewN ?_ _) | (with_reducible refine Kd.C_drew ?_))); (case side2 => exact HC0.out); rintro e w8 ⟨rfl, hb⟩; refine ⟨_, rfl, ?_⟩; have n0_ := Aside0.mk (below_step (by repeat (first | (with_reducible first | exact HB.out | apply below_alloc | apply pw_below_drewN | apply below_drew1) | exact HB.out)) hb); clear HB; have HB := n0_; clear n0_; (try clear hb); (try clear hb2); (try clear hk); (try clear hi)) | (go_at_call 53; (with_reducible refine (impl_TextOk.calls k a1 false _ A5.out).mono ?_); rintro e w' ⟨rfl, ⟨nd, rfl⟩⟩))
      go_ret
      exact ⟨by first | rfl | (simp [errW_none, errW_some] <;> rfl) | (simp [errW_none, errW_some]; first | exact Go.Proofs.YtjdkccpcgmgmmaaB.emp1 _ | exact Go.Proofs.YtjdkccpcgmgmmaaB.emp2 _ | exact Go.Proofs.YtjdkccpcgmgmmaaB.emp3 _) | (simp [*, errW_none, errW_some] <;> rfl), by repeat (first | (with_reducible first | exact HB.out | apply below_alloc | apply pw_below_drewN | apply below_drew1) | exact HB.out)⟩
  · replace c4 := Bool.eq_false_iff.mpr c4
    subst c4
    have H1 : (some false) = some r := by rw [if_neg (show ¬ (false = true) by decide)] at H; exact H
    clear H
    have H := H1
    clear H1
    obtain rfl := Option.some.inj H
    go_enter Try.func59, Try.ntmps59
    go_wp2_with (first | ((with_reducible refine gate_callee (f := 22) rfl ?_); refine goesL_ (some 6) rfl rfl Try.func22 (by kernel_rfl) rfl #[.slice A0 l0.length c0] rfl (by (try simp only [List.map_toArray, List.map_cons, List.map_nil]); first | done | rfl | (simp only [List.length_drop, List.length_take]; rfl)) ?_; (with_reducible refine (impl_StoreOk.calls k _ _ l0 false _ ?side1 ?side2 A3.out).mono ?_); (case side1 => repeat (first | exact HR0.out | (with_reducible refine Kd.C_alloc ?_ _) | (with_reducible refine Kd.C_drewN ?_ _) | (with_reducible refine Kd.C_drew ?_))); (case side2 => exact HC0.out); rintro e w9 ⟨rfl, hb⟩; refine ⟨_, rfl, ?_⟩; have n0_ := Aside0.mk (below_step (by repeat (first | (with_reducible first | exact HB.out | apply below_alloc | apply pw_below_drewN | apply below_drew1) | exact HB.out)) hb); clear HB; have HB := n0_; clear n0_; (try clear hb); (try clear hb2); (try clear hk); (try clear hi)))
    go_ret
    exact ⟨by first | rfl | (simp [errW_none, errW_some] <;> rfl) | (simp [errW_none, errW_some]; first | exact Go.Proofs.YtjdkccpcgmgmmaaB.emp1 _ | exact Go.Proofs.YtjdkccpcgmgmmaaB.emp2 _ | exact Go.Proofs.YtjdkccpcgmgmmaaB.emp3 _) | (simp [*, errW_none, errW_some] <;> rfl), by repeat (first | (with_reducible first | exact HB.out | apply below_alloc | apply pw_below_drewN | apply below_drew1) | exact HB.out)⟩

/-! ### impl_Slot_67: function 67 -/
def impl_Slot_67.f (l0 : List (S36)) : Option ((List (S36))) := (some (([] : List (S36)) : List (S36))).bind fun y138 => (if y138.length + l0.length < 5864062014805 then (some (y138 ++ l0)) else (none))
set_option maxHeartbeats 8000000 in
set_option maxRecDepth 100000 in
theorem impl_Slot_67.calls (A0 : Option Addr) (c0 : Nat) (l0 : List (S36)) (r : List (S36)) (w : World) (hr0 : Kd.C k36 w A0 l0.length l0) (hc0 : l0.length ≤ c0) (h : impl_Slot_67.f l0 = some r) :
    Calls Try.prog 67 #[.slice A0 l0.length c0] w fun e w' => ∃ v0_ : Value, e = .returned (v0_) ∧ Kd.R k36 36 w' w.heap.size (fun _ => True) v0_ r ∧ Below w.heap.size w w' := by
  have HR0 := Aside0.mk hr0
  have HC0 := Aside0.mk hc0
  clear hr0 hc0
  have HB := Aside0.mk (Below.refl w.heap.size w)
  have H : ((some (([] : List (S36)) : List (S36))).bind fun y138 => (if y138.length + l0.length < 5864062014805 then (some (y138 ++ l0)) else (none))) = some r := h
  clear h
  obtain ⟨y138, hy138⟩ : ∃ y_ : List (S36), y_ = (([] : List (S36))) := ⟨_, rfl⟩
  replace H : (if y138.length + l0.length < 5864062014805 then (some (y138 ++ l0)) else (none)) = some r := by first | (rw [hy138]; with_reducible exact H) | (have H2_ := (Option.bind_some _ _).symm.trans H; rw [hy138]; with_reducible exact H2_) | (have H2_ := (Option.bind_some _ _).symm.trans H; with_reducible exact H2_) | with_reducible exact H | (rw [hy138]; exact H) | exact H
  have Ny138 := Aside0.mk hy138
  clear hy138
  by_cases c2 : y138.length + l0.length < 5864062014805
  · rw [if_pos c2] at H
    have LMc2 := Aside0.mk c2
    clear c2
    obtain ⟨y141, hy141⟩ : ∃ y_ : List (S36), y_ = (y138 ++ l0) := ⟨_, rfl⟩
    replace H : (some y141) = some r := by first | (rw [hy141]; with_reducible exact H) | (have H2_ := (Option.bind_some _ _).symm.trans H; rw [hy141]; with_reducible exact H2_) | (have H2_ := (Option.bind_some _ _).symm.trans H; with_reducible exact H2_) | with_reducible exact H | (rw [hy141]; exact H) | exact H
    have Ny141 := Aside0.mk hy141
    clear hy141
    obtain rfl := Option.some.inj H
    have QN := fun (w : World) (a : Option Addr) (n c n' c' : Nat) => Lib.run_eql_slice_nil w 25 36 a n c n' c' Try.underlying25
    cases A0 with
    | none =>
      have hl : l0.length = 0 := by
        rcases Nat.eq_zero_or_pos l0.length with h | h
        · exact h
        · obtain ⟨ad, e, _⟩ := HR0.out.2.2 h
          cases e
      obtain rfl : l0 = [] := List.eq_nil_of_length_eq_zero hl
      have hy := Ny141.out
      rw [Ny138.out] at hy
      obtain rfl : y141 = [] := hy
      clear hl
      go_enter Try.func67, Try.ntmps67
      go_wp2
      go_ret
      exact ⟨_, rfl, Kd.R_nil _ _ _ _ _, HB.out⟩
    | some ad =>
      go_enter Try.func67, Try.ntmps67
      go_wp2_with (first | ((with_reducible refine gate_dst (N := 5) rfl ?_); refine Kd.R_lit k36 _ 36 ?hg (N := 5) ?hd (xs := ([] : List (S36))) (inner := []) (ok := fun _ => True) (okp := fun _ => True) ?hr ?hp (fun _ hk => hk) trivial (Below.refl _ _) (Nat.le_refl _) (by simp) ?_; (case hd => rfl); (case hg => rfl); (case hr => first | (go_simp; done) | (go_simp; rfl)); (case hp => exact (Reps.none _ _)); intro v139 w3 ho4 hb hg_ hnew_; clear hg_ hnew_; (first | rw [← Ny138.out] at ho4 | (simp only [Int.reduceToNat] at ho4; rw [← Ny138.out] at ho4)); have n0_ := Aside0.mk (Kd.R_lower ho4 (below_size (by repeat (first | (with_reducible first | exact HB.out | apply below_alloc | apply pw_below_drewN | apply below_drew1) | exact HB.out)))); have n1_ := Aside0.mk (below_step (by repeat (first | (with_reducible first | exact HB.out | apply below_alloc | apply pw_below_drewN | apply below_drew1) | exact HB.out)) hb); clear HB; have HO140 := n0_; have HB := n1_; clear n0_ n1_; clear hb ho4) | ((with_reducible refine gate_builtin (b := .append) (xs := #[.tmp 5, .tmp 6]) rfl ?_); at_builtin; refine Kd.R_append_rows k36 (w0 := w) w.heap.size rfl (.tmp 5) (.tmp 6) 25 36 (.agg #[(.string ⟨#[]⟩), (.int .i64 0)]) 24 rfl Try.underlying25 info36 rfl (by decide) (by omega) v139 y138 l0 _ _ _ (fun _ => True) (fun _ => False) rfl rfl ?aO ?aR (fun _ _ h => h) (fun _ h => h.elim) ?aF ?aB ?aS ?aL ?_; (case aR => repeat (first | exact (Kd.C_below HR0.out HB.out) | (with_reducible refine Kd.C_alloc ?_ _) | (with_reducible refine Kd.C_drewN ?_ _) | (with_reducible refine Kd.C_drew ?_))); (case aB => exact (by repeat (first | (with_reducible first | exact HB.out | apply below_alloc | apply pw_below_drewN | apply below_drew1) | exact HB.out))); (case aF => exact (fun _ _ => trivial)); (case aO => exact (by (with_reducible repeat (first | apply Kd.R_alloc | apply Kd.R_drewN | apply Kd.R_drew)); exact HO140.out)); (case aS => exact (below_size (by repeat (first | (with_reducible first | exact HB.out | apply below_alloc | apply pw_below_drewN | apply below_drew1) | exact HB.out)))); (case aL => have := LMc2.out; omega); intro v142 w5 ho hb hg hat; rw [← Ny141.out] at ho; have n0_ := Aside0.mk (hb); have n1_ := Aside0.mk (ho); clear HB; clear HO140; have HB := n0_; have HO143 := n1_; clear n0_ n1_; clear ho hb hg hat))
      go_ret
      exact ⟨_, by first | rfl | (simp [errW_none, errW_some] <;> rfl) | (simp [*, errW_none, errW_some] <;> rfl), by (with_reducible repeat (first | apply Kd.R_alloc | apply Kd.R_drewN | apply Kd.R_drew)); exact HO143.out, by repeat (first | (with_reducible first | exact HB.out | apply below_alloc | apply pw_below_drewN | apply below_drew1) | exact HB.out)⟩
  · rw [if_neg c2] at H
    exact absurd H (by simp)


/-! ### impl_TextPlace: function 48 -/
def impl_TextPlace.l0 : Nat → ByteArray → Int → Int → Int → Option (Int)
  | 0, _, _, _, _ => none
  | k + 1, x0, x3, x9, x10 => if x10 < x9 then (if 0 ≤ x10 then (if x10 < (x0.size : Int) then (impl_TextPlace.l0 k x0 (wrap64 (x3 + (wrap64 ((wrap64 (x10 + 1)) * ((((bt x0 x10) - 97) % 256) + 1))))) x9 (wrap64 (x10 + 1))) else (none)) else (none)) else (some (wrap64 ((Int.tmod x3 8) + 1)))
def impl_TextPlace.f (k : Nat) (a0 : ByteArray) : Option (Int) := (impl_TextOk.f k a0).bind fun t171 => (if t171 = true then (impl_TextPlace.l0 k a0 0 (a0.size : Int) 0) else (some 0))
theorem impl_TextPlace.mono_l : ∀ k, (∀ y0 y1 y2 y3, LeO (impl_TextPlace.l0 k y0 y1 y2 y3) (impl_TextPlace.l0 (k + 1) y0 y1 y2 y3))
  | 0 => fun _ _ _ _ r h => by simp [impl_TextPlace.l0] at h
  | k + 1 => by
    have ih0 := impl_TextPlace.mono_l k
    · intro y0 y1 y2 y3
      unfold impl_TextPlace.l0
      repeat' first
      | (with_reducible exact ih0 _ _ _ _)
      | (with_reducible exact impl_TextOk.mono _ _)
      | (with_reducible exact LeO.refl _)
      | (with_reducible exact LeO.none _)
      | (with_reducible refine LeO.ite ?_ ?_)
      | (with_reducible refine LeO.bind ?_ (fun _ => ?_))
      | exact ih0 _ _ _ _
      | exact impl_TextOk.mono _ _
      | exact LeO.none _
      | refine LeO.ite ?_ ?_
      | refine LeO.bind ?_ (fun _ => ?_)
theorem impl_TextPlace.mono : ∀ a0 k, LeO (impl_TextPlace.f k a0) (impl_TextPlace.f (k + 1) a0) := by
  intro a0 k
  have ih0 := impl_TextPlace.mono_l k
  unfold impl_TextPlace.f
  repeat' first
      | (with_reducible exact ih0 _ _ _ _)
      | (with_reducible exact impl_TextOk.mono _ _)
      | (with_reducible exact LeO.refl _)
      | (with_reducible exact LeO.none _)
      | (with_reducible refine LeO.ite ?_ ?_)
      | (with_reducible refine LeO.bind ?_ (fun _ => ?_))
      | exact ih0 _ _ _ _
      | exact impl_TextOk.mono _ _
      | exact LeO.none _
      | refine LeO.ite ?_ ?_
      | refine LeO.bind ?_ (fun _ => ?_)
set_option maxHeartbeats 8000000 in
set_option maxRecDepth 100000 in
theorem impl_TextPlace.calls (k : Nat) (a0 : ByteArray) (r : Int) (w : World) (h : impl_TextPlace.f k a0 = some r) :
    Calls Try.prog 48 #[.string a0] w fun e w' => e = .returned (.int .i64 r) ∧ Drawn0 w w' := by
  have H : ((impl_TextOk.f k a0).bind fun t171 => (if t171 = true then (impl_TextPlace.l0 k a0 0 (a0.size : Int) 0) else (some 0))) = some r := h
  clear h
  replace H := Option.bind_eq_some_iff.mp H
  obtain ⟨t171, A20, H⟩ := H
  replace H : (if t171 = true then (impl_TextPlace.l0 k a0 0 (a0.size : Int) 0) else (some 0)) = some r := H
  have A2 := Aside0.mk A20
  clear A20
  by_cases c3 : t171 = true
  · subst c3
    have H1 : (impl_TextPlace.l0 k a0 0 (a0.size : Int) 0) = some r := by rw [if_pos rfl] at H; exact H
    clear H
    have H := H1
    clear H1
    have H' := Aside0.mk H
    clear H
    go_enter Try.func48, Try.ntmps48
    go_wp2_with (first | ((with_reducible refine gate_callee (f := 53) rfl ?_); refine goesL_ (some 6) rfl rfl Try.func53 (by kernel_rfl) rfl #[.string a0] rfl (by (try simp only [List.map_toArray, List.map_cons, List.map_nil]); first | done | rfl | (simp only [List.length_drop, List.length_take]; rfl)) ?_; (with_reducible refine (impl_TextOk.calls k a0 true _ A2.out).mono ?_); rintro e w' ⟨rfl, ⟨nd, rfl⟩⟩; refine ⟨_, rfl, ?_⟩))
    go_loopg [3, 10] k (fun kq v3 v10 w' => ∃ (x3_1 : Int) (x10_1 : Int), v3 = .int .i64 x3_1 ∧ v10 = .int .i64 x10_1 ∧ Aside0 (impl_TextPlace.l0 kq a0 x3_1 (a0.size : Int) x10_1 = some r) ∧ Aside0 (kq ≤ k) ∧ Drawn0 w w')
    case atStart => exact ⟨(0), (0), (by first | rfl | (simp; done) | (simp [*]; done) | (simp; first | exact Go.Proofs.YtjdkccpcgmgmmaaB.bne1 _ _ | exact Go.Proofs.YtjdkccpcgmgmmaaB.bne2 _ _ | exact Go.Proofs.YtjdkccpcgmgmmaaB.bne3 _ _ | exact Go.Proofs.YtjdkccpcgmgmmaaB.bne4 _ _)), (by first | rfl | (simp; done) | (simp [*]; done) | (simp; first | exact Go.Proofs.YtjdkccpcgmgmmaaB.bne1 _ _ | exact Go.Proofs.YtjdkccpcgmgmmaaB.bne2 _ _ | exact Go.Proofs.YtjdkccpcgmgmmaaB.bne3 _ _ | exact Go.Proofs.YtjdkccpcgmgmmaaB.bne4 _ _)), H', ⟨Nat.le_refl _⟩, by repeat (first | exact Drawn0.refl _ | apply Drawn0.step)⟩
    case round =>
      clear H'
      try clear p2
      try clear c3
      obtain ⟨x3_1, x10_1, rfl, rfl, HA, HK1, ⟨m1, rfl⟩⟩ := hrel
      cases gk with
      | zero => exact absurd HA.out (by simp [impl_TextPlace.l0])
      | succ k1 =>
        have H := HA.out
        clear HA
        simp only [impl_TextPlace.l0] at H
        by_cases c4 : x10_1 < (a0.size : Int)
        · rw [if_pos c4] at H
          have c4b0 : decide (x10_1 < (a0.size : Int)) = true := decide_eq_true c4
          clear c4
          by_cases c5 : 0 ≤ x10_1
          · rw [if_pos c5] at H
            have c5b0 : decide (0 ≤ x10_1) = true := decide_eq_true c5
            clear c5
            by_cases c6 : x10_1 < (a0.size : Int)
            · rw [if_pos c6] at H
              have c6b0 : decide (x10_1 < (a0.size : Int)) = true := decide_eq_true c6
              clear c6
              have H' := Aside0.mk H
              clear H
              have p7 : 0 ≤ (x10_1 : Int) := of_decide_eq_true (by first | (with_reducible assumption) | assumption)
              have q7 : x10_1 < (a0.size : Int) := of_decide_eq_true (by first | (with_reducible assumption) | assumption)
              have hx7 := bt_at a0 x10_1
              replace p7 := eq_true p7
              replace q7 := eq_true q7
              go_wp2
              go_roundg k1
              case measure => have := HK1.out; omega
              case rel => exact ⟨(wrap64 (x3_1 + (wrap64 ((wrap64 (x10_1 + 1)) * ((((bt a0 x10_1) - 97) % 256) + 1))))), (wrap64 (x10_1 + 1)), (by first | rfl | (simp; done) | (simp [*]; done) | (simp; first | exact Go.Proofs.YtjdkccpcgmgmmaaB.bne1 _ _ | exact Go.Proofs.YtjdkccpcgmgmmaaB.bne2 _ _ | exact Go.Proofs.YtjdkccpcgmgmmaaB.bne3 _ _ | exact Go.Proofs.YtjdkccpcgmgmmaaB.bne4 _ _)), (by first | rfl | (simp; done) | (simp [*]; done) | (simp; first | exact Go.Proofs.YtjdkccpcgmgmmaaB.bne1 _ _ | exact Go.Proofs.YtjdkccpcgmgmmaaB.bne2 _ _ | exact Go.Proofs.YtjdkccpcgmgmmaaB.bne3 _ _ | exact Go.Proofs.YtjdkccpcgmgmmaaB.bne4 _ _)), H', ⟨by have := HK1.out; omega⟩, by repeat (first | exact Drawn0.refl _ | apply Drawn0.step)⟩
            · rw [if_neg c6] at H
              exact absurd H (by simp)
          · rw [if_neg c5] at H
            exact absurd H (by simp)
        · rw [if_neg c4] at H
          have c4b0 : decide (x10_1 < (a0.size : Int)) = false := decide_eq_false c4
          clear c4
          obtain rfl := Option.some.inj H
          go_wp2
          go_ret
          exact ⟨by first | rfl | (simp; done) | (simp [*]; done), by repeat (first | exact Drawn0.refl _ | apply Drawn0.step)⟩
  · replace c3 := Bool.eq_false_iff.mpr c3
    subst c3
    have H1 : (some 0) = some r := by rw [if_neg (show ¬ (false = true) by decide)] at H; exact H
    clear H
    have H := H1
    clear H1
    obtain rfl := Option.some.inj H
    go_enter Try.func48, Try.ntmps48
    go_wp2_with (first | ((with_reducible refine gate_callee (f := 53) rfl ?_); refine goesL_ (some 6) rfl rfl Try.func53 (by kernel_rfl) rfl #[.string a0] rfl (by (try simp only [List.map_toArray, List.map_cons, List.map_nil]); first | done | rfl | (simp only [List.length_drop, List.length_take]; rfl)) ?_; (with_reducible refine (impl_TextOk.calls k a0 false _ A2.out).mono ?_); rintro e w' ⟨rfl, ⟨nd, rfl⟩⟩; refine ⟨_, rfl, ?_⟩))
    go_ret
    exact ⟨by first | rfl | (simp; done) | (simp [*]; done), by repeat (first | exact Drawn0.refl _ | apply Drawn0.step)⟩

/-! ### impl_isSlot: function 66 -/
def impl_isSlot.f (a0 : Int) : Option (Bool) := (impl_within.f a0 1 8).bind fun t172 => (some t172)
set_option maxHeartbeats 8000000 in
set_option maxRecDepth 100000 in
theorem impl_isSlot.calls (a0 : Int) (r : Bool) (w : World) (h : impl_isSlot.f a0 = some r) :
    Calls Try.prog 66 #[.int .i64 a0] w fun e w' => e = .returned (.bool r) ∧ Drawn0 w w' := by
  have H : ((impl_within.f a0 1 8).bind fun t172 => (some t172)) = some r := h
  clear h
  replace H := Option.bind_eq_some_iff.mp H
  obtain ⟨t172, A20, H⟩ := H
  replace H : (some t172) = some r := H
  have A2 := Aside0.mk A20
  clear A20
  obtain rfl := Option.some.inj H
  go_enter Try.func66, Try.ntmps66
  go_wp2_with (first | ((with_reducible refine gate_callee (f := 54) rfl ?_); refine goesL_ (some 4) rfl rfl Try.func54 (by kernel_rfl) rfl #[.int .i64 a0, .int .i64 1, .int .i64 8] rfl (by (try simp only [List.map_toArray, List.map_cons, List.map_nil]); first | done | rfl | (simp only [List.length_drop, List.length_take]; rfl)) ?_; (with_reducible refine (impl_within.calls a0 1 8 t172 _ A2.out).mono ?_); rintro e w' ⟨rfl, ⟨nd, rfl⟩⟩; refine ⟨_, rfl, ?_⟩))
  go_ret
  exact ⟨by first | rfl | (simp; done) | (simp [*]; done), by repeat (first | exact Drawn0.refl _ | apply Drawn0.step)⟩

/-! ### impl_TextNext: function 49 -/
def impl_TextNext.f (a0 : Int) : Option (Int) := (impl_isSlot.f a0).bind fun t173 => (if t173 = true then (some (wrap64 ((Int.tmod a0 8) + 1))) else (some 0))
set_option maxHeartbeats 8000000 in
set_option maxRecDepth 100000 in
theorem impl_TextNext.calls (a0 : Int) (r : Int) (w : World) (h : impl_TextNext.f a0 = some r) :
    Calls Try.prog 49 #[.int .i64 a0] w fun e w' => e = .returned (.int .i64 r) ∧ Drawn0 w w' := by
  have H : ((impl_isSlot.f a0).bind fun t173 => (if t173 = true then (some (wrap64 ((Int.tmod a0 8) + 1))) else (some 0))) = some r := h
  clear h
  replace H := Option.bind_eq_some_iff.mp H
  obtain ⟨t173, A20, H⟩ := H
  replace H : (if t173 = true then (some (wrap64 ((Int.tmod a0 8) + 1))) else (some 0)) = some r := H
  have A2 := Aside0.mk A20
  clear A20
  by_cases c3 : t173 = true
  · subst c3
    have H1 : (some (wrap64 ((Int.tmod a0 8) + 1))) = some r := by rw [if_pos rfl] at H; exact H
    clear H
    have H := H1
    clear H1
    obtain rfl := Option.some.inj H
    go_enter Try.func49, Try.ntmps49
    go_wp2_with (first | ((with_reducible refine gate_callee (f := 66) rfl ?_); refine goesL_ (some 4) rfl rfl Try.func66 (by kernel_rfl) rfl #[.int .i64 a0] rfl (by (try simp only [List.map_toArray, List.map_cons, List.map_nil]); first | done | rfl | (simp only [List.length_drop, List.length_take]; rfl)) ?_; (with_reducible refine (impl_isSlot.calls a0 true _ A2.out).mono ?_); rintro e w' ⟨rfl, ⟨nd, rfl⟩⟩; refine ⟨_, rfl, ?_⟩))
    go_ret
    exact ⟨by first | rfl | (simp; done) | (simp [*]; done), by repeat (first | exact Drawn0.refl _ | apply Drawn0.step)⟩
  · replace c3 := Bool.eq_false_iff.mpr c3
    subst c3
    have H1 : (some 0) = some r := by rw [if_neg (show ¬ (false = true) by decide)] at H; exact H
    clear H
    have H := H1
    clear H1
    obtain rfl := Option.some.inj H
    go_enter Try.func49, Try.ntmps49
    go_wp2_with (first | ((with_reducible refine gate_callee (f := 66) rfl ?_); refine goesL_ (some 4) rfl rfl Try.func66 (by kernel_rfl) rfl #[.int .i64 a0] rfl (by (try simp only [List.map_toArray, List.map_cons, List.map_nil]); first | done | rfl | (simp only [List.length_drop, List.length_take]; rfl)) ?_; (with_reducible refine (impl_isSlot.calls a0 false _ A2.out).mono ?_); rintro e w' ⟨rfl, ⟨nd, rfl⟩⟩; refine ⟨_, rfl, ?_⟩))
    go_ret
    exact ⟨by first | rfl | (simp; done) | (simp [*]; done), by repeat (first | exact Drawn0.refl _ | apply Drawn0.step)⟩

/-! ### impl_find: function 60 -/
/-- 'x.Text == text', text in the cell ⟨B, 0⟩ of the caller's. -/
theorem find_pred (t : ByteArray) (B : Nat) (w : World) (hB : B < w.heap.size) (hcell : w.cell? ⟨B, 0, none⟩ = some (.string t)) :
    PredBelow Try.prog 81 #[.pointer (some ⟨B, 0, none⟩)] (fun x => .agg (encSlot x).toArray) (fun x => x.f0.toList == t.toList) w := fun W x hb => by
  have hc : W.cell? ⟨B, 0, none⟩ = some (.string t) := (hb.cell (p := ⟨B, 0, none⟩) hB).trans hcell
  have hBW : B < W.heap.size := Nat.lt_of_lt_of_le hB hb.size
  have hne : B ≠ W.heap.size := by omega
  show Calls Try.prog 81 #[.agg #[.string x.f0, .int .i64 x.f1], .pointer (some ⟨B, 0, none⟩)] W _
  go_enter Try.func81, Try.ntmps81
  go_wp2
  all_goals (go_ret; exact ⟨by first | rfl | simp_all, hb.alloc hb.size _⟩)
def impl_find.f (l0 : List (S36)) (a1 : ByteArray) : Option (Int) := some (wrap64 (Lib.idxBy (fun _ (y : S36) => y.f0.toList == a1.toList) l0 default + 1))
set_option maxHeartbeats 1000000 in
theorem impl_find.calls (A0 : Option Addr) (c0 : Nat) (l0 : List (S36)) (a1 : ByteArray) (r : Int) (w : World) (hr0 : Kd.C k36 w A0 l0.length l0) (hc0 : l0.length ≤ c0) (h : impl_find.f l0 a1 = some r) :
    Calls Try.prog 60 #[.slice A0 l0.length c0, .string a1] w fun e w' => e = .returned (.int .i64 r) ∧ Below w.heap.size w w' := by
  have eg : ∀ args w, (callFunc 81 args).run Try.prog w = .ok (.enter 81 args) w := enters_of Try.func81 (by kernel_rfl) rfl
  have hb0 : Below w.heap.size w (w.alloc (.cells #[.string a1] 9)) := (Below.refl _ w).alloc (Nat.le_refl _) _
  have hcon := idx_calls (fun x => x.f0.toList == a1.toList) 81 #[.pointer (some ⟨w.heap.size, 0, none⟩)] eg A0 c0 l0 (w.alloc (.cells #[.string a1] 9)) (Kd.C_below hr0 hb0) (find_pred a1 w.heap.size _ (by simp) (by simp))
  unfold impl_find.f at h
  generalize Lib.idxBy (fun _ (y : S36) => y.f0.toList == a1.toList) l0 default = x at hcon h
  obtain rfl := Option.some.inj h
  clear hr0 hc0 h
  go_enter Try.func60, Try.ntmps60
  go_wp2_with (go_at_call 78; refine hcon.mono ?_; rintro e w' ⟨rfl, hb'⟩)
  go_ret
  exact ⟨rfl, hb0.trans (hb'.mono (by simp))⟩


/-! ### impl_put: function 77 -/
def impl_put.l0 : Nat → List (S36) → ByteArray → Int → Int → Option (Int × (List (S36)))
  | 0, _, _, _, _ => none
  | k + 1, x0, x1, x5, x13 => if x13 < 8 then (if 0 ≤ (wrap64 (x5 - 1)) then (if (wrap64 (x5 - 1)) < (x0.length : Int) then (if ((rd_T36 x0 (wrap64 (x5 - 1))).f1) = 0 then (some (x5, (x0.set ((wrap64 (x5 - 1)) : Int).toNat (⟨x1, 1⟩ : S36)))) else ((impl_TextNext.f x5).bind fun t178 => (impl_put.l0 k x0 x1 t178 (wrap64 (x13 + 1))))) else (none)) else (none)) else (some (0, x0))
def impl_put.f (k : Nat) (l0 : List (S36)) (a1 : ByteArray) : Option (Int × (List (S36))) := (impl_find.f l0 a1).bind fun t174 => (if t174 = 0 then ((impl_TextPlace.f k a1).bind fun t175 => (impl_put.l0 k l0 a1 t175 0)) else (if 0 ≤ (wrap64 (t174 - 1)) then (if (wrap64 (t174 - 1)) < (l0.length : Int) then (if ((rd_T36 l0 (wrap64 (t174 - 1))).f1) = 99 then (some (0, l0)) else (some (t174, (l0.set ((wrap64 (t174 - 1)) : Int).toNat (⟨(rd_T36 l0 (wrap64 (t174 - 1))).f0, wrap64 (((rd_T36 l0 (wrap64 (t174 - 1))).f1) + 1)⟩ : S36))))) else (none)) else (none)))
theorem impl_put.mono_l : ∀ k, (∀ y0 y1 y2 y3, LeO (impl_put.l0 k y0 y1 y2 y3) (impl_put.l0 (k + 1) y0 y1 y2 y3))
  | 0 => fun _ _ _ _ r h => by simp [impl_put.l0] at h
  | k + 1 => by
    have ih0 := impl_put.mono_l k
    · intro y0 y1 y2 y3
      unfold impl_put.l0
      repeat' first
      | (with_reducible exact ih0 _ _ _ _)
      | (with_reducible exact impl_TextPlace.mono _ _)
      | (with_reducible exact LeO.refl _)
      | (with_reducible exact LeO.none _)
      | (with_reducible refine LeO.ite ?_ ?_)
      | (with_reducible refine LeO.bind ?_ (fun _ => ?_))
      | exact ih0 _ _ _ _
      | exact impl_TextPlace.mono _ _
      | exact LeO.none _
      | refine LeO.ite ?_ ?_
      | refine LeO.bind ?_ (fun _ => ?_)
theorem impl_put.mono : ∀ a0 a1 k, LeO (impl_put.f k a0 a1) (impl_put.f (k + 1) a0 a1) := by
  intro a0 a1 k
  have ih0 := impl_put.mono_l k
  unfold impl_put.f
  repeat' first
      | (with_reducible exact ih0 _ _ _ _)
      | (with_reducible exact impl_TextPlace.mono _ _)
      | (with_reducible exact LeO.refl _)
      | (with_reducible exact LeO.none _)
      | (with_reducible refine LeO.ite ?_ ?_)
      | (with_reducible refine LeO.bind ?_ (fun _ => ?_))
      | exact ih0 _ _ _ _
      | exact impl_TextPlace.mono _ _
      | exact LeO.none _
      | refine LeO.ite ?_ ?_
      | refine LeO.bind ?_ (fun _ => ?_)
set_option maxHeartbeats 8000000 in
set_option maxRecDepth 100000 in
theorem impl_put.calls (k : Nat) (P0_ : Nat → Prop) (u9000_ : Value) (l0 : List (S36)) (a1 : ByteArray) (r1 : Int) (r2 : List (S36)) (w0 w : World) (hB : Below w0.heap.size w0 w) (ho0 : Kd.R k36 36 w w0.heap.size P0_ u9000_ l0) (h : impl_put.f k l0 a1 = some (r1, r2)) :
    Calls Try.prog 77 #[u9000_, .string a1] w fun e w' => e = .returned (.int .i64 r1) ∧ Kd.R k36 36 w' w0.heap.size (fun k_ => (P0_ k_ ∨ w.heap.size ≤ k_)) u9000_ r2 ∧ Below w0.heap.size w0 w' ∧ Kept w w' (fun k_ => P0_ k_) := by
  have hu36 := Try.underlying36
  have HO0 := Aside0.mk (show Kd.R k36 36 w w0.heap.size (fun k_ => (P0_ k_ ∨ w.heap.size ≤ k_)) u9000_ l0 from Kd.R_mono ho0 (fun k_ hk => (.inl hk)))
  have HK := Aside0.mk (Kept.refl w (fun k_ => P0_ k_))
  have HW0 := Aside0.mk hB.size
  have HB := Aside0.mk hB
  clear hB
  have H : ((impl_find.f l0 a1).bind fun t174 => (if t174 = 0 then ((impl_TextPlace.f k a1).bind fun t175 => (impl_put.l0 k l0 a1 t175 0)) else (if 0 ≤ (wrap64 (t174 - 1)) then (if (wrap64 (t174 - 1)) < (l0.length : Int) then (if ((rd_T36 l0 (wrap64 (t174 - 1))).f1) = 99 then (some (0, l0)) else (some (t174, (l0.set ((wrap64 (t174 - 1)) : Int).toNat (⟨(rd_T36 l0 (wrap64 (t174 - 1))).f0, wrap64 (((rd_T36 l0 (wrap64 (t174 - 1))).f1) + 1)⟩ : S36))))) else (none)) else (none)))) = some (r1, r2) := h
  clear h
  replace H := Option.bind_eq_some_iff.mp H
  obtain ⟨t174, A30, H⟩ := H
  replace H : (if t174 = 0 then ((impl_TextPlace.f k a1).bind fun t175 => (impl_put.l0 k l0 a1 t175 0)) else (if 0 ≤ (wrap64 (t174 - 1)) then (if (wrap64 (t174 - 1)) < (l0.length : Int) then (if ((rd_T36 l0 (wrap64 (t174 - 1))).f1) = 99 then (some (0, l0)) else (some (t174, (l0.set ((wrap64 (t174 - 1)) : Int).toNat (⟨(rd_T36 l0 (wrap64 (t174 - 1))).f0, wrap64 (((rd_T36 l0 (wrap64 (t174 - 1))).f1) + 1)⟩ : S36))))) else (none)) else (none))) = some (r1, r2) := H
  have A3 := Aside0.mk A30
  clear A30
  by_cases c4 : t174 = 0
  · rw [if_pos c4] at H
    have c4b0 : (t174 == 0) = true := beq_iff_eq.mpr c4
    have c4b1 : (t174 != 0) = false := bne_eq_false_iff_eq.mpr c4
    clear c4
    replace H := Option.bind_eq_some_iff.mp H
    obtain ⟨t175, A50, H⟩ := H
    replace H : (impl_put.l0 k l0 a1 t175 0) = some (r1, r2) := H
    have A5 := Aside0.mk A50
    clear A50
    have H' := Aside0.mk H
    clear H
    obtain ⟨Ao6, co6, eo6⟩ := Kd.R_slice HO0.out
    subst eo6
    go_enter Try.func77, Try.ntmps77
    go_wp2_with (first | ((with_reducible refine gate_callee (f := 60) rfl ?_); refine goesL_ (some 8) rfl rfl Try.func60 (by kernel_rfl) rfl #[.slice Ao6 l0.length co6, .string a1] rfl (by (try simp only [List.map_toArray, List.map_cons, List.map_nil]); first | done | rfl | (simp only [List.length_drop, List.length_take]; rfl)) ?_; (with_reducible refine (impl_find.calls _ _ l0 a1 t174 _ ?side1 ?side2 A3.out).mono ?_); (case side1 => repeat (first | exact (Kd.R_reads' HO0.out).2.2 | (with_reducible refine Kd.C_alloc ?_ _) | (with_reducible refine Kd.C_drewN ?_ _) | (with_reducible refine Kd.C_drew ?_))); (case side2 => exact (Kd.R_reads' HO0.out).2.1); rintro e w7 ⟨rfl, hb⟩; refine ⟨_, rfl, ?_⟩; have n0_ := Aside0.mk (Kd.R_below (by (with_reducible repeat (first | apply Kd.R_alloc | apply Kd.R_drewN | apply Kd.R_drew)); exact HO0.out) hb); have n1_ := Aside0.mk (Kept.below (S := (fun k_ => P0_ k_)) (by repeat (first | (with_reducible first | exact HK.out | apply Kept.alloc | apply Kept.drewN | apply Kept.drew) | exact HK.out)) hb); have n2_ := Aside0.mk (below_step (by repeat (first | (with_reducible first | exact HB.out | apply below_alloc | apply pw_below_drewN | apply below_drew1) | exact HB.out)) hb); clear HO0; clear HK; clear HB; have HO0 := n0_; have HK := n1_; have HB := n2_; clear n0_ n1_ n2_; (try clear hb); (try clear hb2); (try clear hk); (try clear hi)) | ((with_reducible refine gate_callee (f := 48) rfl ?_); refine goesL_ (some 12) rfl rfl Try.func48 (by kernel_rfl) rfl #[.string a1] rfl (by (try simp only [List.map_toArray, List.map_cons, List.map_nil]); first | done | rfl | (simp only [List.length_drop, List.length_take]; rfl)) ?_; (with_reducible refine (impl_TextPlace.calls k a1 t175 _ A5.out).mono ?_); rintro e w' ⟨rfl, ⟨nd, rfl⟩⟩; refine ⟨_, rfl, ?_⟩))
    go_loopg [5, 13] k (fun kq v5 v13 w' => ∃ (x0_1 : List (S36)) (x5_1 : Int) (x13_1 : Int), v5 = .int .i64 x5_1 ∧ v13 = .int .i64 x13_1 ∧ Aside0 (impl_put.l0 kq x0_1 a1 x5_1 x13_1 = some (r1, r2)) ∧ Aside0 (kq ≤ k) ∧ Aside0 (Kd.R k36 36 w' w0.heap.size (fun k_ => (P0_ k_ ∨ w.heap.size ≤ k_)) (.slice Ao6 l0.length co6) x0_1) ∧ Aside0 (Kept w w' (fun k_ => P0_ k_)) ∧ Aside0 (Below w0.heap.size w0 w'))
    case atStart => exact ⟨(l0), (t175), (0), (by first | rfl | (simp; done) | (simp [*]; done) | (simp; first | exact Go.Proofs.YtjdkccpcgmgmmaaB.bne1 _ _ | exact Go.Proofs.YtjdkccpcgmgmmaaB.bne2 _ _ | exact Go.Proofs.YtjdkccpcgmgmmaaB.bne3 _ _ | exact Go.Proofs.YtjdkccpcgmgmmaaB.bne4 _ _)), (by first | rfl | (simp; done) | (simp [*]; done) | (simp; first | exact Go.Proofs.YtjdkccpcgmgmmaaB.bne1 _ _ | exact Go.Proofs.YtjdkccpcgmgmmaaB.bne2 _ _ | exact Go.Proofs.YtjdkccpcgmgmmaaB.bne3 _ _ | exact Go.Proofs.YtjdkccpcgmgmmaaB.bne4 _ _)), H', ⟨Nat.le_refl _⟩, ⟨by (with_reducible repeat (first | apply Kd.R_alloc | apply Kd.R_drewN | apply Kd.R_drew)); exact HO0.out⟩, ⟨by repeat (first | (with_reducible first | exact HK.out | apply Kept.alloc | apply Kept.drewN | apply Kept.drew) | exact HK.out)⟩, ⟨by repeat (first | (with_reducible first | exact HB.out | apply below_alloc | apply pw_below_drewN | apply below_drew1) | exact HB.out)⟩⟩
    case round =>
      clear H'
      try clear p2
      try clear c4
      try clear c4b0
      try clear c4b1
      try clear c6
      try clear p6
      try clear c7
      obtain ⟨x0_1, x5_1, x13_1, rfl, rfl, HA, HK1, HO_0, HK, HB⟩ := hrel
      have hl0_1 := (Kd.R_reads' HO_0.out).1
      rw [hl0_1] at HO_0
      (try simp only [hl0_1])
      cases gk with
      | zero => exact absurd HA.out (by simp [impl_put.l0])
      | succ k1 =>
        have H := HA.out
        clear HA
        simp only [impl_put.l0] at H
        by_cases c8 : x13_1 < 8
        · rw [if_pos c8] at H
          have c8b0 : decide (x13_1 < 8) = true := decide_eq_true c8
          clear c8
          obtain ⟨ji9, hji9⟩ : ∃ j_ : Int, (wrap64 (x5_1 - 1)) = j_ := ⟨_, rfl⟩
          replace H : (if 0 ≤ (ji9) then (if (ji9) < (x0_1.length : Int) then (if ((rd_T36 x0_1 (ji9)).f1) = 0 then (some (x5_1, (x0_1.set ((ji9) : Int).toNat (⟨a1, 1⟩ : S36)))) else ((impl_TextNext.f x5_1).bind fun t178 => (impl_put.l0 k1 x0_1 a1 t178 (wrap64 (x13_1 + 1))))) else (none)) else (none)) = some (r1, r2) := by first | (rw [hji9] at H; exact H) | (simp only [hji9] at H ⊢; exact H)
          have hji9w : (IntKind.i64.wrap (x5_1 - 1)) = ji9 := (i64_w _).trans hji9
          by_cases c10 : 0 ≤ (ji9)
          · rw [if_pos c10] at H
            have c10b0 : decide (0 ≤ (ji9)) = true := decide_eq_true c10
            clear c10
            by_cases c11 : (ji9) < (x0_1.length : Int)
            · rw [if_pos c11] at H
              have c11b0 : decide ((ji9) < (x0_1.length : Int)) = true := decide_eq_true c11
              clear c11
              by_cases c12 : ((rd_T36 x0_1 (ji9)).f1) = 0
              · rw [if_pos c12] at H
                have c12b0 : (((rd_T36 x0_1 (ji9)).f1) == 0) = true := beq_iff_eq.mpr c12
                have c12b1 : (((rd_T36 x0_1 (ji9)).f1) != 0) = false := bne_eq_false_iff_eq.mpr c12
                clear c12
                obtain ⟨y177, hy177⟩ : ∃ y_ : List (S36), y_ = (x0_1.set ((ji9) : Int).toNat (⟨a1, 1⟩ : S36)) := ⟨_, rfl⟩
                replace H : (some (x5_1, y177)) = some (r1, r2) := by first | (rw [hy177]; with_reducible exact H) | (have H2_ := (Option.bind_some _ _).symm.trans H; rw [hy177]; with_reducible exact H2_) | (have H2_ := (Option.bind_some _ _).symm.trans H; with_reducible exact H2_) | with_reducible exact H | (rw [hy177]; exact H) | exact H
                have Ny177 := Aside0.mk hy177
                clear hy177
                simp only [Option.some.injEq, Prod.mk.injEq] at H
                obtain ⟨rfl, rfl⟩ := H
                have p176 : 0 ≤ ((ji9) : Int) := of_decide_eq_true (by first | (with_reducible assumption) | assumption)
                have q176 : (ji9) < (x0_1.length : Int) := of_decide_eq_true (by first | (with_reducible assumption) | assumption)
                obtain ⟨ad176, e176, hx176_0, hx176_1⟩ := at_T36 (Kd.R_reads' HO_0.out).2.2 (ji9) p176 q176
                cases e176
                replace p176 := eq_true p176
                replace q176 := eq_true q176
                have p13 : 0 ≤ ((ji9) : Int) := of_decide_eq_true (by first | (with_reducible assumption) | assumption)
                have q13 : ((ji9) : Int) < ((x0_1.length : Int) : Int) := of_decide_eq_true (by first | (with_reducible assumption) | assumption)
                obtain ⟨go13, co13, eo13, gb13, gl13, cl13, HG13⟩ := Kd.R_form HO_0.out (by omega)
                (first | cases eo13 | (injection eo13 with ea_ en_ ec_; (first | subst ea_ | (injection ea_ with ea_; subst ea_)); subst ec_; clear en_))
                have GB13 := Aside0.mk gb13
                have GG13 := Aside0.mk HG13
                clear gb13 gl13 HG13
                have HMgo13 := Aside0.mk (show (P0_ go13 ∨ w.heap.size ≤ go13) from (HO_0.out.1 _ rfl))
                (first | simp only [add_plain] at hx176_0 | skip)
                (first | simp only [add_plain] at hx176_1 | skip)
                obtain ⟨ce13, hcl13, hM13, hcc13, hfr13⟩ := Kd.R_elem HO_0.out z36 ((ji9) : Int) p13 q13
                obtain rfl := k36_openM hM13
                have hx13_0 : wr.cell? ⟨go13, ((ji9) : Int).toNat * 2, none⟩ = some (.string ((rd_T36 x0_1 (ji9)).f0)) := hcc13 0 _ rfl
                have hx13_1 : wr.cell? ⟨go13, ((ji9) : Int).toNat * 2 + 1, none⟩ = some (.int .i64 ((rd_T36 x0_1 (ji9)).f1)) := hcc13 1 _ rfl
                have hf13_0 : wr.frozen? ⟨go13, ((ji9) : Int).toNat * 2, none⟩ = false := hfr13 0
                have hf13_1 : wr.frozen? ⟨go13, ((ji9) : Int).toNat * 2 + 1, none⟩ = false := hfr13 1
                clear hcl13 hcc13 hfr13 hM13
                replace p13 := eq_true p13
                replace q13 := eq_true q13
                have HX14 := Aside0.mk (show Kd.R k36 36 wr w0.heap.size (fun k_ => (P0_ k_ ∨ w.heap.size ≤ k_)) (.slice (some ⟨go13, 0, none⟩) x0_1.length co6) x0_1 from (by (with_reducible repeat (first | apply Kd.R_alloc | apply Kd.R_drewN | apply Kd.R_drew)); exact HO_0.out))
                obtain ⟨ce14, hcl14, hM14, hcc14, hfr14⟩ := Kd.R_elem HX14.out z36 ((ji9) : Int) (of_decide_eq_true (by first | (with_reducible assumption) | assumption)) (by have h_ : ((ji9) : Int) < ((x0_1.length : Int) : Int) := of_decide_eq_true (by first | (with_reducible assumption) | assumption); first | exact h_ | (have e_ := (Kd.R_reads' HO_0.out).1; omega) | simpa using h_)
                obtain rfl := k36_openM hM14
                have HP14 := Kd.R_seg HX14.out ((ji9) : Int) (of_decide_eq_true (by first | (with_reducible assumption) | assumption)) (by have h_ : ((ji9) : Int) < ((x0_1.length : Int) : Int) := of_decide_eq_true (by first | (with_reducible assumption) | assumption); first | exact h_ | (have e_ := (Kd.R_reads' HO_0.out).1; omega) | simpa using h_) (seg := [.string a1, .int .i64 1]) (j := 0) hcl14 hcc14 (show 2 ≤ 2 from by decide) (x' := (⟨a1, 1⟩ : S36)) (k36_mkM _ _ _ (⟨a1, 1⟩ : S36) ) (fun _ hk => hk)
                have hx14_0 := hcc14 0 _ rfl
                (try simp only [show (k36).sz = 2 from rfl, Nat.mul_one, Nat.add_zero] at hx14_0)
                have hf14_0 := hfr14 0
                (try simp only [show (k36).sz = 2 from rfl, Nat.mul_one, Nat.add_zero] at hf14_0)
                have hx14_1 := hcc14 1 _ rfl
                (try simp only [show (k36).sz = 2 from rfl, Nat.mul_one, Nat.add_zero] at hx14_1)
                have hf14_1 := hfr14 1
                (try simp only [show (k36).sz = 2 from rfl, Nat.mul_one, Nat.add_zero] at hf14_1)
                clear hcl14 hcc14 hfr14 hM14
                go_wp2_with (first | ((with_reducible refine gate_store (t := 36) (p := 27) rfl ?_); refine store_event (t := 36) (p := 27) (v := ?vo_w15) (w1 := ((wr.setCell ⟨go13, ((ji9) : Int).toNat * 2, none⟩ (.string a1)).setCell ⟨go13, ((ji9) : Int).toNat * 2 + 1, none⟩ (.int .i64 1))) ?hg ?ho ?hn ?hr ?_; (case ho => rfl); (case hg => rfl); (case hn => rfl); (case hr => first | (go_simp; done) | (go_simp; rfl)); intro w15 hw; have hg : wr.grownBy w15 (some go13) := (by rw [hw]; exact HP14.2); have hp_ : Kd.R k36 36 w15 w0.heap.size (fun k_ => (P0_ k_ ∨ w.heap.size ≤ k_)) (.slice (some ⟨go13, 0, none⟩) x0_1.length co6) y177 := (by rw [hw, Ny177.out]; exact HP14.1); clear HP14; have n0_ := Aside0.mk (hp_); have n1_ := Aside0.mk ((by rw [hw]; exact below_set (below_set (HB.out) GB13.out) GB13.out : Below w0.heap.size w0 w15)); have n2_ := Aside0.mk (Kept.of_grown (S := (fun k_ => P0_ k_)) hg (by repeat (first | (with_reducible first | exact HK.out | apply Kept.alloc | apply Kept.drewN | apply Kept.drew) | exact HK.out)) (fun k_ e_ => (HO_0.out.1 k_ e_))); clear HO_0; clear HB; clear HK; have HO_0 := n0_; have HB := n1_; have HK := n2_; clear n0_ n1_ n2_; clear hg hw hp_))
                go_ret
                exact ⟨by first | rfl | (simp [errW_none, errW_some] <;> rfl) | (simp only [← hji9]; first | rfl | (simp [errW_none, errW_some] <;> rfl)) | (simp [*, errW_none, errW_some] <;> rfl), (by first | exact (by (with_reducible repeat (first | apply Kd.R_alloc | apply Kd.R_drewN | apply Kd.R_drew)); exact HO_0.out) | (simp only [hl0_1]; exact (by (with_reducible repeat (first | apply Kd.R_alloc | apply Kd.R_drewN | apply Kd.R_drew)); exact HO_0.out))), by repeat (first | (with_reducible first | exact HB.out | apply below_alloc | apply pw_below_drewN | apply below_drew1) | exact HB.out), by repeat (first | (with_reducible first | exact HK.out | apply Kept.alloc | apply Kept.drewN | apply Kept.drew) | exact HK.out)⟩
              · rw [if_neg c12] at H
                have c12b0 : (((rd_T36 x0_1 (ji9)).f1) == 0) = false := beq_eq_false_iff_ne.mpr c12
                have c12b1 : (((rd_T36 x0_1 (ji9)).f1) != 0) = true := bne_iff_ne.mpr c12
                replace H := Option.bind_eq_some_iff.mp H
                obtain ⟨t178, A160, H⟩ := H
                replace H : (impl_put.l0 k1 x0_1 a1 t178 (wrap64 (x13_1 + 1))) = some (r1, r2) := H
                have A16 := Aside0.mk A160
                clear A160
                have H' := Aside0.mk H
                clear H
                have p176 : 0 ≤ ((ji9) : Int) := of_decide_eq_true (by first | (with_reducible assumption) | assumption)
                have q176 : (ji9) < (x0_1.length : Int) := of_decide_eq_true (by first | (with_reducible assumption) | assumption)
                obtain ⟨ad176, e176, hx176_0, hx176_1⟩ := at_T36 (Kd.R_reads' HO_0.out).2.2 (ji9) p176 q176
                cases e176
                replace p176 := eq_true p176
                replace q176 := eq_true q176
                go_wp2_with (first | ((with_reducible refine gate_callee (f := 49) rfl ?_); refine goesL_ (some 30) rfl rfl Try.func49 (by kernel_rfl) rfl #[.int .i64 x5_1] rfl (by (try simp only [List.map_toArray, List.map_cons, List.map_nil]); first | done | rfl | (simp only [List.length_drop, List.length_take]; rfl)) ?_; (with_reducible refine (impl_TextNext.calls x5_1 t178 _ A16.out).mono ?_); rintro e w' ⟨rfl, ⟨nd, rfl⟩⟩; refine ⟨_, rfl, ?_⟩))
                (try simp only [← hl0_1])
                go_roundg k1
                case measure => have := HK1.out; omega
                case rel => exact ⟨(x0_1), (t178), (wrap64 (x13_1 + 1)), (by first | rfl | (simp; done) | (simp [*]; done) | (simp; first | exact Go.Proofs.YtjdkccpcgmgmmaaB.bne1 _ _ | exact Go.Proofs.YtjdkccpcgmgmmaaB.bne2 _ _ | exact Go.Proofs.YtjdkccpcgmgmmaaB.bne3 _ _ | exact Go.Proofs.YtjdkccpcgmgmmaaB.bne4 _ _)), (by first | rfl | (simp; done) | (simp [*]; done) | (simp; first | exact Go.Proofs.YtjdkccpcgmgmmaaB.bne1 _ _ | exact Go.Proofs.YtjdkccpcgmgmmaaB.bne2 _ _ | exact Go.Proofs.YtjdkccpcgmgmmaaB.bne3 _ _ | exact Go.Proofs.YtjdkccpcgmgmmaaB.bne4 _ _)), H', ⟨by have := HK1.out; omega⟩, ⟨by (try simp only [hl0_1]); (with_reducible repeat (first | apply Kd.R_alloc | apply Kd.R_drewN | apply Kd.R_drew)); exact HO_0.out⟩, ⟨by repeat (first | (with_reducible first | exact HK.out | apply Kept.alloc | apply Kept.drewN | apply Kept.drew) | exact HK.out)⟩, ⟨by repeat (first | (with_reducible first | exact HB.out | apply below_alloc | apply pw_below_drewN | apply below_drew1) | exact HB.out)⟩⟩
            · rw [if_neg c11] at H
              exact absurd H (by simp)
          · rw [if_neg c10] at H
            exact absurd H (by simp)
        · rw [if_neg c8] at H
          have c8b0 : decide (x13_1 < 8) = false := decide_eq_false c8
          clear c8
          simp only [Option.some.injEq, Prod.mk.injEq] at H
          obtain ⟨rfl, rfl⟩ := H
          go_wp2
          go_ret
          exact ⟨by first | rfl | (simp [errW_none, errW_some] <;> rfl) | (simp [errW_none, errW_some]; first | exact Go.Proofs.YtjdkccpcgmgmmaaB.emp1 _ | exact Go.Proofs.YtjdkccpcgmgmmaaB.emp2 _ | exact Go.Proofs.YtjdkccpcgmgmmaaB.emp3 _) | (simp [*, errW_none, errW_some] <;> rfl), (by first | exact (by (with_reducible repeat (first | apply Kd.R_alloc | apply Kd.R_drewN | apply Kd.R_drew)); exact HO_0.out) | (simp only [hl0_1]; exact (by (with_reducible repeat (first | apply Kd.R_alloc | apply Kd.R_drewN | apply Kd.R_drew)); exact HO_0.out))), by repeat (first | (with_reducible first | exact HB.out | apply below_alloc | apply pw_below_drewN | apply below_drew1) | exact HB.out), by repeat (first | (with_reducible first | exact HK.out | apply Kept.alloc | apply Kept.drewN | apply Kept.drew) | exact HK.out)⟩
  · rw [if_neg c4] at H
    have c4b0 : (t174 == 0) = false := beq_eq_false_iff_ne.mpr c4
    have c4b1 : (t174 != 0) = true := bne_iff_ne.mpr c4
    obtain ⟨ji17, hji17⟩ : ∃ j_ : Int, (wrap64 (t174 - 1)) = j_ := ⟨_, rfl⟩
    replace H : (if 0 ≤ (ji17) then (if (ji17) < (l0.length : Int) then (if ((rd_T36 l0 (ji17)).f1) = 99 then (some (0, l0)) else (some (t174, (l0.set ((ji17) : Int).toNat (⟨(rd_T36 l0 (ji17)).f0, wrap64 (((rd_T36 l0 (ji17)).f1) + 1)⟩ : S36))))) else (none)) else (none)) = some (r1, r2) := by first | (rw [hji17] at H; exact H) | (simp only [hji17] at H ⊢; exact H)
    (try rw [hji17] at A3)
    have hji17w : (IntKind.i64.wrap (t174 - 1)) = ji17 := (i64_w _).trans hji17
    by_cases c18 : 0 ≤ (ji17)
    · rw [if_pos c18] at H
      have c18b0 : decide (0 ≤ (ji17)) = true := decide_eq_true c18
      clear c18
      by_cases c19 : (ji17) < (l0.length : Int)
      · rw [if_pos c19] at H
        have c19b0 : decide ((ji17) < (l0.length : Int)) = true := decide_eq_true c19
        clear c19
        by_cases c20 : ((rd_T36 l0 (ji17)).f1) = 99
        · rw [if_pos c20] at H
          have c20b0 : (((rd_T36 l0 (ji17)).f1) == 99) = true := beq_iff_eq.mpr c20
          have c20b1 : (((rd_T36 l0 (ji17)).f1) != 99) = false := bne_eq_false_iff_eq.mpr c20
          clear c20
          simp only [Option.some.injEq, Prod.mk.injEq] at H
          obtain ⟨rfl, rfl⟩ := H
          obtain ⟨Ao21, co21, eo21⟩ := Kd.R_slice HO0.out
          subst eo21
          go_enter Try.func77, Try.ntmps77
          go_wp2_with (first | ((with_reducible refine gate_callee (f := 60) rfl ?_); refine goesL_ (some 8) rfl rfl Try.func60 (by kernel_rfl) rfl #[.slice Ao21 l0.length co21, .string a1] rfl (by (try simp only [List.map_toArray, List.map_cons, List.map_nil]); first | done | rfl | (simp only [List.length_drop, List.length_take]; rfl)) ?_; (with_reducible refine (impl_find.calls _ _ l0 a1 t174 _ ?side1 ?side2 A3.out).mono ?_); (case side1 => repeat (first | exact (Kd.R_reads' HO0.out).2.2 | (with_reducible refine Kd.C_alloc ?_ _) | (with_reducible refine Kd.C_drewN ?_ _) | (with_reducible refine Kd.C_drew ?_))); (case side2 => exact (Kd.R_reads' HO0.out).2.1); rintro e w22 ⟨rfl, hb⟩; refine ⟨_, rfl, ?_⟩; have n0_ := Aside0.mk (Kd.R_below (by (with_reducible repeat (first | apply Kd.R_alloc | apply Kd.R_drewN | apply Kd.R_drew)); exact HO0.out) hb); have n1_ := Aside0.mk (Kept.below (S := (fun k_ => P0_ k_)) (by repeat (first | (with_reducible first | exact HK.out | apply Kept.alloc | apply Kept.drewN | apply Kept.drew) | exact HK.out)) hb); have n2_ := Aside0.mk (below_step (by repeat (first | (with_reducible first | exact HB.out | apply below_alloc | apply pw_below_drewN | apply below_drew1) | exact HB.out)) hb); clear HO0; clear HK; clear HB; have HO0 := n0_; have HK := n1_; have HB := n2_; clear n0_ n1_ n2_; (try clear hb); (try clear hb2); (try clear hk); (try clear hi); have p179 : 0 ≤ ((ji17) : Int) := of_decide_eq_true (by first | (with_reducible assumption) | assumption); have q179 : (ji17) < (l0.length : Int) := of_decide_eq_true (by first | (with_reducible assumption) | assumption); obtain ⟨ad179, e179, hx179_0, hx179_1⟩ := at_T36 (Kd.R_reads' HO0.out).2.2 (ji17) p179 q179; cases e179; replace p179 := eq_true p179; replace q179 := eq_true q179))
          go_ret
          exact ⟨by first | rfl | (simp [errW_none, errW_some] <;> rfl) | (simp only [← hji17]; first | rfl | (simp [errW_none, errW_some] <;> rfl)) | (simp [*, errW_none, errW_some] <;> rfl), by (with_reducible repeat (first | apply Kd.R_alloc | apply Kd.R_drewN | apply Kd.R_drew)); exact HO0.out, by repeat (first | (with_reducible first | exact HB.out | apply below_alloc | apply pw_below_drewN | apply below_drew1) | exact HB.out), by repeat (first | (with_reducible first | exact HK.out | apply Kept.alloc | apply Kept.drewN | apply Kept.drew) | exact HK.out)⟩
        · rw [if_neg c20] at H
          have c20b0 : (((rd_T36 l0 (ji17)).f1) == 99) = false := beq_eq_false_iff_ne.mpr c20
          have c20b1 : (((rd_T36 l0 (ji17)).f1) != 99) = true := bne_iff_ne.mpr c20
          obtain ⟨y181, hy181⟩ : ∃ y_ : List (S36), y_ = (l0.set ((ji17) : Int).toNat (⟨(rd_T36 l0 (ji17)).f0, wrap64 (((rd_T36 l0 (ji17)).f1) + 1)⟩ : S36)) := ⟨_, rfl⟩
          replace H : (some (t174, y181)) = some (r1, r2) := by first | (rw [hy181]; with_reducible exact H) | (have H2_ := (Option.bind_some _ _).symm.trans H; rw [hy181]; with_reducible exact H2_) | (have H2_ := (Option.bind_some _ _).symm.trans H; with_reducible exact H2_) | with_reducible exact H | (rw [hy181]; exact H) | exact H
          have Ny181 := Aside0.mk hy181
          clear hy181
          simp only [Option.some.injEq, Prod.mk.injEq] at H
          obtain ⟨rfl, rfl⟩ := H
          obtain ⟨Ao24, co24, eo24⟩ := Kd.R_slice HO0.out
          subst eo24
          go_enter Try.func77, Try.ntmps77
          go_wp2_with (first | ((with_reducible refine gate_callee (f := 60) rfl ?_); refine goesL_ (some 8) rfl rfl Try.func60 (by kernel_rfl) rfl #[.slice Ao24 l0.length co24, .string a1] rfl (by (try simp only [List.map_toArray, List.map_cons, List.map_nil]); first | done | rfl | (simp only [List.length_drop, List.length_take]; rfl)) ?_; (with_reducible refine (impl_find.calls _ _ l0 a1 t174 _ ?side1 ?side2 A3.out).mono ?_); (case side1 => repeat (first | exact (Kd.R_reads' HO0.out).2.2 | (with_reducible refine Kd.C_alloc ?_ _) | (with_reducible refine Kd.C_drewN ?_ _) | (with_reducible refine Kd.C_drew ?_))); (case side2 => exact (Kd.R_reads' HO0.out).2.1); rintro e w25 ⟨rfl, hb⟩; refine ⟨_, rfl, ?_⟩; have n0_ := Aside0.mk (Kd.R_below (by (with_reducible repeat (first | apply Kd.R_alloc | apply Kd.R_drewN | apply Kd.R_drew)); exact HO0.out) hb); have n1_ := Aside0.mk (Kept.below (S := (fun k_ => P0_ k_)) (by repeat (first | (with_reducible first | exact HK.out | apply Kept.alloc | apply Kept.drewN | apply Kept.drew) | exact HK.out)) hb); have n2_ := Aside0.mk (below_step (by repeat (first | (with_reducible first | exact HB.out | apply below_alloc | apply pw_below_drewN | apply below_drew1) | exact HB.out)) hb); clear HO0; clear HK; clear HB; have HO0 := n0_; have HK := n1_; have HB := n2_; clear n0_ n1_ n2_; (try clear hb); (try clear hb2); (try clear hk); (try clear hi); have p179 : 0 ≤ ((ji17) : Int) := of_decide_eq_true (by first | (with_reducible assumption) | assumption); have q179 : (ji17) < (l0.length : Int) := of_decide_eq_true (by first | (with_reducible assumption) | assumption); obtain ⟨ad179, e179, hx179_0, hx179_1⟩ := at_T36 (Kd.R_reads' HO0.out).2.2 (ji17) p179 q179; cases e179; replace p179 := eq_true p179; replace q179 := eq_true q179; have p180 : 0 ≤ ((ji17) : Int) := of_decide_eq_true (by first | (with_reducible assumption) | assumption); have q180 : (ji17) < (l0.length : Int) := of_decide_eq_true (by first | (with_reducible assumption) | assumption); obtain ⟨ad180, e180, hx180_0, hx180_1⟩ := at_T36 (Kd.R_reads' HO0.out).2.2 (ji17) p180 q180; obtain rfl : ad179 = ad180 := (by injection e180); replace p180 := eq_true p180; replace q180 := eq_true q180; have p23 : 0 ≤ ((ji17) : Int) := of_decide_eq_true (by first | (with_reducible assumption) | assumption); have q23 : ((ji17) : Int) < ((l0.length : Int) : Int) := of_decide_eq_true (by first | (with_reducible assumption) | assumption); obtain ⟨go23, co23, eo23, gb23, gl23, cl23, HG23⟩ := Kd.R_form HO0.out (by omega); (first | cases eo23 | (injection eo23 with ea_ en_ ec_; (first | subst ea_ | (injection ea_ with ea_; subst ea_)); subst ec_; clear en_)); have GB23 := Aside0.mk gb23; have GG23 := Aside0.mk HG23; clear gb23 gl23 HG23; have HMgo23 := Aside0.mk (show (P0_ go23 ∨ w.heap.size ≤ go23) from (HO0.out.1 _ rfl)); (first | simp only [add_plain] at hx179_0 | skip); (first | simp only [add_plain] at hx179_1 | skip); (first | simp only [add_plain] at hx180_0 | skip); (first | simp only [add_plain] at hx180_1 | skip); obtain ⟨ce23, hcl23, hM23, hcc23, hfr23⟩ := Kd.R_elem HO0.out z36 ((ji17) : Int) p23 q23; obtain rfl := k36_openM hM23; have hx23_0 : w25.cell? ⟨go23, ((ji17) : Int).toNat * 2, none⟩ = some (.string ((rd_T36 l0 (ji17)).f0)) := hcc23 0 _ rfl; have hx23_1 : w25.cell? ⟨go23, ((ji17) : Int).toNat * 2 + 1, none⟩ = some (.int .i64 ((rd_T36 l0 (ji17)).f1)) := hcc23 1 _ rfl; have hf23_0 : w25.frozen? ⟨go23, ((ji17) : Int).toNat * 2, none⟩ = false := hfr23 0; have hf23_1 : w25.frozen? ⟨go23, ((ji17) : Int).toNat * 2 + 1, none⟩ = false := hfr23 1; clear hcl23 hcc23 hfr23 hM23; replace p23 := eq_true p23; replace q23 := eq_true q23; have HX26 := Aside0.mk (show Kd.R k36 36 w25 w0.heap.size (fun k_ => (P0_ k_ ∨ w.heap.size ≤ k_)) (.slice (some ⟨go23, 0, none⟩) l0.length co24) l0 from (by (with_reducible repeat (first | apply Kd.R_alloc | apply Kd.R_drewN | apply Kd.R_drew)); exact HO0.out)); obtain ⟨ce26, hcl26, hM26, hcc26, hfr26⟩ := Kd.R_elem HX26.out z36 ((ji17) : Int) (of_decide_eq_true (by first | (with_reducible assumption) | assumption)) (by have h_ : ((ji17) : Int) < ((l0.length : Int) : Int) := of_decide_eq_true (by first | (with_reducible assumption) | assumption); first | exact h_ | (have e_ := (Kd.R_reads' HO0.out).1; omega) | simpa using h_); obtain rfl := k36_openM hM26; have HP26 := Kd.R_seg HX26.out ((ji17) : Int) (of_decide_eq_true (by first | (with_reducible assumption) | assumption)) (by have h_ : ((ji17) : Int) < ((l0.length : Int) : Int) := of_decide_eq_true (by first | (with_reducible assumption) | assumption); first | exact h_ | (have e_ := (Kd.R_reads' HO0.out).1; omega) | simpa using h_) (seg := [.int .i64 (wrap64 (((rd_T36 l0 (ji17)).f1) + 1))]) (j := 1) hcl26 hcc26 (show 2 ≤ 2 from by decide) (x' := (⟨(rd_T36 l0 (ji17)).f0, wrap64 (((rd_T36 l0 (ji17)).f1) + 1)⟩ : S36)) (k36_mkM _ _ _ (⟨(rd_T36 l0 (ji17)).f0, wrap64 (((rd_T36 l0 (ji17)).f1) + 1)⟩ : S36) ) (fun _ hk => hk); have hx26_1 := hcc26 1 _ rfl; (try simp only [show (k36).sz = 2 from rfl, Nat.mul_one, Nat.add_zero] at hx26_1); have hf26_1 := hfr26 1; (try simp only [show (k36).sz = 2 from rfl, Nat.mul_one, Nat.add_zero] at hf26_1); clear hcl26 hcc26 hfr26 hM26) | ((with_reducible refine gate_store (t := 3) (p := 47) rfl ?_); refine store_event (t := 3) (p := 47) (v := ?vo_w27) (w1 := (w25.setCell ⟨go23, ((ji17) : Int).toNat * 2 + 1, none⟩ (.int .i64 (wrap64 (((rd_T36 l0 (ji17)).f1) + 1))))) ?hg ?ho ?hn ?hr ?_; (case ho => rfl); (case hg => rfl); (case hn => rfl); (case hr => first | (go_simp; done) | (go_simp; rfl)); intro w27 hw; have hg : w25.grownBy w27 (some go23) := (by rw [hw]; exact HP26.2); have hp_ : Kd.R k36 36 w27 w0.heap.size (fun k_ => (P0_ k_ ∨ w.heap.size ≤ k_)) (.slice (some ⟨go23, 0, none⟩) l0.length co24) y181 := (by rw [hw, Ny181.out]; exact HP26.1); clear HP26; have n0_ := Aside0.mk (hp_); have n1_ := Aside0.mk ((by rw [hw]; exact below_set (HB.out) GB23.out : Below w0.heap.size w0 w27)); have n2_ := Aside0.mk (Kept.of_grown (S := (fun k_ => P0_ k_)) hg (by repeat (first | (with_reducible first | exact HK.out | apply Kept.alloc | apply Kept.drewN | apply Kept.drew) | exact HK.out)) (fun k_ e_ => (HO0.out.1 k_ e_))); clear HO0; clear HB; clear HK; have HO0 := n0_; have HB := n1_; have HK := n2_; clear n0_ n1_ n2_; clear hg hw hp_))
          go_ret
          exact ⟨by first | rfl | (simp [errW_none, errW_some] <;> rfl) | (simp only [← hji17]; first | rfl | (simp [errW_none, errW_some] <;> rfl)) | (simp [*, errW_none, errW_some] <;> rfl), by (with_reducible repeat (first | apply Kd.R_alloc | apply Kd.R_drewN | apply Kd.R_drew)); exact HO0.out, by repeat (first | (with_reducible first | exact HB.out | apply below_alloc | apply pw_below_drewN | apply below_drew1) | exact HB.out), by repeat (first | (with_reducible first | exact HK.out | apply Kept.alloc | apply Kept.drewN | apply Kept.drew) | exact HK.out)⟩
      · rw [if_neg c19] at H
        exact absurd H (by simp)
    · rw [if_neg c18] at H
      exact absurd H (by simp)

/-! ### impl_StorePut: function 46 -/
def impl_StorePut.f (k : Nat) (l0 : List (S36)) (a1 : ByteArray) : Option ((List (S36)) × Int × Bool) := (impl_isAsked.f k l0 a1).bind fun t182 => (if t182 = true then ((impl_Slot_67.f l0).bind fun t183 => ((impl_put.f k t183 a1).bind fun bt186 => (some (bt186.2, bt186.1, decide (bt186.1 > 0))))) else (some (([] : List (S36)), 0, false)))
theorem impl_StorePut.mono : ∀ a0 a1 k, LeO (impl_StorePut.f k a0 a1) (impl_StorePut.f (k + 1) a0 a1) := by
  intro a0 a1 k
  unfold impl_StorePut.f
  repeat' first
      | (with_reducible exact impl_isAsked.mono _ _ _)
      | (with_reducible exact impl_put.mono _ _ _)
      | (with_reducible exact LeO.refl _)
      | (with_reducible exact LeO.none _)
      | (with_reducible refine LeO.ite ?_ ?_)
      | (with_reducible refine LeO.bind ?_ (fun _ => ?_))
      | exact impl_isAsked.mono _ _ _
      | exact impl_put.mono _ _ _
      | exact LeO.none _
      | refine LeO.ite ?_ ?_
      | refine LeO.bind ?_ (fun _ => ?_)
set_option maxHeartbeats 8000000 in
set_option maxRecDepth 100000 in
theorem impl_StorePut.calls (k : Nat) (A0 : Option Addr) (c0 : Nat) (l0 : List (S36)) (a1 : ByteArray) (r1 : List (S36)) (r2 : Int) (r3 : Bool) (w : World) (hr0 : Kd.C k36 w A0 l0.length l0) (hc0 : l0.length ≤ c0) (h : impl_StorePut.f k l0 a1 = some (r1, r2, r3)) :
    Calls Try.prog 46 #[.slice A0 l0.length c0, .string a1] w fun e w' => ∃ v0_ : Value, e = .returned (.tuple #[v0_, .int .i64 r2, .bool r3]) ∧ Kd.R k36 36 w' w.heap.size (fun _ => True) v0_ r1 ∧ Below w.heap.size w w' := by
  have HR0 := Aside0.mk hr0
  have HC0 := Aside0.mk hc0
  clear hr0 hc0
  have HB := Aside0.mk (Below.refl w.heap.size w)
  have H : ((impl_isAsked.f k l0 a1).bind fun t182 => (if t182 = true then ((impl_Slot_67.f l0).bind fun t183 => ((impl_put.f k t183 a1).bind fun bt186 => (some (bt186.2, bt186.1, decide (bt186.1 > 0))))) else (some (([] : List (S36)), 0, false)))) = some (r1, r2, r3) := h
  clear h
  replace H := Option.bind_eq_some_iff.mp H
  obtain ⟨t182, A30, H⟩ := H
  replace H : (if t182 = true then ((impl_Slot_67.f l0).bind fun t183 => ((impl_put.f k t183 a1).bind fun bt186 => (some (bt186.2, bt186.1, decide (bt186.1 > 0))))) else (some (([] : List (S36)), 0, false))) = some (r1, r2, r3) := H
  have A3 := Aside0.mk A30
  clear A30
  by_cases c4 : t182 = true
  · subst c4
    have H1 : ((impl_Slot_67.f l0).bind fun t183 => ((impl_put.f k t183 a1).bind fun bt186 => (some (bt186.2, bt186.1, decide (bt186.1 > 0))))) = some (r1, r2, r3) := by rw [if_pos rfl] at H; exact H
    clear H
    have H := H1
    clear H1
    replace H := Option.bind_eq_some_iff.mp H
    obtain ⟨t183, A50, H⟩ := H
    replace H : ((impl_put.f k t183 a1).bind fun bt186 => (some (bt186.2, bt186.1, decide (bt186.1 > 0)))) = some (r1, r2, r3) := H
    have A5 := Aside0.mk A50
    clear A50
    replace H := Option.bind_eq_some_iff.mp H
    obtain ⟨⟨t186, t187⟩, A60, H⟩ := H
    replace H : (some (t187, t186, decide (t186 > 0))) = some (r1, r2, r3) := H
    have A6 := Aside0.mk A60
    clear A60
    simp only [Option.some.injEq, Prod.mk.injEq] at H
    obtain ⟨rfl, rfl, rfl⟩ := H
    go_enter Try.func46, Try.ntmps46
    go_wp2_with (first | ((with_reducible refine gate_callee (f := 59) rfl ?_); refine goesL_ (some 11) rfl rfl Try.func59 (by kernel_rfl) rfl #[.slice A0 l0.length c0, .string a1] rfl (by (try simp only [List.map_toArray, List.map_cons, List.map_nil]); first | done | rfl | (simp only [List.length_drop, List.length_take]; rfl)) ?_; (with_reducible refine (impl_isAsked.calls k _ _ l0 a1 true _ ?side1 ?side2 A3.out).mono ?_); (case side1 => repeat (first | exact HR0.out | (with_reducible refine Kd.C_alloc ?_ _) | (with_reducible refine Kd.C_drewN ?_ _) | (with_reducible refine Kd.C_drew ?_))); (case side2 => exact HC0.out); rintro e w7 ⟨rfl, hb⟩; refine ⟨_, rfl, ?_⟩; have n0_ := Aside0.mk (below_step (by repeat (first | (with_reducible first | exact HB.out | apply below_alloc | apply pw_below_drewN | apply below_drew1) | exact HB.out)) hb); clear HB; have HB := n0_; clear n0_; (try clear hb); (try clear hb2); (try clear hk); (try clear hi)) | ((with_reducible refine gate_callee (f := 67) rfl ?_); refine goesL_ (some 14) rfl rfl Try.func67 (by kernel_rfl) rfl #[.slice A0 l0.length c0] rfl (by (try simp only [List.map_toArray, List.map_cons, List.map_nil]); first | done | rfl | (simp only [List.length_drop, List.length_take]; rfl)) ?_; (with_reducible refine (impl_Slot_67.calls _ _ l0 t183 _ ?side1 ?side2 A5.out).mono ?_); (case side1 => repeat (first | exact (Kd.C_below HR0.out HB.out) | (with_reducible refine Kd.C_alloc ?_ _) | (with_reducible refine Kd.C_drewN ?_ _) | (with_reducible refine Kd.C_drew ?_))); (case side2 => exact HC0.out); rintro e w8 ⟨v184, rfl, ho0, hb⟩; refine ⟨_, rfl, ?_⟩; have n0_ := Aside0.mk (Kd.R_lower ho0 (below_size (by repeat (first | (with_reducible first | exact HB.out | apply below_alloc | apply pw_below_drewN | apply below_drew1) | exact HB.out)))); have n1_ := Aside0.mk (below_step (by repeat (first | (with_reducible first | exact HB.out | apply below_alloc | apply pw_below_drewN | apply below_drew1) | exact HB.out)) hb); clear HB; have HO185 := n0_; have HB := n1_; clear n0_ n1_; (try clear hb); (try clear hb2); (try clear hk); (try clear hi); (try clear ho0); obtain ⟨Ao9, co9, eo9⟩ := Kd.R_slice HO185.out; subst eo9) | ((with_reducible refine gate_callee (f := 77) rfl ?_); refine goesL_ (some 17) rfl rfl Try.func77 (by kernel_rfl) rfl #[.slice Ao9 t183.length co9, .string a1] rfl (by (try simp only [List.map_toArray, List.map_cons, List.map_nil]); first | done | rfl | (simp only [List.length_drop, List.length_take]; rfl)) ?_; (with_reducible refine (impl_put.calls k (fun k_ => some k_ = (.slice Ao9 t183.length co9 : Value).ownBlock) (.slice Ao9 t183.length co9) t183 a1 t186 t187 w _ ?side1 ?side2 A6.out).mono ?_); (case side1 => repeat (first | (with_reducible first | exact HB.out | apply below_alloc | apply pw_below_drewN | apply below_drew1) | exact HB.out)); (case side2 => exact Kd.R_tight rfl HO185.out); rintro e w10 ⟨rfl, hy0, hb, hkp⟩; refine ⟨_, rfl, ?_⟩; have n0_ := Aside0.mk (Kd.R_reok rfl hy0 (fun k_ e_ => HO185.out.1 k_ e_)); have n1_ := Aside0.mk (hb); clear HO185; clear HB; have HO185 := n0_; have HB := n1_; clear n0_ n1_; (try clear hb); (try clear hkp); (try clear hy0)))
    go_ret3
    exact ⟨_, by first | rfl | (simp [errW_none, errW_some] <;> rfl) | (simp [*, errW_none, errW_some] <;> rfl), by (with_reducible repeat (first | apply Kd.R_alloc | apply Kd.R_drewN | apply Kd.R_drew)); exact HO185.out, by repeat (first | (with_reducible first | exact HB.out | apply below_alloc | apply pw_below_drewN | apply below_drew1) | exact HB.out)⟩
  · replace c4 := Bool.eq_false_iff.mpr c4
    subst c4
    have H1 : (some (([] : List (S36)), 0, false)) = some (r1, r2, r3) := by rw [if_neg (show ¬ (false = true) by decide)] at H; exact H
    clear H
    have H := H1
    clear H1
    simp only [Option.some.injEq, Prod.mk.injEq] at H
    obtain ⟨rfl, rfl, rfl⟩ := H
    go_enter Try.func46, Try.ntmps46
    go_wp2_with (first | ((with_reducible refine gate_callee (f := 59) rfl ?_); refine goesL_ (some 11) rfl rfl Try.func59 (by kernel_rfl) rfl #[.slice A0 l0.length c0, .string a1] rfl (by (try simp only [List.map_toArray, List.map_cons, List.map_nil]); first | done | rfl | (simp only [List.length_drop, List.length_take]; rfl)) ?_; (with_reducible refine (impl_isAsked.calls k _ _ l0 a1 false _ ?side1 ?side2 A3.out).mono ?_); (case side1 => repeat (first | exact HR0.out | (with_reducible refine Kd.C_alloc ?_ _) | (with_reducible refine Kd.C_drewN ?_ _) | (with_reducible refine Kd.C_drew ?_))); (case side2 => exact HC0.out); rintro e w11 ⟨rfl, hb⟩; refine ⟨_, rfl, ?_⟩; have n0_ := Aside0.mk (below_step (by repeat (first | (with_reducible first | exact HB.out | apply below_alloc | apply pw_below_drewN | apply below_drew1) | exact HB.out)) hb); clear HB; have HB := n0_; clear n0_; (try clear hb); (try clear hb2); (try clear hk); (try clear hi)))
    go_ret3
    exact ⟨_, by first | rfl | (simp [errW_none, errW_some] <;> rfl) | (simp [*, errW_none, errW_some] <;> rfl), by first | exact Kd.R_nil _ _ _ _ _ | exact Kd.N_nil _ _ _ _ _ | exact Kd.V_nil _ _ _ _ _ | exact Kd.Q_nil _ _ _ _ _ | exact Kd.S_nil _ _ _ _ _, by repeat (first | (with_reducible first | exact HB.out | apply below_alloc | apply pw_below_drewN | apply below_drew1) | exact HB.out)⟩

end Go.Proofs.Ytjdkccpcgmgmmaa.PFnExactStorePut
