/- The walk: each function that the law comes to as a plain Lean function, and a proof that the Go code answers so. Written by this session's program over the kit's printer. -/
import Derived.Test.YtooamacekmjpaaaZ
import Derived.Test.YtooamacekmjpaaaQFnReadOnly0
import Derived.Test.YtooamacekmjpaaaQFnReadOnly5
namespace Go.Proofs.Ytooamacekmjpaaa.PFnReadOnly
open Go.RowKit Go.Proofs.YtooamacekmjpaaaW.PrintWords Go.Proofs.YtooamacekmjpaaaW.PrintLast Go.Proofs.YtooamacekmjpaaaW.PrintMore
attribute [local go_sem] max2_int min2_int max_two min_two max_three min_three max_four min_four   -- for this text's walks alone
set_option linter.unusedVariables false
set_option linter.unusedSimpArgs false
/-! ### impl_StoreOk: function 45 -/
/-- 'o.Text == x.Text', x in the block B of the caller's. -/
theorem ok_pred (t : ByteArray) (u : Int) (B : Nat) (w : World) (hB : B < w.heap.size) (hcell : w.cell? ⟨B, 0, none⟩ = some (.string t)) :
 PredBelow Try.prog 70 #[.pointer (some ⟨B, 0, none⟩)] (fun x => .agg (encSlot x).toArray) (fun x => x.f0.toList == t.toList) w := fun W x hb => by
 have hc : W.cell? ⟨B, 0, none⟩ = some (.string t) := (hb.cell (p := ⟨B, 0, none⟩) hB).trans hcell
 have hBW : B < W.heap.size := Nat.lt_of_lt_of_le hB hb.size
 have hne : B ≠ W.heap.size := by omega
 show Calls Try.prog 70 #[.agg #[.string x.f0, .int .i64 x.f1], .pointer (some ⟨B, 0, none⟩)] W _
 go_enter Try.func70, Try.ntmps70
 go_wp2
 all_goals (go_ret; exact ⟨by first | rfl | simp_all, hb.alloc hb.size _⟩)
def impl_StoreOk.l0 : Nat → List (S55) → Int → Option (Bool)
 | 0, _, _ => none
 | k + 1, x0, x7 => if x7 < (x0.length : Int) then (if 0 ≤ x7 then ((impl_TextOk.f k ((rd_T55 x0 x7).f0)).bind fun t1 => (if t1 = true then ((impl_within.f ((rd_T55 x0 x7).f1) 0 99).bind fun t2 => (if t2 = true then (if ((((rd_T55 x0 x7).f0).toList == ([] : List UInt8)) != (((rd_T55 x0 x7).f1) == 0)) = true then (some false) else (if (((rd_T55 x0 x7).f0).toList == ([] : List UInt8)) = true then (impl_StoreOk.l0 k x0 (wrap64 (x7 + 1))) else (if (x0.take x7.toNat).any (fun o => o.f0.toList == ((rd_T55 x0 x7).f0).toList) = true then (some false) else (impl_StoreOk.l0 k x0 (wrap64 (x7 + 1)))))) else (some false))) else (some false))) else (none)) else (some ((x0.length : Int) == 8))
def impl_StoreOk.f (k : Nat) (l0 : List (S55)) : Option (Bool) := impl_StoreOk.l0 k l0 0
theorem impl_StoreOk.mono_l : ∀ k, (∀ y0 y1, LeO (impl_StoreOk.l0 k y0 y1) (impl_StoreOk.l0 (k + 1) y0 y1))
 | 0 => fun _ _ r h => by simp [impl_StoreOk.l0] at h
 | k + 1 => by
  have ih0 := impl_StoreOk.mono_l k
  intro y0 y1
  unfold impl_StoreOk.l0
  exact mo2 ih0 @impl_TextOk.mono
theorem impl_StoreOk.mono : ∀ a0 k, LeO (impl_StoreOk.f k a0) (impl_StoreOk.f (k + 1) a0) := by
 intro a0 k
 have ih0 := impl_StoreOk.mono_l k
 unfold impl_StoreOk.f
 exact ih0 _ _
set_option maxHeartbeats 8000000 in
set_option maxRecDepth 100000 in
theorem impl_StoreOk.calls (k : Nat) (A0 : Option Addr) (c0 : Nat) (l0 : List (S55)) (r : Bool) (w : World) (hr0 : Kd.C k55 w A0 l0.length l0) (hc0 : l0.length ≤ c0) (h : impl_StoreOk.f k l0 = some r) :
 Calls Try.prog 45 #[.slice A0 l0.length c0] w fun e w' => e = .returned (.bool r) ∧ Below w.heap.size w w' := by
 have HR0 := am hr0
 have HC0 := am hc0
 clear hr0 hc0
 have HB := am (Below.refl w.heap.size w)
 have H : (impl_StoreOk.l0 k l0 0) = some r := h
 clear h
 have H' := am H
 clear H
 have EG := am (show ∀ args w, (callFunc 70 args).run Try.prog w = .ok (.enter 70 args) w from enters_of Try.func70 (by kernel_rfl) rfl)
 obtain ⟨i0, hi0, _, hsz, _⟩ := info_parts (show (Try.prog.info? 55).map (fun i => (i.zero, i.size, i.bytes)) = some (some (.agg #[(.string ⟨#[]⟩), (.int .i64 0)]), 2, 24) from by kernel_rfl)
 have HCUT := am (fun (x : Int) (h0 : 0 ≤ x) (h1 : x ≤ (l0.length : Int)) => cut_to (P := Try.prog) 28 55 .i64 Try.underlying28 hi0 A0 l0.length c0 x h0 h1 HC0.out)
 clear hi0 hsz
 go_enter Try.func45, Try.ntmps45
 go_wp2
 go_loopg [7] k (fun kq v7 w' => ∃ (x7_1 : Int), v7 = .int .i64 x7_1 ∧ Aside0 (impl_StoreOk.l0 kq l0 x7_1 = some r) ∧ Aside0 (kq ≤ k) ∧ Aside0 (Below w.heap.size w w'))
 case atStart => exact ⟨(0), rfl, H', ⟨Nat.le_refl _⟩, HB⟩
 case round =>
  clear H'
  obtain ⟨x7_1, rfl, HA, HK1, HB⟩ := hrel
  cases gk with
  | zero => exact absurd HA.out (by simp [impl_StoreOk.l0])
  | succ k1 =>
   have H := HA.out
   clear HA
   simp only [impl_StoreOk.l0] at H
   by_cases c3 : x7_1 < (l0.length : Int)
   rotate_left
   · rw [if_neg c3] at H
     have c3b0 : decide (x7_1 < (l0.length : Int)) = false := decide_eq_false c3
     clear c3
     obtain rfl := Option.some.inj H
     go_wp2
     go_ret
     exact ⟨by first | rfl | (simp; done) | (simp [*]; done), HB.out⟩
   rw [if_pos c3] at H
   by_cases c4 : 0 ≤ x7_1
   rotate_left
   · rw [if_neg c4] at H
     exact absurd H (by simp)
   rw [if_pos c4] at H
   obtain ⟨ad, e, hx0, hx1⟩ := at_T55 HR0.out x7_1 c4 c3
   cases e
   have hcut := HCUT.out x7_1 c4 (Int.le_of_lt c3)
   replace hx0 := hcx HB hx0
   replace hx1 := hcx HB hx1
   have HTK := am (Kd.C_below (Kd.C_take (m := x7_1.toNat) HR0.out (by omega)) HB.out)
   have HTL := am (show (l0.take x7_1.toNat).length = x7_1.toNat from by rw [List.length_take]; omega)
   have c3b0 : decide (x7_1 < (l0.length : Int)) = true := decide_eq_true c3
   have c4b0 : decide (0 ≤ x7_1) = true := decide_eq_true c4
   have HCON : Aside0 (∀ (u : Int) (W : World) (B : Nat), Below w.heap.size w W → B < W.heap.size → W.cell? ⟨B, 0, none⟩ = some (.string (rd_T55 l0 x7_1).f0) → Calls Try.prog 69 #[.slice (some ad) x7_1.toNat c0, .func (.func 70) #[] #[.pointer (some ⟨B, 0, none⟩)]] W fun e w' => e = .returned (.bool ((l0.take x7_1.toNat).any (fun o => o.f0.toList == ((rd_T55 l0 x7_1).f0).toList))) ∧ Below W.heap.size W w') := ⟨fun u W B hbW hBW hcW => by
    have := con_calls (fun o => o.f0.toList == ((rd_T55 l0 x7_1).f0).toList) 70 #[.pointer (some ⟨B, 0, none⟩)] EG.out (some ad) c0 (l0.take x7_1.toNat) W (Kd.C_below (Kd.C_take (m := x7_1.toNat) HR0.out (by omega)) hbW) (ok_pred _ u B W hBW hcW)
    rw [HTL.out] at this
    exact this⟩
   generalize hg0 : (rd_T55 l0 x7_1).f0 = g0 at H hx0 HCON
   generalize hg1 : (rd_T55 l0 x7_1).f1 = g1 at H hx1
   clear hg0 hg1
   replace H := obs H
   obtain ⟨t1, A1, H⟩ := H
   have A1' := am A1
   clear A1 c3 c4
   have p4 : 0 ≤ x7_1 := of_decide_eq_true c4b0
   have q4 : x7_1 < (l0.length : Int) := of_decide_eq_true c3b0
   replace p4 := eq_true p4
   replace q4 := eq_true q4
   cases t1 with
   | false =>
    rw [if_neg (by decide)] at H
    obtain rfl := Option.some.inj H
    go_wp2_with (first | (go_at_call 68; (with_reducible refine (impl_TextOk.calls k1 g0 false _ A1'.out).mono ?_); rintro e w' ⟨rfl, ⟨nd, rfl⟩⟩))
    go_ret
    exact ⟨by first | rfl | (simp; done) | (simp [*]; done), (zb HB)⟩
   | true =>
    rw [if_pos rfl] at H
    replace H := obs H
    obtain ⟨t2, A2, H⟩ := H
    have A2' := am A2
    clear A2
    cases t2 with
    | false =>
     rw [if_neg (by decide)] at H
     obtain rfl := Option.some.inj H
     go_wp2_with (first | (go_at_call 68; (with_reducible refine (impl_TextOk.calls k1 g0 true _ A1'.out).mono ?_); rintro e w' ⟨rfl, ⟨nd, rfl⟩⟩) | (go_at_call 53; (with_reducible refine (impl_within.calls g1 0 99 false _ A2'.out).mono ?_); rintro e w' ⟨rfl, ⟨nd, rfl⟩⟩))
     go_ret
     exact ⟨by first | rfl | (simp; done) | (simp [*]; done), (zb HB)⟩
    | true =>
     rw [if_pos rfl] at H
     obtain ⟨be, hbe⟩ : ∃ b, (g0.toList == ([] : List UInt8)) = b := ⟨_, rfl⟩
     obtain ⟨bu, hbu⟩ : ∃ b, (g1 == 0) = b := ⟨_, rfl⟩
     have hbn : (g0.toList != ([] : List UInt8)) = !be := by rw [bne, hbe]
     rw [hbe, hbu] at H
     cases be <;> cases bu
     · rw [if_neg (by decide), if_neg (by decide)] at H
       by_cases c8 : (l0.take x7_1.toNat).any (fun o => o.f0.toList == g0.toList) = true
       · rw [if_pos c8] at H
         rw [c8] at HCON
         clear c8
         obtain rfl := Option.some.inj H
         go_wp2_with (first | (go_at_call 68; (with_reducible refine (impl_TextOk.calls k1 g0 true _ A1'.out).mono ?_); rintro e w' ⟨rfl, ⟨nd, rfl⟩⟩) | (go_at_call 53; (with_reducible refine (impl_within.calls g1 0 99 true _ A2'.out).mono ?_); rintro e w' ⟨rfl, ⟨nd, rfl⟩⟩) | (go_at_call 69; (refine (HCON.out g1 _ wr.heap.size (zb HB) (by simp) (by simp)).mono ?_); rintro e w' ⟨rfl, hb2⟩))
         go_ret
         exact ⟨by first | rfl | (simp; done) | (simp [*]; done), (fun h => below_then h h.size hb2) (pw_below_drewN (below_alloc HB.out _) _)⟩
       rw [if_neg c8] at H
       replace c8 := Bool.eq_false_iff.mpr c8
       rw [c8] at HCON
       clear c8
       have H' := am H
       clear H
       go_wp2_with (first | (go_at_call 68; (with_reducible refine (impl_TextOk.calls k1 g0 true _ A1'.out).mono ?_); rintro e w' ⟨rfl, ⟨nd, rfl⟩⟩) | (go_at_call 53; (with_reducible refine (impl_within.calls g1 0 99 true _ A2'.out).mono ?_); rintro e w' ⟨rfl, ⟨nd, rfl⟩⟩) | (go_at_call 69; (refine (HCON.out g1 _ wr.heap.size (zb HB) (by simp) (by simp)).mono ?_); rintro e w' ⟨rfl, hb2⟩))
       go_roundg k1
       case measure => have := HK1.out; omega
       case rel => exact ⟨(wrap64 (x7_1 + 1)), ze, H', ⟨by have := HK1.out; omega⟩, ⟨(fun h => below_then h h.size hb2) (pw_below_drewN (below_alloc HB.out _) _)⟩⟩
     · rw [if_pos (by decide)] at H
       obtain rfl := Option.some.inj H
       go_wp2_with (first | (go_at_call 68; (with_reducible refine (impl_TextOk.calls k1 g0 true _ A1'.out).mono ?_); rintro e w' ⟨rfl, ⟨nd, rfl⟩⟩) | (go_at_call 53; (with_reducible refine (impl_within.calls g1 0 99 true _ A2'.out).mono ?_); rintro e w' ⟨rfl, ⟨nd, rfl⟩⟩))
       go_ret
       exact ⟨by first | rfl | (simp; done) | (simp [*]; done), (zb HB)⟩
     · rw [if_pos (by decide)] at H
       obtain rfl := Option.some.inj H
       go_wp2_with (first | (go_at_call 68; (with_reducible refine (impl_TextOk.calls k1 g0 true _ A1'.out).mono ?_); rintro e w' ⟨rfl, ⟨nd, rfl⟩⟩) | (go_at_call 53; (with_reducible refine (impl_within.calls g1 0 99 true _ A2'.out).mono ?_); rintro e w' ⟨rfl, ⟨nd, rfl⟩⟩))
       go_ret
       exact ⟨by first | rfl | (simp; done) | (simp [*]; done), (zb HB)⟩
     rw [if_neg (by decide), if_pos (by decide)] at H
     have H' := am H
     clear H
     go_wp2_with (first | (go_at_call 68; (with_reducible refine (impl_TextOk.calls k1 g0 true _ A1'.out).mono ?_); rintro e w' ⟨rfl, ⟨nd, rfl⟩⟩) | (go_at_call 53; (with_reducible refine (impl_within.calls g1 0 99 true _ A2'.out).mono ?_); rintro e w' ⟨rfl, ⟨nd, rfl⟩⟩))
     go_roundg k1
     case measure => have := HK1.out; omega
     case rel => exact ⟨(wrap64 (x7_1 + 1)), ze, H', ⟨by have := HK1.out; omega⟩, ⟨zb HB⟩⟩
/-! ### impl_Vol_uses: function 46 -/
def impl_Vol_uses.l0 : Nat → Int → Int → List Int → Int → Int → Option (Int)
 | 0, _, _, _, _, _ => none
 | k + 1, x1, x5, x9, x10, x11 => if x11 < x10 then (if 0 ≤ x11 then (if x11 < (x9.length : Int) then (if (rd x9 x11) = x1 then (impl_Vol_uses.l0 k x1 (wrap64 (x5 + 1)) x9 x10 (wrap64 (x11 + 1))) else (impl_Vol_uses.l0 k x1 x5 x9 x10 (wrap64 (x11 + 1)))) else (none)) else (none)) else (some x5)
def impl_Vol_uses.f (k : Nat) (a0_0 : ByteArray) (l0_1 : List Int) (a1 : Int) : Option (Int) := impl_Vol_uses.l0 k a1 0 l0_1 (l0_1.length : Int) 0
theorem impl_Vol_uses.mono_l : ∀ k, (∀ y0 y1 y2 y3 y4, LeO (impl_Vol_uses.l0 k y0 y1 y2 y3 y4) (impl_Vol_uses.l0 (k + 1) y0 y1 y2 y3 y4))
 | 0 => fun _ _ _ _ _ r h => by simp [impl_Vol_uses.l0] at h
 | k + 1 => by
  have ih0 := impl_Vol_uses.mono_l k
  intro y0 y1 y2 y3 y4
  unfold impl_Vol_uses.l0
  exact mo1 ih0
theorem impl_Vol_uses.mono : ∀ a0 a1 a2 k, LeO (impl_Vol_uses.f k a0 a1 a2) (impl_Vol_uses.f (k + 1) a0 a1 a2) := by
 intro a0 a1 a2 k
 have ih0 := impl_Vol_uses.mono_l k
 unfold impl_Vol_uses.f
 exact mo1 ih0
set_option maxHeartbeats 8000000 in
set_option maxRecDepth 100000 in
theorem impl_Vol_uses.calls (k : Nat) (a0_0 : ByteArray) (A0_1 : Option Addr) (c0_1 : Nat) (l0_1 : List Int) (a1 : Int) (r : Int) (w : World) (hr0_1 : Kd.C (Kd.int .i64) w A0_1 l0_1.length l0_1) (hc0_1 : l0_1.length ≤ c0_1) (h : impl_Vol_uses.f k a0_0 l0_1 a1 = some r) :
 Calls Try.prog 46 #[.agg #[.string a0_0, .slice A0_1 l0_1.length c0_1], .int .i64 a1] w fun e w' => e = .returned (.int .i64 r) ∧ Below w.heap.size w w' := by
 have hu38 := Try.underlying38
 have HR0_1 := am hr0_1
 have HC0_1 := am hc0_1
 clear hr0_1 hc0_1
 have HB := am (Below.refl w.heap.size w)
 have H : (impl_Vol_uses.l0 k a1 0 l0_1 (l0_1.length : Int) 0) = some r := h
 clear h
 have H' := am H
 clear H
 go_enter Try.func46, Try.ntmps46
 go_wp2_with (first | ((with_reducible refine gate_dst (N := 2) rfl ?_); refine bx 38 #[.string a0_0, .slice A0_1 l0_1.length c0_1] ?_; intro gb146 hg w3 hbox hb; have BK146 := am (hbox); have GW146 := am (zn hg (zb HB)); have GE146 := am (zn hg (zb HB)); replace HB := am (below_step (zb HB) hb); clear hb hbox hg; have hcz4_0 := ce0 BK146; have hcz4_1 := ce1 BK146; have hfz4_0 := bfz BK146 0; have hfz4_1 := bfz BK146 1))
 go_loopg [5, 11] k (fun kq v5 v11 w' => ∃ (x5_1 : Int) (x11_1 : Int), v5 = .int .i64 x5_1 ∧ v11 = .int .i64 x11_1 ∧ Aside0 (impl_Vol_uses.l0 kq a1 x5_1 l0_1 (l0_1.length : Int) x11_1 = some r) ∧ Aside0 (kq ≤ k) ∧ Aside0 (w'.heap[gb146]? = some (.cells #[.string a0_0, (.slice A0_1 l0_1.length c0_1)] 38 (0, 0))) ∧ Aside0 (Below w.heap.size w w'))
 case atStart => exact ⟨(0), (0), ze, ze, H', ⟨Nat.le_refl _⟩, ⟨zk BK146⟩, ⟨zb HB⟩⟩
 case round =>
  clear H'
  try clear p2
  try clear c4
  try clear hcz4_0
  try clear hcz4_1
  try clear hfz4_0
  try clear hfz4_1
  obtain ⟨x5_1, x11_1, rfl, rfl, HA, HK1, BK146, HB⟩ := hrel
  cases gk with
  | zero => exact absurd HA.out (by simp [impl_Vol_uses.l0])
  | succ k1 =>
   have H := HA.out
   clear HA
   simp only [impl_Vol_uses.l0] at H
   by_cases c5 : x11_1 < (l0_1.length : Int)
   rotate_left
   · rw [if_neg c5] at H
     have c5b0 : decide (x11_1 < (l0_1.length : Int)) = false := decide_eq_false c5
     clear c5
     obtain rfl := Option.some.inj H
     go_wp2
     go_ret
     exact ⟨zv, (zb HB)⟩
   rw [if_pos c5] at H
   have c5b0 : decide (x11_1 < (l0_1.length : Int)) = true := decide_eq_true c5
   clear c5
   by_cases c6 : 0 ≤ x11_1
   rotate_left
   · rw [if_neg c6] at H
     exact absurd H (by simp)
   rw [if_pos c6] at H
   have c6b0 : decide (0 ≤ x11_1) = true := decide_eq_true c6
   clear c6
   by_cases c7 : x11_1 < (l0_1.length : Int)
   rotate_left
   · rw [if_neg c7] at H
     exact absurd H (by simp)
   rw [if_pos c7] at H
   have c7b0 : decide (x11_1 < (l0_1.length : Int)) = true := decide_eq_true c7
   clear c7
   by_cases c8 : (rd l0_1 x11_1) = a1
   · rw [if_pos c8] at H
     have c8b0 : ((rd l0_1 x11_1) == a1) = true := beq_iff_eq.mpr c8
     have c8b1 : ((rd l0_1 x11_1) != a1) = false := bne_eq_false_iff_eq.mpr c8
     clear c8
     have H' := am H
     clear H
     have p147 : 0 ≤ (x11_1 : Int) := of_decide_eq_true zl
     have q147 : x11_1 < (l0_1.length : Int) := of_decide_eq_true zl
     obtain ⟨ad147, e147, hx147_0⟩ := Kd.at_int HR0_1.out x11_1 p147 q147
     cases e147
     replace hx147_0 := hcx HB hx147_0
     replace p147 := eq_true p147
     replace q147 := eq_true q147
     go_wp2
     go_roundg k1
     case measure => have := HK1.out; omega
     case rel => exact ⟨(wrap64 (x5_1 + 1)), (wrap64 (x11_1 + 1)), ze, ze, H', ⟨by have := HK1.out; omega⟩, ⟨zk BK146⟩, ⟨zb HB⟩⟩
   rw [if_neg c8] at H
   have c8b0 : ((rd l0_1 x11_1) == a1) = false := beq_eq_false_iff_ne.mpr c8
   have c8b1 : ((rd l0_1 x11_1) != a1) = true := bne_iff_ne.mpr c8
   have H' := am H
   clear H
   have p147 : 0 ≤ (x11_1 : Int) := of_decide_eq_true zl
   have q147 : x11_1 < (l0_1.length : Int) := of_decide_eq_true zl
   obtain ⟨ad147, e147, hx147_0⟩ := Kd.at_int HR0_1.out x11_1 p147 q147
   cases e147
   replace hx147_0 := hcx HB hx147_0
   replace p147 := eq_true p147
   replace q147 := eq_true q147
   go_wp2
   go_roundg k1
   case measure => have := HK1.out; omega
   case rel => exact ⟨(x5_1), (wrap64 (x11_1 + 1)), ze, ze, H', ⟨by have := HK1.out; omega⟩, ⟨zk BK146⟩, ⟨zb HB⟩⟩
end Go.Proofs.Ytooamacekmjpaaa.PFnReadOnly
