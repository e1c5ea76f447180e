/- The walk: each function that the law comes to as a plain Lean function, and a proof that the Go code answers so. Written by this session's program over the kit's printer. -/
import Derived.Test.YtooamacekmjpaaaZ
import Derived.Test.YtooamacekmjpaaaQFnVolText0
import Derived.Test.YtooamacekmjpaaaQFnVolText1
import Derived.Test.YtooamacekmjpaaaQFnVolText11
namespace Go.Proofs.Ytooamacekmjpaaa.PFnVolText
open Go.RowKit Go.Proofs.YtooamacekmjpaaaW.PrintWords Go.Proofs.YtooamacekmjpaaaW.PrintLast Go.Proofs.YtooamacekmjpaaaW.PrintMore
attribute [local go_sem] max2_int min2_int max_two min_two max_three min_three max_four min_four   -- for this text's walks alone
set_option linter.unusedVariables false
set_option linter.unusedSimpArgs false
/-! ### impl_Slot_77: function 77 -/
instance : Inhabited S55 := ⟨z55⟩
/-- A slot's two cells. -/
def encSlot (x : S55) : List Value := [.string x.f0, .int .i64 x.f1]
theorem slot_K {w : World} {x : S55} {cs : List Value} (h : (k55).K w x cs) : cs = encSlot x := by
 obtain ⟨c0, c1, rfl, h0, h1⟩ := h
 have e0 : c0 = [.string x.f0] := h0
 have e1 : c1 = [.int .i64 x.f1] := h1
 rw [e0, e1]
 rfl
/-- A row of slots that is read, cell by cell. -/
theorem slots_cells {w : World} {A : Option Addr} {l : List S55} (h : Kd.C k55 w A l.length l) (hn : 0 < l.length) :
 ∃ b off, A = some ⟨b, off, none⟩ ∧ b < w.heap.size ∧ ∀ j, j < l.length → ∀ i v, (encSlot l[j]!)[i]? = some v → w.cell? ⟨b, off + j * 2 + i, none⟩ = some v := by
 obtain ⟨ad, e, hc⟩ := h.2.2 hn
 have get : ∀ j, j < l.length → ∀ i v, (encSlot l[j]!)[i]? = some v → w.cell? (ad.add (j * 2 + i)) = some v := by
  intro j hj i v hi
  obtain ⟨c, hl, hk, hcell⟩ := hc j l[j]! (by rw [List.getElem?_eq_getElem hj]; simp [hj])
  rw [slot_K hk] at hcell
  exact hcell i v hi
 obtain ⟨b, off, spot⟩ := ad
 have h0 := get 0 hn 0 (.string (l[0]!).f0) rfl
 have hs : spot = none := by
  cases spot with
  | none => rfl
  | some q =>
   exfalso
   simp only [Nat.zero_mul, Nat.add_zero, Addr.add, if_pos] at h0
   unfold World.cell? at h0
   revert h0
   cases w.heap[b]? with
   | none => simp
   | some o => cases o <;> simp
 subst hs
 refine ⟨b, off, e, ?_, fun j hj i v hi => ?_⟩
 · have := World.block_lt_of_cell? w _ h0
   simpa [Addr.add_lit] using this
 have := get j hj i v hi
 rw [Addr.add_lit] at this
 rw [Nat.add_assoc]
 exact this
/-- slices.IndexFunc over slots, nil too, whatever predicate. -/
theorem idx_calls (p : S55 → Bool) (g : Nat) (lb : Array Value) (eg : ∀ args w, (callFunc g args).run Try.prog w = .ok (.enter g args) w) (A0 : Option Addr) (c0 : Nat) (l0 : List S55) (w : World)
 (hr0 : Kd.C k55 w A0 l0.length l0) (hp : PredBelow Try.prog g lb (fun x => .agg (encSlot x).toArray) p w) :
 Calls Try.prog 77 #[.slice A0 l0.length c0, .func (.func g) #[] lb] w fun e w' => e = .returned (.int .i64 (Lib.idxBy (fun _ y => p y) l0 default)) ∧ Below w.heap.size w w' := by
 by_cases hn : 0 < l0.length
 · obtain ⟨b, off, rfl, hb, hc⟩ := slots_cells hr0 hn
   have hcon := AnyQ.slices_IndexFunc Go.Proofs.YtooamacekmjpaaaH.idxLay 2 Try.isAgg55 Try.sizeOf55 encSlot (fun _ => rfl) p g lb eg b off l0.length c0 l0 w hp (Nat.le_refl _) hr0.2.1 hb hc
   rw [List.take_length] at hcon
   exact hcon
 obtain rfl : l0 = [] := List.eq_nil_of_length_eq_zero (by omega)
 clear hp hr0 hn
 go_enter Try.func77, Try.ntmps77
 go_wp2
 go_loopg [8] 0 (fun gg v8 w' => v8 = .int .i64 0 ∧ w' = w)
 case atStart => exact ⟨rfl, rfl⟩
 case round =>
  obtain ⟨rfl, rfl⟩ := hrel
  go_wp2
  go_ret
  exact ⟨rfl, Below.refl _ _⟩
/-! ### impl_Slot_69: function 69 -/
theorem con_calls (p : S55 → Bool) (g : Nat) (lb : Array Value) (eg : ∀ args w, (callFunc g args).run Try.prog w = .ok (.enter g args) w) (A0 : Option Addr) (c0 : Nat) (l0 : List S55) (w : World)
 (hr0 : Kd.C k55 w A0 l0.length l0) (hp : PredBelow Try.prog g lb (fun x => .agg (encSlot x).toArray) p w) :
 Calls Try.prog 69 #[.slice A0 l0.length c0, .func (.func g) #[] lb] w fun e w' => e = .returned (.bool (l0.any p)) ∧ Below w.heap.size w w' := by
 have hcon := idx_calls p g lb eg A0 c0 l0 w hr0 hp
 have hE := Lib.idxBy_nonneg_iff (fun _ y => p y) l0 default
 clear hp hr0
 generalize Lib.idxBy (fun _ y => p y) l0 default = x at hcon hE
 have HE := am hE
 clear hE
 go_enter Try.func69, Try.ntmps69
 go_wp2_with (go_at_call 77; refine hcon.mono ?_; rintro e w' ⟨rfl, hb'⟩)
 go_ret
 exact ⟨by rw [← HE.out]; rfl, hb'⟩
/-! ### impl_StoreOk: function 45 -/
/-- 'o.Text == x.Text', x in the block B of the caller's. -/
theorem ok_pred (t : ByteArray) (u : Int) (B : Nat) (w : World) (hB : B < w.heap.size) (hcell : w.cell? ⟨B, 0, none⟩ = some (.string t)) :
 PredBelow Try.prog 70 #[.pointer (some ⟨B, 0, none⟩)] (fun x => .agg (encSlot x).toArray) (fun x => x.f0.toList == t.toList) w := fun W x hb => by
 have hc : W.cell? ⟨B, 0, none⟩ = some (.string t) := (hb.cell (p := ⟨B, 0, none⟩) hB).trans hcell
 have hBW : B < W.heap.size := Nat.lt_of_lt_of_le hB hb.size
 have hne : B ≠ W.heap.size := by omega
 show Calls Try.prog 70 #[.agg #[.string x.f0, .int .i64 x.f1], .pointer (some ⟨B, 0, none⟩)] W _
 go_enter Try.func70, Try.ntmps70
 go_wp2
 all_goals (go_ret; exact ⟨by first | rfl | simp_all, hb.alloc hb.size _⟩)
def impl_StoreOk.l0 : Nat → List (S55) → Int → Option (Bool)
 | 0, _, _ => none
 | k + 1, x0, x7 => if x7 < (x0.length : Int) then (if 0 ≤ x7 then ((impl_TextOk.f k ((rd_T55 x0 x7).f0)).bind fun t1 => (if t1 = true then ((impl_within.f ((rd_T55 x0 x7).f1) 0 99).bind fun t2 => (if t2 = true then (if ((((rd_T55 x0 x7).f0).toList == ([] : List UInt8)) != (((rd_T55 x0 x7).f1) == 0)) = true then (some false) else (if (((rd_T55 x0 x7).f0).toList == ([] : List UInt8)) = true then (impl_StoreOk.l0 k x0 (wrap64 (x7 + 1))) else (if (x0.take x7.toNat).any (fun o => o.f0.toList == ((rd_T55 x0 x7).f0).toList) = true then (some false) else (impl_StoreOk.l0 k x0 (wrap64 (x7 + 1)))))) else (some false))) else (some false))) else (none)) else (some ((x0.length : Int) == 8))
def impl_StoreOk.f (k : Nat) (l0 : List (S55)) : Option (Bool) := impl_StoreOk.l0 k l0 0
theorem impl_StoreOk.mono_l : ∀ k, (∀ y0 y1, LeO (impl_StoreOk.l0 k y0 y1) (impl_StoreOk.l0 (k + 1) y0 y1))
 | 0 => fun _ _ r h => by simp [impl_StoreOk.l0] at h
 | k + 1 => by
  have ih0 := impl_StoreOk.mono_l k
  intro y0 y1
  unfold impl_StoreOk.l0
  exact mo2 ih0 @impl_TextOk.mono
theorem impl_StoreOk.mono : ∀ a0 k, LeO (impl_StoreOk.f k a0) (impl_StoreOk.f (k + 1) a0) := by
 intro a0 k
 have ih0 := impl_StoreOk.mono_l k
 unfold impl_StoreOk.f
 exact ih0 _ _
set_option maxHeartbeats 8000000 in
set_option maxRecDepth 100000 in
theorem impl_StoreOk.calls (k : Nat) (A0 : Option Addr) (c0 : Nat) (l0 : List (S55)) (r : Bool) (w : World) (hr0 : Kd.C k55 w A0 l0.length l0) (hc0 : l0.length ≤ c0) (h : impl_StoreOk.f k l0 = some r) :
 Calls Try.prog 45 #[.slice A0 l0.length c0] w fun e w' => e = .returned (.bool r) ∧ Below w.heap.size w w' := by
 have HR0 := am hr0
 have HC0 := am hc0
 clear hr0 hc0
 have HB := am (Below.refl w.heap.size w)
 have H : (impl_StoreOk.l0 k l0 0) = some r := h
 clear h
 have H' := am H
 clear H
 have EG := am (show ∀ args w, (callFunc 70 args).run Try.prog w = .ok (.enter 70 args) w from enters_of Try.func70 (by kernel_rfl) rfl)
 obtain ⟨i0, hi0, _, hsz, _⟩ := info_parts (show (Try.prog.info? 55).map (fun i => (i.zero, i.size, i.bytes)) = some (some (.agg #[(.string ⟨#[]⟩), (.int .i64 0)]), 2, 24) from by kernel_rfl)
 have HCUT := am (fun (x : Int) (h0 : 0 ≤ x) (h1 : x ≤ (l0.length : Int)) => cut_to (P := Try.prog) 28 55 .i64 Try.underlying28 hi0 A0 l0.length c0 x h0 h1 HC0.out)
 clear hi0 hsz
 go_enter Try.func45, Try.ntmps45
 go_wp2
 go_loopg [7] k (fun kq v7 w' => ∃ (x7_1 : Int), v7 = .int .i64 x7_1 ∧ Aside0 (impl_StoreOk.l0 kq l0 x7_1 = some r) ∧ Aside0 (kq ≤ k) ∧ Aside0 (Below w.heap.size w w'))
 case atStart => exact ⟨(0), rfl, H', ⟨Nat.le_refl _⟩, HB⟩
 case round =>
  clear H'
  obtain ⟨x7_1, rfl, HA, HK1, HB⟩ := hrel
  cases gk with
  | zero => exact absurd HA.out (by simp [impl_StoreOk.l0])
  | succ k1 =>
   have H := HA.out
   clear HA
   simp only [impl_StoreOk.l0] at H
   by_cases c3 : x7_1 < (l0.length : Int)
   rotate_left
   · rw [if_neg c3] at H
     have c3b0 : decide (x7_1 < (l0.length : Int)) = false := decide_eq_false c3
     clear c3
     obtain rfl := Option.some.inj H
     go_wp2
     go_ret
     exact ⟨by first | rfl | (simp; done) | (simp [*]; done), HB.out⟩
   rw [if_pos c3] at H
   by_cases c4 : 0 ≤ x7_1
   rotate_left
   · rw [if_neg c4] at H
     exact absurd H (by simp)
   rw [if_pos c4] at H
   obtain ⟨ad, e, hx0, hx1⟩ := at_T55 HR0.out x7_1 c4 c3
   cases e
   have hcut := HCUT.out x7_1 c4 (Int.le_of_lt c3)
   replace hx0 := hcx HB hx0
   replace hx1 := hcx HB hx1
   have HTK := am (Kd.C_below (Kd.C_take (m := x7_1.toNat) HR0.out (by omega)) HB.out)
   have HTL := am (show (l0.take x7_1.toNat).length = x7_1.toNat from by rw [List.length_take]; omega)
   have c3b0 : decide (x7_1 < (l0.length : Int)) = true := decide_eq_true c3
   have c4b0 : decide (0 ≤ x7_1) = true := decide_eq_true c4
   have HCON : Aside0 (∀ (u : Int) (W : World) (B : Nat), Below w.heap.size w W → B < W.heap.size → W.cell? ⟨B, 0, none⟩ = some (.string (rd_T55 l0 x7_1).f0) → Calls Try.prog 69 #[.slice (some ad) x7_1.toNat c0, .func (.func 70) #[] #[.pointer (some ⟨B, 0, none⟩)]] W fun e w' => e = .returned (.bool ((l0.take x7_1.toNat).any (fun o => o.f0.toList == ((rd_T55 l0 x7_1).f0).toList))) ∧ Below W.heap.size W w') := ⟨fun u W B hbW hBW hcW => by
    have := con_calls (fun o => o.f0.toList == ((rd_T55 l0 x7_1).f0).toList) 70 #[.pointer (some ⟨B, 0, none⟩)] EG.out (some ad) c0 (l0.take x7_1.toNat) W (Kd.C_below (Kd.C_take (m := x7_1.toNat) HR0.out (by omega)) hbW) (ok_pred _ u B W hBW hcW)
    rw [HTL.out] at this
    exact this⟩
   generalize hg0 : (rd_T55 l0 x7_1).f0 = g0 at H hx0 HCON
   generalize hg1 : (rd_T55 l0 x7_1).f1 = g1 at H hx1
   clear hg0 hg1
   replace H := obs H
   obtain ⟨t1, A1, H⟩ := H
   have A1' := am A1
   clear A1 c3 c4
   have p4 : 0 ≤ x7_1 := of_decide_eq_true c4b0
   have q4 : x7_1 < (l0.length : Int) := of_decide_eq_true c3b0
   replace p4 := eq_true p4
   replace q4 := eq_true q4
   cases t1 with
   | false =>
    rw [if_neg (by decide)] at H
    obtain rfl := Option.some.inj H
    go_wp2_with (first | (go_at_call 68; (with_reducible refine (impl_TextOk.calls k1 g0 false _ A1'.out).mono ?_); rintro e w' ⟨rfl, ⟨nd, rfl⟩⟩))
    go_ret
    exact ⟨by first | rfl | (simp; done) | (simp [*]; done), (zb HB)⟩
   | true =>
    rw [if_pos rfl] at H
    replace H := obs H
    obtain ⟨t2, A2, H⟩ := H
    have A2' := am A2
    clear A2
    cases t2 with
    | false =>
     rw [if_neg (by decide)] at H
     obtain rfl := Option.some.inj H
     go_wp2_with (first | (go_at_call 68; (with_reducible refine (impl_TextOk.calls k1 g0 true _ A1'.out).mono ?_); rintro e w' ⟨rfl, ⟨nd, rfl⟩⟩) | (go_at_call 53; (with_reducible refine (impl_within.calls g1 0 99 false _ A2'.out).mono ?_); rintro e w' ⟨rfl, ⟨nd, rfl⟩⟩))
     go_ret
     exact ⟨by first | rfl | (simp; done) | (simp [*]; done), (zb HB)⟩
    | true =>
     rw [if_pos rfl] at H
     obtain ⟨be, hbe⟩ : ∃ b, (g0.toList == ([] : List UInt8)) = b := ⟨_, rfl⟩
     obtain ⟨bu, hbu⟩ : ∃ b, (g1 == 0) = b := ⟨_, rfl⟩
     have hbn : (g0.toList != ([] : List UInt8)) = !be := by rw [bne, hbe]
     rw [hbe, hbu] at H
     cases be <;> cases bu
     · rw [if_neg (by decide), if_neg (by decide)] at H
       by_cases c8 : (l0.take x7_1.toNat).any (fun o => o.f0.toList == g0.toList) = true
       · rw [if_pos c8] at H
         rw [c8] at HCON
         clear c8
         obtain rfl := Option.some.inj H
         go_wp2_with (first | (go_at_call 68; (with_reducible refine (impl_TextOk.calls k1 g0 true _ A1'.out).mono ?_); rintro e w' ⟨rfl, ⟨nd, rfl⟩⟩) | (go_at_call 53; (with_reducible refine (impl_within.calls g1 0 99 true _ A2'.out).mono ?_); rintro e w' ⟨rfl, ⟨nd, rfl⟩⟩) | (go_at_call 69; (refine (HCON.out g1 _ wr.heap.size (zb HB) (by simp) (by simp)).mono ?_); rintro e w' ⟨rfl, hb2⟩))
         go_ret
         exact ⟨by first | rfl | (simp; done) | (simp [*]; done), (fun h => below_then h h.size hb2) (pw_below_drewN (below_alloc HB.out _) _)⟩
       rw [if_neg c8] at H
       replace c8 := Bool.eq_false_iff.mpr c8
       rw [c8] at HCON
       clear c8
       have H' := am H
       clear H
       go_wp2_with (first | (go_at_call 68; (with_reducible refine (impl_TextOk.calls k1 g0 true _ A1'.out).mono ?_); rintro e w' ⟨rfl, ⟨nd, rfl⟩⟩) | (go_at_call 53; (with_reducible refine (impl_within.calls g1 0 99 true _ A2'.out).mono ?_); rintro e w' ⟨rfl, ⟨nd, rfl⟩⟩) | (go_at_call 69; (refine (HCON.out g1 _ wr.heap.size (zb HB) (by simp) (by simp)).mono ?_); rintro e w' ⟨rfl, hb2⟩))
       go_roundg k1
       case measure => have := HK1.out; omega
       case rel => exact ⟨(wrap64 (x7_1 + 1)), ze, H', ⟨by have := HK1.out; omega⟩, ⟨(fun h => below_then h h.size hb2) (pw_below_drewN (below_alloc HB.out _) _)⟩⟩
     · rw [if_pos (by decide)] at H
       obtain rfl := Option.some.inj H
       go_wp2_with (first | (go_at_call 68; (with_reducible refine (impl_TextOk.calls k1 g0 true _ A1'.out).mono ?_); rintro e w' ⟨rfl, ⟨nd, rfl⟩⟩) | (go_at_call 53; (with_reducible refine (impl_within.calls g1 0 99 true _ A2'.out).mono ?_); rintro e w' ⟨rfl, ⟨nd, rfl⟩⟩))
       go_ret
       exact ⟨by first | rfl | (simp; done) | (simp [*]; done), (zb HB)⟩
     · rw [if_pos (by decide)] at H
       obtain rfl := Option.some.inj H
       go_wp2_with (first | (go_at_call 68; (with_reducible refine (impl_TextOk.calls k1 g0 true _ A1'.out).mono ?_); rintro e w' ⟨rfl, ⟨nd, rfl⟩⟩) | (go_at_call 53; (with_reducible refine (impl_within.calls g1 0 99 true _ A2'.out).mono ?_); rintro e w' ⟨rfl, ⟨nd, rfl⟩⟩))
       go_ret
       exact ⟨by first | rfl | (simp; done) | (simp [*]; done), (zb HB)⟩
     rw [if_neg (by decide), if_pos (by decide)] at H
     have H' := am H
     clear H
     go_wp2_with (first | (go_at_call 68; (with_reducible refine (impl_TextOk.calls k1 g0 true _ A1'.out).mono ?_); rintro e w' ⟨rfl, ⟨nd, rfl⟩⟩) | (go_at_call 53; (with_reducible refine (impl_within.calls g1 0 99 true _ A2'.out).mono ?_); rintro e w' ⟨rfl, ⟨nd, rfl⟩⟩))
     go_roundg k1
     case measure => have := HK1.out; omega
     case rel => exact ⟨(wrap64 (x7_1 + 1)), ze, H', ⟨by have := HK1.out; omega⟩, ⟨zb HB⟩⟩
/-! ### impl_VolText: function 30 -/
mutual
def impl_VolText.j0 : Nat → List (S55) → Bool → ByteArray → List Int → Option (ByteArray)
 | 0, _, _, _, _ => none
 | k + 1, x1, x16, x504000, x504001 => if x16 = true then (some (⟨#[]⟩ : ByteArray)) else (impl_VolText.l0 k x1 x504000 x504001 (x504001.length : Int) 0)
def impl_VolText.l0 : Nat → List (S55) → ByteArray → List Int → Int → Int → Option (ByteArray)
 | 0, _, _, _, _, _ => none
 | k + 1, x1, x5, x20, x21, x22 => if x22 < x21 then (if 0 ≤ x22 then (if x22 < (x20.length : Int) then (if (rd x20 x22) > 0 then (if 0 ≤ (wrap64 ((rd x20 x22) - 1)) then (if (wrap64 ((rd x20 x22) - 1)) < (x1.length : Int) then (if ((rd_T55 x1 (wrap64 ((rd x20 x22) - 1))).f1) > 0 then (if 1 + ((rd_T55 x1 (wrap64 ((rd x20 x22) - 1))).f0).size ≤ 9223372036854775807 then (if x5.size + ((⟨#[32]⟩ : ByteArray) ++ ((rd_T55 x1 (wrap64 ((rd x20 x22) - 1))).f0)).size ≤ 9223372036854775807 then (impl_VolText.l0 k x1 (x5 ++ ((⟨#[32]⟩ : ByteArray) ++ ((rd_T55 x1 (wrap64 ((rd x20 x22) - 1))).f0))) x20 x21 (wrap64 (x22 + 1))) else (none)) else (none)) else (if 1 + 1 ≤ 9223372036854775807 then (if x5.size + 2 ≤ 9223372036854775807 then (impl_VolText.l0 k x1 (x5 ++ ((⟨#[32]⟩ : ByteArray) ++ (⟨#[45]⟩ : ByteArray))) x20 x21 (wrap64 (x22 + 1))) else (none)) else (none))) else (none)) else (none)) else (if 1 + 1 ≤ 9223372036854775807 then (if x5.size + 2 ≤ 9223372036854775807 then (impl_VolText.l0 k x1 (x5 ++ ((⟨#[32]⟩ : ByteArray) ++ (⟨#[45]⟩ : ByteArray))) x20 x21 (wrap64 (x22 + 1))) else (none)) else (none))) else (none)) else (none)) else (some x5)
end
def impl_VolText.f (k : Nat) (a0_0 : ByteArray) (l0_1 : List Int) (l1 : List (S55)) : Option (ByteArray) := (impl_VolOk.f k a0_0 l0_1).bind fun t504 => (if t504 = true then ((impl_StoreOk.f k l1).bind fun t505 => (impl_VolText.j0 k l1 (!t505) a0_0 l0_1)) else (impl_VolText.j0 k l1 true a0_0 l0_1))
theorem impl_VolText.mono_l : ∀ k, (∀ y0 y1 y2 y3, LeO (impl_VolText.j0 k y0 y1 y2 y3) (impl_VolText.j0 (k + 1) y0 y1 y2 y3)) ∧ (∀ y0 y1 y2 y3 y4, LeO (impl_VolText.l0 k y0 y1 y2 y3 y4) (impl_VolText.l0 (k + 1) y0 y1 y2 y3 y4))
 | 0 => ⟨fun _ _ _ _ r h => by simp [impl_VolText.j0] at h, fun _ _ _ _ _ r h => by simp [impl_VolText.l0] at h⟩
 | k + 1 => by
  obtain ⟨ih0, ih1⟩ := impl_VolText.mono_l k
  refine ⟨?_, ?_⟩
  · intro y0 y1 y2 y3
    unfold impl_VolText.j0
    exact mo4 ih0 ih1 @impl_StoreOk.mono @impl_VolOk.mono
  intro y0 y1 y2 y3 y4
  unfold impl_VolText.l0
  exact mo4 ih0 ih1 @impl_StoreOk.mono @impl_VolOk.mono
theorem impl_VolText.mono : ∀ a0 a1 a2 k, LeO (impl_VolText.f k a0 a1 a2) (impl_VolText.f (k + 1) a0 a1 a2) := by
 intro a0 a1 a2 k
 obtain ⟨ih0, ih1⟩ := impl_VolText.mono_l k
 unfold impl_VolText.f
 exact mo4 ih0 ih1 @impl_StoreOk.mono @impl_VolOk.mono
set_option maxHeartbeats 8000000 in
set_option maxRecDepth 100000 in
theorem impl_VolText.calls (k : Nat) (a0_0 : ByteArray) (A0_1 : Option Addr) (c0_1 : Nat) (l0_1 : List Int) (A1 : Option Addr) (c1 : Nat) (l1 : List (S55)) (r : ByteArray) (w : World) (hr0_1 : Kd.C (Kd.int .i64) w A0_1 l0_1.length l0_1) (hc0_1 : l0_1.length ≤ c0_1) (hr1 : Kd.C k55 w A1 l1.length l1) (hc1 : l1.length ≤ c1) (h : impl_VolText.f k a0_0 l0_1 l1 = some r) :
 Calls Try.prog 30 #[.agg #[.string a0_0, .slice A0_1 l0_1.length c0_1], .slice A1 l1.length c1] w fun e w' => e = .returned (.string r) ∧ Below w.heap.size w w' := by
 have hu38 := Try.underlying38
 have HR0_1 := am hr0_1
 have HC0_1 := am hc0_1
 clear hr0_1 hc0_1
 have HR1 := am hr1
 have HC1 := am hc1
 clear hr1 hc1
 have HB := am (Below.refl w.heap.size w)
 have H : ((impl_VolOk.f k a0_0 l0_1).bind fun t504 => (if t504 = true then ((impl_StoreOk.f k l1).bind fun t505 => (impl_VolText.j0 k l1 (!t505) a0_0 l0_1)) else (impl_VolText.j0 k l1 true a0_0 l0_1))) = some r := h
 clear h
 have HC3 := am H
 clear H
 go_enter Try.func30, Try.ntmps30
 go_upto_region 1 with (first | ((with_reducible refine gate_dst (N := 2) rfl ?_); refine bx 38 #[.string a0_0, .slice A0_1 l0_1.length c0_1] ?_; intro gb503 hg w4 hbox hb; have BK503 := am (hbox); have GW503 := am (zn hg (zb HB)); have GE503 := am (zn hg (zb HB)); replace HB := am (below_step (zb HB) hb); clear hb hbox hg))
 (try simp only [Act.put, List.setIfInBounds_toArray, List.set_cons_zero, List.set_cons_succ])
 go_cut [16] (fun v16 wc => ∃ (kq : Nat) (x16_2 : Bool), v16 = .bool x16_2 ∧ Aside0 (impl_VolText.j0 kq l1 x16_2 a0_0 l0_1 = some r) ∧ Aside0 (kq ≤ k) ∧ Aside0 (wc.heap[gb503]? = some (.cells #[.string a0_0, (.slice A0_1 l0_1.length c0_1)] 38 (0, 0))) ∧ Aside0 (Below w.heap.size w wc))
 case first =>
  have H := HC3.out
  clear HC3
  replace H := obs H
  obtain ⟨t504, A50, H⟩ := H
  replace H : (if t504 = true then ((impl_StoreOk.f k l1).bind fun t505 => (impl_VolText.j0 k l1 (!t505) a0_0 l0_1)) else (impl_VolText.j0 k l1 true a0_0 l0_1)) = some r := H
  have A5 := am A50
  clear A50
  by_cases c6 : t504 = true
  rotate_left
  · replace c6 := Bool.eq_false_iff.mpr c6
    subst c6
    have H1 : (impl_VolText.j0 k l1 true a0_0 l0_1) = some r := by rw [if_neg (show ¬ (false = true) by decide)] at H; exact H
    clear H
    have H := H1
    clear H1
    have H' := am H
    clear H
    have hcz11_0 := ce0 BK503
    have hcz11_1 := ce1 BK503
    have hfz11_0 := bfz BK503 0
    have hfz11_1 := bfz BK503 1
    go_wp2_with (first | ((with_reducible refine gate_callee (f := 20) rfl ?_); refine gl Try.func20 10 #[.agg #[.string a0_0, .slice A0_1 l0_1.length c0_1]] rfl rfl rfl ?_; (with_reducible refine (impl_VolOk.calls k a0_0 _ _ l0_1 false _ ?side1 ?side2 A5.out).mono ?_); (case side1 => exact zc (Kd.C_below HR0_1.out HB.out)); (case side2 => exact HC0_1.out); rintro e w12 ⟨rfl, hb⟩; refine ⟨_, rfl, ?_⟩; replace BK503 := am (blk_below (zk BK503) hb); replace HB := am (below_step (zb HB) hb); (try clear hb); (try clear hb2); (try clear hk); (try clear hi)))
    go_meet
    case rel => exact ⟨_, (true), ze, H', ⟨by first | omega | exact Nat.le_refl _⟩, ⟨zk BK503⟩, ⟨zb HB⟩⟩
  subst c6
  have H1 : ((impl_StoreOk.f k l1).bind fun t505 => (impl_VolText.j0 k l1 (!t505) a0_0 l0_1)) = some r := by rw [if_pos rfl] at H; exact H
  clear H
  have H := H1
  clear H1
  replace H := obs H
  obtain ⟨t505, A70, H⟩ := H
  replace H : (impl_VolText.j0 k l1 (!t505) a0_0 l0_1) = some r := H
  have A7 := am A70
  clear A70
  have H' := am H
  clear H
  have hcz8_0 := ce0 BK503
  have hcz8_1 := ce1 BK503
  have hfz8_0 := bfz BK503 0
  have hfz8_1 := bfz BK503 1
  go_wp2_with (first | ((with_reducible refine gate_callee (f := 20) rfl ?_); refine gl Try.func20 10 #[.agg #[.string a0_0, .slice A0_1 l0_1.length c0_1]] rfl rfl rfl ?_; (with_reducible refine (impl_VolOk.calls k a0_0 _ _ l0_1 true _ ?side1 ?side2 A5.out).mono ?_); (case side1 => exact zc (Kd.C_below HR0_1.out HB.out)); (case side2 => exact HC0_1.out); rintro e w9 ⟨rfl, hb⟩; refine ⟨_, rfl, ?_⟩; replace BK503 := am (blk_below (zk BK503) hb); replace HB := am (below_step (zb HB) hb); (try clear hb); (try clear hb2); (try clear hk); (try clear hi)) | (go_at_call 45; (with_reducible refine (impl_StoreOk.calls k _ _ l1 t505 _ ?side1 ?side2 A7.out).mono ?_); (case side1 => exact zc (Kd.C_below HR1.out HB.out)); (case side2 => exact HC1.out); rintro e w10 ⟨rfl, hb⟩; replace BK503 := am (blk_below (zk BK503) hb); replace HB := am (below_step (zb HB) hb); (try clear hb); (try clear hb2); (try clear hk); (try clear hi)))
  go_meet
  case rel => exact ⟨_, (!t505), ze, H', ⟨by first | omega | exact Nat.le_refl _⟩, ⟨zk BK503⟩, ⟨zb HB⟩⟩
 clear HC3
 try clear c1
 try clear c2
 try clear p2
 try clear c3
 try clear c6
 try clear hcz11_0
 try clear hcz11_1
 try clear hcz8_0
 try clear hcz8_1
 try clear hfz11_0
 try clear hfz11_1
 try clear hfz8_0
 try clear hfz8_1
 obtain ⟨kq, x16_2, rfl, HA, HJ2, BK503, HB⟩ := hcut
 cases kq with
 | zero => exact absurd HA.out (by simp [impl_VolText.j0])
 | succ kj2 =>
  have H := HA.out
  clear HA
  simp only [impl_VolText.j0] at H
  by_cases c13 : x16_2 = true
  · subst c13
    have H1 : (some (⟨#[]⟩ : ByteArray)) = some r := by rw [if_pos rfl] at H; exact H
    clear H
    have H := H1
    clear H1
    obtain rfl := Option.some.inj H
    go_wp2
    go_ret
    exact ⟨zv, (zb HB)⟩
  replace c13 := Bool.eq_false_iff.mpr c13
  subst c13
  have H1 : (impl_VolText.l0 kj2 l1 a0_0 l0_1 (l0_1.length : Int) 0) = some r := by rw [if_neg (show ¬ (false = true) by decide)] at H; exact H
  clear H
  have H := H1
  clear H1
  have H' := am H
  clear H
  have hcz14_0 := ce0 BK503
  have hcz14_1 := ce1 BK503
  have hfz14_0 := bfz BK503 0
  have hfz14_1 := bfz BK503 1
  go_wp2
  go_loopg [5, 22] kj2 (fun kq v5 v22 w' => ∃ (x5_2 : ByteArray) (x22_2 : Int), v5 = .string x5_2 ∧ v22 = .int .i64 x22_2 ∧ Aside0 (impl_VolText.l0 kq l1 x5_2 l0_1 (l0_1.length : Int) x22_2 = some r) ∧ Aside0 (kq ≤ kj2) ∧ Aside0 (w'.heap[gb503]? = some (.cells #[.string a0_0, (.slice A0_1 l0_1.length c0_1)] 38 (0, 0))) ∧ Aside0 (Below w.heap.size w w'))
  case atStart => exact ⟨(a0_0), (0), ze, ze, H', ⟨Nat.le_refl _⟩, ⟨zk BK503⟩, ⟨zb HB⟩⟩
  case round =>
   clear H'
   try clear c1
   try clear c2
   try clear p2
   try clear c3
   try clear c6
   try clear c13
   try clear hcz11_0
   try clear hcz11_1
   try clear hcz14_0
   try clear hcz14_1
   try clear hcz8_0
   try clear hcz8_1
   try clear hfz11_0
   try clear hfz11_1
   try clear hfz14_0
   try clear hfz14_1
   try clear hfz8_0
   try clear hfz8_1
   try clear p2
   obtain ⟨x5_2, x22_2, rfl, rfl, HA, HK2, BK503, HB⟩ := hrel
   cases gk with
   | zero => exact absurd HA.out (by simp [impl_VolText.l0])
   | succ k2 =>
    have H := HA.out
    clear HA
    simp only [impl_VolText.l0] at H
    by_cases c15 : x22_2 < (l0_1.length : Int)
    rotate_left
    · rw [if_neg c15] at H
      have c15b0 : decide (x22_2 < (l0_1.length : Int)) = false := decide_eq_false c15
      clear c15
      obtain rfl := Option.some.inj H
      go_wp2
      go_ret
      exact ⟨zv, (zb HB)⟩
    rw [if_pos c15] at H
    have c15b0 : decide (x22_2 < (l0_1.length : Int)) = true := decide_eq_true c15
    clear c15
    by_cases c16 : 0 ≤ x22_2
    rotate_left
    · rw [if_neg c16] at H
      exact absurd H (by simp)
    rw [if_pos c16] at H
    have c16b0 : decide (0 ≤ x22_2) = true := decide_eq_true c16
    clear c16
    by_cases c17 : x22_2 < (l0_1.length : Int)
    rotate_left
    · rw [if_neg c17] at H
      exact absurd H (by simp)
    rw [if_pos c17] at H
    have c17b0 : decide (x22_2 < (l0_1.length : Int)) = true := decide_eq_true c17
    clear c17
    by_cases c18 : (rd l0_1 x22_2) > 0
    rotate_left
    · rw [if_neg c18] at H
      have c18b0 : decide (0 < (rd l0_1 x22_2)) = false := decide_eq_false c18
      clear c18
      by_cases c27 : 1 + 1 ≤ 9223372036854775807
      rotate_left
      · rw [if_neg c27] at H
        exact absurd H (by simp)
      rw [if_pos c27] at H
      have c27b0 := eq_true c27
      have c27b1 : decide (1 + 1 ≤ 9223372036854775807) = true := decide_eq_true c27
      try have c27b2 : (9223372036854775807 < 1 + 1) = False := eq_false (Nat.not_lt.2 c27)
      by_cases c28 : x5_2.size + 2 ≤ 9223372036854775807
      rotate_left
      · rw [if_neg c28] at H
        exact absurd H (by simp)
      rw [if_pos c28] at H
      have c28b0 := eq_true c28
      have c28b1 : decide (x5_2.size + 2 ≤ 9223372036854775807) = true := decide_eq_true c28
      try have c28b2 : (9223372036854775807 < x5_2.size + 2) = False := eq_false (Nat.not_lt.2 c28)
      have H' := am H
      clear H
      have p506 : 0 ≤ (x22_2 : Int) := of_decide_eq_true zl
      have q506 : x22_2 < (l0_1.length : Int) := of_decide_eq_true zl
      obtain ⟨ad506, e506, hx506_0⟩ := Kd.at_int HR0_1.out x22_2 p506 q506
      cases e506
      replace hx506_0 := hcx HB hx506_0
      replace p506 := eq_true p506
      replace q506 := eq_true q506
      go_wp2
      go_roundg k2
      case measure => have := HJ2.out; have := HK2.out; omega
      case rel => exact ⟨(x5_2 ++ ((⟨#[32]⟩ : ByteArray) ++ (⟨#[45]⟩ : ByteArray))), (wrap64 (x22_2 + 1)), ze, ze, H', ⟨by have := HJ2.out; have := HK2.out; omega⟩, ⟨zk BK503⟩, ⟨zb HB⟩⟩
    rw [if_pos c18] at H
    have c18b0 : decide (0 < (rd l0_1 x22_2)) = true := decide_eq_true c18
    clear c18
    obtain ⟨ji19, hji19⟩ : ∃ j_ : Int, (wrap64 ((rd l0_1 x22_2) - 1)) = j_ := ⟨_, rfl⟩
    replace H : (if 0 ≤ (ji19) then (if (ji19) < (l1.length : Int) then (if ((rd_T55 l1 (ji19)).f1) > 0 then (if 1 + ((rd_T55 l1 (ji19)).f0).size ≤ 9223372036854775807 then (if x5_2.size + ((⟨#[32]⟩ : ByteArray) ++ ((rd_T55 l1 (ji19)).f0)).size ≤ 9223372036854775807 then (impl_VolText.l0 k2 l1 (x5_2 ++ ((⟨#[32]⟩ : ByteArray) ++ ((rd_T55 l1 (ji19)).f0))) l0_1 (l0_1.length : Int) (wrap64 (x22_2 + 1))) else (none)) else (none)) else (if 1 + 1 ≤ 9223372036854775807 then (if x5_2.size + 2 ≤ 9223372036854775807 then (impl_VolText.l0 k2 l1 (x5_2 ++ ((⟨#[32]⟩ : ByteArray) ++ (⟨#[45]⟩ : ByteArray))) l0_1 (l0_1.length : Int) (wrap64 (x22_2 + 1))) else (none)) else (none))) else (none)) else (none)) = some r := by first | (rw [hji19] at H; exact H) | (simp only [hji19] at H ⊢; exact H)
    have hji19w : (IntKind.i64.wrap ((rd l0_1 x22_2) - 1)) = ji19 := (i64_w _).trans hji19
    by_cases c20 : 0 ≤ (ji19)
    rotate_left
    · rw [if_neg c20] at H
      exact absurd H (by simp)
    rw [if_pos c20] at H
    have c20b0 : decide (0 ≤ (ji19)) = true := decide_eq_true c20
    clear c20
    by_cases c21 : (ji19) < (l1.length : Int)
    rotate_left
    · rw [if_neg c21] at H
      exact absurd H (by simp)
    rw [if_pos c21] at H
    have c21b0 : decide ((ji19) < (l1.length : Int)) = true := decide_eq_true c21
    clear c21
    by_cases c22 : ((rd_T55 l1 (ji19)).f1) > 0
    rotate_left
    · rw [if_neg c22] at H
      have c22b0 : decide (0 < ((rd_T55 l1 (ji19)).f1)) = false := decide_eq_false c22
      clear c22
      by_cases c25 : 1 + 1 ≤ 9223372036854775807
      rotate_left
      · rw [if_neg c25] at H
        exact absurd H (by simp)
      rw [if_pos c25] at H
      have c25b0 := eq_true c25
      have c25b1 : decide (1 + 1 ≤ 9223372036854775807) = true := decide_eq_true c25
      try have c25b2 : (9223372036854775807 < 1 + 1) = False := eq_false (Nat.not_lt.2 c25)
      by_cases c26 : x5_2.size + 2 ≤ 9223372036854775807
      rotate_left
      · rw [if_neg c26] at H
        exact absurd H (by simp)
      rw [if_pos c26] at H
      have c26b0 := eq_true c26
      have c26b1 : decide (x5_2.size + 2 ≤ 9223372036854775807) = true := decide_eq_true c26
      try have c26b2 : (9223372036854775807 < x5_2.size + 2) = False := eq_false (Nat.not_lt.2 c26)
      have H' := am H
      clear H
      have p506 : 0 ≤ (x22_2 : Int) := of_decide_eq_true zl
      have q506 : x22_2 < (l0_1.length : Int) := of_decide_eq_true zl
      obtain ⟨ad506, e506, hx506_0⟩ := Kd.at_int HR0_1.out x22_2 p506 q506
      cases e506
      replace hx506_0 := hcx HB hx506_0
      replace p506 := eq_true p506
      replace q506 := eq_true q506
      have p507 : 0 ≤ ((ji19) : Int) := of_decide_eq_true zl
      have q507 : (ji19) < (l1.length : Int) := of_decide_eq_true zl
      obtain ⟨ad507, e507, hx507_0, hx507_1⟩ := at_T55 HR1.out (ji19) p507 q507
      cases e507
      replace hx507_0 := hcx HB hx507_0
      replace hx507_1 := hcx HB hx507_1
      replace p507 := eq_true p507
      replace q507 := eq_true q507
      go_wp2
      go_roundg k2
      case measure => have := HJ2.out; have := HK2.out; omega
      case rel => exact ⟨(x5_2 ++ ((⟨#[32]⟩ : ByteArray) ++ (⟨#[45]⟩ : ByteArray))), (wrap64 (x22_2 + 1)), ze, ze, H', ⟨by have := HJ2.out; have := HK2.out; omega⟩, ⟨zk BK503⟩, ⟨zb HB⟩⟩
    rw [if_pos c22] at H
    have c22b0 : decide (0 < ((rd_T55 l1 (ji19)).f1)) = true := decide_eq_true c22
    clear c22
    by_cases c23 : 1 + ((rd_T55 l1 (ji19)).f0).size ≤ 9223372036854775807
    rotate_left
    · rw [if_neg c23] at H
      exact absurd H (by simp)
    rw [if_pos c23] at H
    have c23b0 := eq_true c23
    have c23b1 : decide (1 + ((rd_T55 l1 (ji19)).f0).size ≤ 9223372036854775807) = true := decide_eq_true c23
    try have c23b2 : (9223372036854775807 < 1 + ((rd_T55 l1 (ji19)).f0).size) = False := eq_false (Nat.not_lt.2 c23)
    by_cases c24 : x5_2.size + ((⟨#[32]⟩ : ByteArray) ++ ((rd_T55 l1 (ji19)).f0)).size ≤ 9223372036854775807
    rotate_left
    · rw [if_neg c24] at H
      exact absurd H (by simp)
    rw [if_pos c24] at H
    have c24b0 := eq_true c24
    have c24b1 : decide (x5_2.size + ((⟨#[32]⟩ : ByteArray) ++ ((rd_T55 l1 (ji19)).f0)).size ≤ 9223372036854775807) = true := decide_eq_true c24
    try have c24b2 : (9223372036854775807 < x5_2.size + ((⟨#[32]⟩ : ByteArray) ++ ((rd_T55 l1 (ji19)).f0)).size) = False := eq_false (Nat.not_lt.2 c24)
    (try have c24b3 : (9223372036854775807 < x5_2.size + 2 + ((rd_T55 l1 (ji19)).f0).size) = False := eq_false (by have q_ := c24; simp only [ByteArray.size_append] at q_; have : (⟨#[32]⟩ : ByteArray).size = 1 := rfl; omega))
    have H' := am H
    clear H
    have p506 : 0 ≤ (x22_2 : Int) := of_decide_eq_true zl
    have q506 : x22_2 < (l0_1.length : Int) := of_decide_eq_true zl
    obtain ⟨ad506, e506, hx506_0⟩ := Kd.at_int HR0_1.out x22_2 p506 q506
    cases e506
    replace hx506_0 := hcx HB hx506_0
    replace p506 := eq_true p506
    replace q506 := eq_true q506
    have p507 : 0 ≤ ((ji19) : Int) := of_decide_eq_true zl
    have q507 : (ji19) < (l1.length : Int) := of_decide_eq_true zl
    obtain ⟨ad507, e507, hx507_0, hx507_1⟩ := at_T55 HR1.out (ji19) p507 q507
    cases e507
    replace hx507_0 := hcx HB hx507_0
    replace hx507_1 := hcx HB hx507_1
    replace p507 := eq_true p507
    replace q507 := eq_true q507
    have p508 : 0 ≤ ((ji19) : Int) := of_decide_eq_true zl
    have q508 : (ji19) < (l1.length : Int) := of_decide_eq_true zl
    obtain ⟨ad508, e508, hx508_0, hx508_1⟩ := at_T55 HR1.out (ji19) p508 q508
    obtain rfl : ad507 = ad508 := (by injection e508)
    replace hx508_0 := hcx HB hx508_0
    replace hx508_1 := hcx HB hx508_1
    replace p508 := eq_true p508
    replace q508 := eq_true q508
    go_wp2
    go_roundg k2
    case measure => have := HJ2.out; have := HK2.out; omega
    case rel => exact ⟨(x5_2 ++ ((⟨#[32]⟩ : ByteArray) ++ ((rd_T55 l1 (ji19)).f0))), (wrap64 (x22_2 + 1)), (by first | rfl | (simp; done) | (simp only [← hji19] <;> (first | rfl | simp)) | (simp [*]; done)), ze, H', ⟨by have := HJ2.out; have := HK2.out; omega⟩, ⟨zk BK503⟩, ⟨zb HB⟩⟩
/-! ### spec_VolOk: function 21 -/
def spec_VolOk.l0 : Nat → Int → ByteArray → List Int → Option (Bool)
 | 0, _, _, _ => none
 | k + 1, x3, x510000, x510001 => if x3 < (x510001.length : Int) then (if 0 ≤ x3 then ((spec_l6In.f (rd x510001 x3) 0 8).bind fun t511 => (if t511 = true then (spec_VolOk.l0 k (wrap64 (x3 + 1)) x510000 x510001) else (some false))) else (none)) else ((spec_l3Name.f x510000).bind fun t512 => (if t512 = true then ((spec_l6In.f (x510001.length : Int) 1 6).bind fun t513 => (some t513)) else (some false)))
def spec_VolOk.f (k : Nat) (a0_0 : ByteArray) (l0_1 : List Int) : Option (Bool) := spec_VolOk.l0 k 0 a0_0 l0_1
theorem spec_VolOk.mono_l : ∀ k, (∀ y0 y1 y2, LeO (spec_VolOk.l0 k y0 y1 y2) (spec_VolOk.l0 (k + 1) y0 y1 y2))
 | 0 => fun _ _ _ r h => by simp [spec_VolOk.l0] at h
 | k + 1 => by
  have ih0 := spec_VolOk.mono_l k
  intro y0 y1 y2
  unfold spec_VolOk.l0
  exact mo1 ih0
theorem spec_VolOk.mono : ∀ a0 a1 k, LeO (spec_VolOk.f k a0 a1) (spec_VolOk.f (k + 1) a0 a1) := by
 intro a0 a1 k
 have ih0 := spec_VolOk.mono_l k
 unfold spec_VolOk.f
 exact mo1 ih0
set_option maxHeartbeats 8000000 in
set_option maxRecDepth 100000 in
theorem spec_VolOk.calls (k : Nat) (a0_0 : ByteArray) (A0_1 : Option Addr) (c0_1 : Nat) (l0_1 : List Int) (r : Bool) (w : World) (hr0_1 : Kd.C (Kd.int .i64) w A0_1 l0_1.length l0_1) (hc0_1 : l0_1.length ≤ c0_1) (h : spec_VolOk.f k a0_0 l0_1 = some r) :
 Calls Try.prog 21 #[.agg #[.string a0_0, .slice A0_1 l0_1.length c0_1]] w fun e w' => e = .returned (.bool r) ∧ Below w.heap.size w w' := by
 have hu38 := Try.underlying38
 have HR0_1 := am hr0_1
 have HC0_1 := am hc0_1
 clear hr0_1 hc0_1
 have HB := am (Below.refl w.heap.size w)
 have H : (spec_VolOk.l0 k 0 a0_0 l0_1) = some r := h
 clear h
 have H' := am H
 clear H
 go_enter Try.func21, Try.ntmps21
 go_wp2_with (first | ((with_reducible refine gate_dst (N := 1) rfl ?_); (try (refine gate_guard (by rfl) ?_; dsimp only)); refine bx 38 #[.string a0_0, .slice A0_1 l0_1.length c0_1] ?_; intro gb509 hg w2 hbox hb; have BK509 := am (hbox); have GW509 := am (zn hg (zb HB)); have GE509 := am (zn hg (zb HB)); replace HB := am (below_step (zb HB) hb); clear hb hbox hg))
 go_loopg [3] k (fun kq v3 w' => ∃ (x3_1 : Int), v3 = .int .i64 x3_1 ∧ Aside0 (spec_VolOk.l0 kq x3_1 a0_0 l0_1 = some r) ∧ Aside0 (kq ≤ k) ∧ Aside0 (w'.heap[gb509]? = some (.cells #[.string a0_0, (.slice A0_1 l0_1.length c0_1)] 38 (0, 0))) ∧ Aside0 (Below w.heap.size w w'))
 case atStart => exact ⟨(0), ze, H', ⟨Nat.le_refl _⟩, ⟨zk BK509⟩, ⟨zb HB⟩⟩
 case round =>
  clear H'
  try clear c2
  try clear p2
  obtain ⟨x3_1, rfl, HA, HK1, BK509, HB⟩ := hrel
  cases gk with
  | zero => exact absurd HA.out (by simp [spec_VolOk.l0])
  | succ k1 =>
   have H := HA.out
   clear HA
   simp only [spec_VolOk.l0] at H
   by_cases c3 : x3_1 < (l0_1.length : Int)
   rotate_left
   · rw [if_neg c3] at H
     have c3b0 : decide (x3_1 < (l0_1.length : Int)) = false := decide_eq_false c3
     clear c3
     replace H := obs H
     obtain ⟨t512, A90, H⟩ := H
     replace H : (if t512 = true then ((spec_l6In.f (l0_1.length : Int) 1 6).bind fun t513 => (some t513)) else (some false)) = some r := H
     have A9 := am A90
     clear A90
     by_cases c10 : t512 = true
     rotate_left
     · replace c10 := Bool.eq_false_iff.mpr c10
       subst c10
       have H1 : (some false) = some r := by rw [if_neg (show ¬ (false = true) by decide)] at H; exact H
       clear H
       have H := H1
       clear H1
       obtain rfl := Option.some.inj H
       have hcz13_0 := ce0 BK509
       have hcz13_1 := ce1 BK509
       have hfz13_0 := bfz BK509 0
       have hfz13_1 := bfz BK509 1
       go_wp2_with (first | ((with_reducible refine gate_callee (f := 56) rfl ?_); refine gl Try.func56 20 #[.string a0_0] rfl rfl rfl ?_; (with_reducible refine (spec_l3Name.calls a0_0 false _ A9.out).mono ?_); rintro e w' ⟨rfl, ⟨nd, rfl⟩⟩; refine ⟨_, rfl, ?_⟩))
       go_ret
       exact ⟨zv, (zb HB)⟩
     subst c10
     have H1 : ((spec_l6In.f (l0_1.length : Int) 1 6).bind fun t513 => (some t513)) = some r := by rw [if_pos rfl] at H; exact H
     clear H
     have H := H1
     clear H1
     replace H := obs H
     obtain ⟨t513, A110, H⟩ := H
     replace H : (some t513) = some r := H
     have A11 := am A110
     clear A110
     obtain rfl := Option.some.inj H
     have hcz12_0 := ce0 BK509
     have hcz12_1 := ce1 BK509
     have hfz12_0 := bfz BK509 0
     have hfz12_1 := bfz BK509 1
     go_wp2_with (first | ((with_reducible refine gate_callee (f := 56) rfl ?_); refine gl Try.func56 20 #[.string a0_0] rfl rfl rfl ?_; (with_reducible refine (spec_l3Name.calls a0_0 true _ A9.out).mono ?_); rintro e w' ⟨rfl, ⟨nd, rfl⟩⟩; refine ⟨_, rfl, ?_⟩) | (go_at_call 55; (with_reducible refine (spec_l6In.calls (l0_1.length : Int) 1 6 t513 _ A11.out).mono ?_); rintro e w' ⟨rfl, ⟨nd, rfl⟩⟩))
     go_ret
     exact ⟨zv, (zb HB)⟩
   rw [if_pos c3] at H
   have c3b0 : decide (x3_1 < (l0_1.length : Int)) = true := decide_eq_true c3
   clear c3
   by_cases c4 : 0 ≤ x3_1
   rotate_left
   · rw [if_neg c4] at H
     exact absurd H (by simp)
   rw [if_pos c4] at H
   have c4b0 : decide (0 ≤ x3_1) = true := decide_eq_true c4
   clear c4
   replace H := obs H
   obtain ⟨t511, A50, H⟩ := H
   replace H : (if t511 = true then (spec_VolOk.l0 k1 (wrap64 (x3_1 + 1)) a0_0 l0_1) else (some false)) = some r := H
   have A5 := am A50
   clear A50
   by_cases c6 : t511 = true
   · subst c6
     have H1 : (spec_VolOk.l0 k1 (wrap64 (x3_1 + 1)) a0_0 l0_1) = some r := by rw [if_pos rfl] at H; exact H
     clear H
     have H := H1
     clear H1
     have H' := am H
     clear H
     have hcz7_0 := ce0 BK509
     have hcz7_1 := ce1 BK509
     have hfz7_0 := bfz BK509 0
     have hfz7_1 := bfz BK509 1
     have p510 : 0 ≤ (x3_1 : Int) := of_decide_eq_true zl
     have q510 : x3_1 < (l0_1.length : Int) := of_decide_eq_true zl
     obtain ⟨ad510, e510, hx510_0⟩ := Kd.at_int HR0_1.out x3_1 p510 q510
     cases e510
     replace hx510_0 := hcx HB hx510_0
     replace p510 := eq_true p510
     replace q510 := eq_true q510
     go_wp2_with (first | ((with_reducible refine gate_callee (f := 55) rfl ?_); refine gl Try.func55 16 #[.int .i64 (rd l0_1 x3_1), .int .i64 0, .int .i64 8] rfl rfl rfl ?_; (with_reducible refine (spec_l6In.calls (rd l0_1 x3_1) 0 8 true _ A5.out).mono ?_); rintro e w' ⟨rfl, ⟨nd, rfl⟩⟩; refine ⟨_, rfl, ?_⟩))
     go_roundg k1
     case measure => have := HK1.out; omega
     case rel => exact ⟨(wrap64 (x3_1 + 1)), ze, H', ⟨by have := HK1.out; omega⟩, ⟨zk BK509⟩, ⟨zb HB⟩⟩
   replace c6 := Bool.eq_false_iff.mpr c6
   subst c6
   have H1 : (some false) = some r := by rw [if_neg (show ¬ (false = true) by decide)] at H; exact H
   clear H
   have H := H1
   clear H1
   obtain rfl := Option.some.inj H
   have hcz8_0 := ce0 BK509
   have hcz8_1 := ce1 BK509
   have hfz8_0 := bfz BK509 0
   have hfz8_1 := bfz BK509 1
   have p510 : 0 ≤ (x3_1 : Int) := of_decide_eq_true zl
   have q510 : x3_1 < (l0_1.length : Int) := of_decide_eq_true zl
   obtain ⟨ad510, e510, hx510_0⟩ := Kd.at_int HR0_1.out x3_1 p510 q510
   cases e510
   replace hx510_0 := hcx HB hx510_0
   replace p510 := eq_true p510
   replace q510 := eq_true q510
   go_wp2_with (first | ((with_reducible refine gate_callee (f := 55) rfl ?_); refine gl Try.func55 16 #[.int .i64 (rd l0_1 x3_1), .int .i64 0, .int .i64 8] rfl rfl rfl ?_; (with_reducible refine (spec_l6In.calls (rd l0_1 x3_1) 0 8 false _ A5.out).mono ?_); rintro e w' ⟨rfl, ⟨nd, rfl⟩⟩; refine ⟨_, rfl, ?_⟩))
   go_ret
   exact ⟨zv, (zb HB)⟩
end Go.Proofs.Ytooamacekmjpaaa.PFnVolText
