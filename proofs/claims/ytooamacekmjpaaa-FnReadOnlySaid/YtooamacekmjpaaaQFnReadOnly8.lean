/- The walk: each function that the law comes to as a plain Lean function, and a proof that the Go code answers so. Written by this session's program over the kit's printer. -/
import Derived.Test.YtooamacekmjpaaaZ
import Derived.Test.YtooamacekmjpaaaQFnReadOnly0
import Derived.Test.YtooamacekmjpaaaQFnReadOnly5
import Derived.Test.YtooamacekmjpaaaQFnReadOnly7
namespace Go.Proofs.Ytooamacekmjpaaa.PFnReadOnly
open Go.RowKit Go.Proofs.YtooamacekmjpaaaW.PrintWords Go.Proofs.YtooamacekmjpaaaW.PrintLast Go.Proofs.YtooamacekmjpaaaW.PrintMore
attribute [local go_sem] max2_int min2_int max_two min_two max_three min_three max_four min_four   -- for this text's walks alone
set_option linter.unusedVariables false
set_option linter.unusedSimpArgs false
/-! ### impl_Vol: function 84 -/
def volRen : Go.Shelf.Ren := ⟨fun | 6 => 84 | n => n, fun | 22 => 29 | 23 => 38 | 25 => 40 | n => n, fun | n => n⟩
theorem volLay : SlLaysH0.n6 Try.prog volRen := { mixed := by kernel_rfl, f6 := ⟨Try.f84.name, by decide, Try.func84.trans (congrArg some (by kernel_rfl))⟩, t0 := Try.underlying0, a0 := Try.isAgg0, z0 := Try.sizeOf0, v0 := Try.zeroValue0, t3 := Try.underlying3, a3 := Try.isAgg3, z3 := Try.sizeOf3, v3 := Try.zeroValue3, t4 := Try.underlying4, a4 := Try.isAgg4, z4 := Try.sizeOf4, v4 := Try.zeroValue4, t22 := Try.underlying29, a22 := Try.isAgg29, z22 := Try.sizeOf29, v22 := Try.zeroValue29, t25 := Try.underlying40, a25 := Try.isAgg40, z25 := Try.sizeOf40, v25 := Try.zeroValue40 }
instance : Inhabited S38 := ⟨z38⟩
/-- A disk as its cells lie: its name, and its blocks' slice. -/
abbrev RawV := ByteArray × Option Addr × Nat × Nat
instance : Inhabited RawV := ⟨(ByteArray.empty, none, 0, 0)⟩
def encRaw (x : RawV) : List Value := [.string x.1, .slice x.2.1 x.2.2.1 x.2.2.2]
theorem vol_K {w : World} {x : S38} {cs : List Value} (h : (k38).K w x cs) : ∃ q : Option Addr × Nat, cs = encRaw (x.f0, q.1, x.f1.length, q.2) := by
 obtain ⟨c0, c1, rfl, h0, A, c, rfl, _⟩ := h
 have e0 : c0 = [.string x.f0] := h0
 exact ⟨(A, c), by rw [e0]; rfl⟩
theorem vols_cells {w : World} {A : Option Addr} {l : List S38} (h : Kd.C k38 w A l.length l) (hn : 0 < l.length) :
 ∃ (b off : Nat) (m : List RawV), A = some ⟨b, off, none⟩ ∧ b < w.heap.size ∧ m.map (fun x => x.1) = l.map (fun x => x.f0) ∧ ∀ j, j < m.length → ∀ i v, (encRaw m[j]!)[i]? = some v → w.cell? ⟨b, off + j * 2 + i, none⟩ = some v := by
 obtain ⟨ad, e, hc⟩ := h.2.2 hn
 have get : ∀ j : Nat, ∃ q : Option Addr × Nat, ∀ (hj : j < l.length), ∀ i v, (encRaw (l[j].f0, q.1, l[j].f1.length, q.2))[i]? = some v → w.cell? (ad.add (j * 2 + i)) = some v := by
  intro j
  by_cases hj : j < l.length
  · obtain ⟨c, hl, hk, hcell⟩ := hc j l[j] (List.getElem?_eq_getElem hj)
    obtain ⟨q, rfl⟩ := vol_K hk
    exact ⟨q, fun _ i v hi => hcell i v hi⟩
  exact ⟨(none, 0), fun h => absurd h hj⟩
 obtain ⟨f, hf⟩ := Classical.axiomOfChoice get
 obtain ⟨b, off, spot⟩ := ad
 have h0 := hf 0 hn 0 (.string l[0].f0) rfl
 have hs : spot = none := by
  cases spot with
  | none => rfl
  | some q =>
   exfalso
   simp only [Nat.zero_mul, Nat.add_zero, Addr.add, if_pos] at h0
   unfold World.cell? at h0
   revert h0
   cases w.heap[b]? with
   | none => simp
   | some o => cases o <;> simp
 subst hs
 refine ⟨b, off, List.ofFn fun j : Fin l.length => (l[j].f0, (f j).1, l[j].f1.length, (f j).2), e, ?_, ?_, fun j hj i v hi => ?_⟩
 · have := World.block_lt_of_cell? w _ h0
   simpa [Addr.add_lit] using this
 · refine List.ext_getElem (by simp) fun j h1 h2 => ?_
   simp
 have hj' : j < l.length := by simpa using hj
 have := hf j hj' i v (by
  rw [← hi]
  congr 1
  simp [hj'])
 rw [Addr.add_lit] at this
 rw [Nat.add_assoc]
 exact this
theorem idx_names (p : ByteArray → Bool) (d : RawV) (d' : S38) : ∀ (l : List S38) (m : List RawV) (n : Nat), m.map (fun x => x.1) = l.map (fun x => x.f0) → Lib.idxByFrom (fun _ (x : RawV) => p x.1) d m n = Lib.idxByFrom (fun _ (x : S38) => p x.f0) d' l n
 | [], [], n, _ => rfl
 | [], _ :: _, _, h => by simp at h
 | _ :: _, [], _, h => by simp at h
 | y :: l, x :: m, n, h => by
  simp only [List.map_cons, List.cons.injEq] at h
  have e := congrArg p h.1
  have hr := idx_names p d d' l m (n + 1) h.2
  by_cases c : p y.f0 = true
  · exact (if_pos (e.trans c)).trans (if_pos c).symm
  exact (if_neg (fun c2 => c (e.symm.trans c2))).trans (hr.trans (if_neg c).symm)
/-- slices.IndexFunc over disks, nil too, a predicate of the name. -/
theorem idx_vcalls (p : ByteArray → Bool) (g : Nat) (lb : Array Value) (eg : ∀ args w, (callFunc g args).run Try.prog w = .ok (.enter g args) w) (A0 : Option Addr) (c0 : Nat) (l0 : List S38) (w : World)
 (hr0 : Kd.C k38 w A0 l0.length l0) (hp : PredBelow Try.prog g lb (fun x : RawV => .agg (encRaw x).toArray) (fun x => p x.1) w) :
 Calls Try.prog 84 #[.slice A0 l0.length c0, .func (.func g) #[] lb] w fun e w' => e = .returned (.int .i64 (Lib.idxBy (fun _ (y : S38) => p y.f0) l0 default)) ∧ Below w.heap.size w w' := by
 by_cases hn : 0 < l0.length
 · obtain ⟨b, off, m, rfl, hb, hm, hc⟩ := vols_cells hr0 hn
   have hl : m.length = l0.length := by have := congrArg List.length hm; simpa using this
   have hcon := AnyQ.slices_IndexFunc volLay 2 Try.isAgg38 Try.sizeOf38 encRaw (fun _ => rfl) (fun x => p x.1) g lb eg b off l0.length c0 m w hp (by omega) hr0.2.1 hb hc
   rw [← hl, List.take_length, hl] at hcon
   refine hcon.mono fun e w' ⟨he, hb'⟩ => ⟨?_, hb'⟩
   rw [he]
   unfold Lib.idxBy
   rw [idx_names p default default l0 m 0 hm]
 obtain rfl : l0 = [] := List.eq_nil_of_length_eq_zero (by omega)
 clear hp hr0 hn
 go_enter Try.func84, Try.ntmps84
 go_wp2
 go_loopg [8] 0 (fun gg v8 w' => v8 = .int .i64 0 ∧ w' = w)
 case atStart => exact ⟨rfl, rfl⟩
 case round =>
  obtain ⟨rfl, rfl⟩ := hrel
  go_wp2
  go_ret
  exact ⟨rfl, Below.refl _ _⟩
/-! ### impl_Pool_vol: function 74 -/
/-- 'v.Name == name', name in the cell ⟨B, 0⟩ of the caller's. -/
theorem vol_pred (t : ByteArray) (B : Nat) (w : World) (hB : B < w.heap.size) (hcell : w.cell? ⟨B, 0, none⟩ = some (.string t)) :
 PredBelow Try.prog 85 #[.pointer (some ⟨B, 0, none⟩)] (fun x : RawV => .agg (encRaw x).toArray) (fun x => x.1.toList == t.toList) w := fun W x hb => by
 have hc : W.cell? ⟨B, 0, none⟩ = some (.string t) := (hb.cell (p := ⟨B, 0, none⟩) hB).trans hcell
 have hBW : B < W.heap.size := Nat.lt_of_lt_of_le hB hb.size
 have hne : B ≠ W.heap.size := by omega
 show Calls Try.prog 85 #[.agg #[.string x.1, .slice x.2.1 x.2.2.1 x.2.2.2], .pointer (some ⟨B, 0, none⟩)] W _
 go_enter Try.func85, Try.ntmps85
 go_wp2
 all_goals (go_ret; exact ⟨by first | rfl | simp_all, hb.alloc hb.size _⟩)
def impl_Pool_vol.f (l0_0 : List (S55)) (l0_1 : List (S38)) (a1 : ByteArray) : Option (Int) := some (Lib.idxBy (fun _ (y : S38) => y.f0.toList == a1.toList) l0_1 default)
set_option maxHeartbeats 1000000 in
theorem impl_Pool_vol.calls (A0_0 : Option Addr) (c0_0 : Nat) (l0_0 : List (S55)) (A0_1 : Option Addr) (c0_1 : Nat) (l0_1 : List (S38)) (a1 : ByteArray) (r : Int) (w : World) (hr0_0 : Kd.C k55 w A0_0 l0_0.length l0_0) (hc0_0 : l0_0.length ≤ c0_0) (hr0_1 : Kd.C k38 w A0_1 l0_1.length l0_1) (hc0_1 : l0_1.length ≤ c0_1) (h : impl_Pool_vol.f l0_0 l0_1 a1 = some r) :
 Calls Try.prog 74 #[.agg #[.slice A0_0 l0_0.length c0_0, .slice A0_1 l0_1.length c0_1], .string a1] w fun e w' => e = .returned (.int .i64 r) ∧ Below w.heap.size w w' := by
 have eg : ∀ args w, (callFunc 85 args).run Try.prog w = .ok (.enter 85 args) w := enters_of Try.func85 (by kernel_rfl) rfl
 have hb0 : Below w.heap.size w (w.alloc (.cells #[.slice A0_0 l0_0.length c0_0, .slice A0_1 l0_1.length c0_1] 31)) := (Below.refl _ w).alloc (Nat.le_refl _) _
 have hb1 : Below w.heap.size w ((w.alloc (.cells #[.slice A0_0 l0_0.length c0_0, .slice A0_1 l0_1.length c0_1] 31)).alloc (.cells #[.string a1] 9)) := hb0.alloc (by simp) _
 have hcon := idx_vcalls (fun x => x.toList == a1.toList) 85 #[.pointer (some ⟨w.heap.size + 1, 0, none⟩)] eg A0_1 c0_1 l0_1 _ (Kd.C_below hr0_1 hb1) (vol_pred a1 (w.heap.size + 1) _ (by simp) (by simp))
 unfold impl_Pool_vol.f at h
 generalize Lib.idxBy (fun _ (y : S38) => y.f0.toList == a1.toList) l0_1 default = x at hcon h
 obtain rfl := Option.some.inj h
 have hu := Try.underlying31
 clear hr0_0 hr0_1 hc0_0 hc0_1 h
 go_enter Try.func74, Try.ntmps74
 go_wp2_with (go_at_call 84; refine hcon.mono ?_; rintro e w' ⟨rfl, hb'⟩)
 go_ret
 exact ⟨rfl, hb1.trans (hb'.mono (by simp; omega))⟩
/-! ### impl_Pool_hasBlock: function 58 -/
def impl_Pool_hasBlock.f (l0_0 : List (S55)) (l0_1 : List (S38)) (a1 : ByteArray) (a2 : Int) : Option (Int) := (impl_Pool_vol.f l0_0 l0_1 a1).bind fun t159 => (if t159 < 0 then (some (-1)) else (if 0 ≤ t159 then (if t159 < (l0_1.length : Int) then ((impl_within.f a2 0 (wrap64 ((((rd_T38 l0_1 t159).f1).length : Int) - 1))).bind fun t161 => (if t161 = true then (some t159) else (some (-1)))) else (none)) else (none)))
set_option maxHeartbeats 8000000 in
set_option maxRecDepth 100000 in
theorem impl_Pool_hasBlock.calls (A0_0 : Option Addr) (c0_0 : Nat) (l0_0 : List (S55)) (A0_1 : Option Addr) (c0_1 : Nat) (l0_1 : List (S38)) (a1 : ByteArray) (a2 : Int) (r : Int) (w : World) (hr0_0 : Kd.C k55 w A0_0 l0_0.length l0_0) (hc0_0 : l0_0.length ≤ c0_0) (hr0_1 : Kd.C k38 w A0_1 l0_1.length l0_1) (hc0_1 : l0_1.length ≤ c0_1) (h : impl_Pool_hasBlock.f l0_0 l0_1 a1 a2 = some r) :
 Calls Try.prog 58 #[.agg #[.slice A0_0 l0_0.length c0_0, .slice A0_1 l0_1.length c0_1], .string a1, .int .i64 a2] w fun e w' => e = .returned (.int .i64 r) ∧ Below w.heap.size w w' := by
 have hu31 := Try.underlying31
 have HR0_0 := am hr0_0
 have HC0_0 := am hc0_0
 clear hr0_0 hc0_0
 have HR0_1 := am hr0_1
 have HC0_1 := am hc0_1
 clear hr0_1 hc0_1
 have HB := am (Below.refl w.heap.size w)
 have H : ((impl_Pool_vol.f l0_0 l0_1 a1).bind fun t159 => (if t159 < 0 then (some (-1)) else (if 0 ≤ t159 then (if t159 < (l0_1.length : Int) then ((impl_within.f a2 0 (wrap64 ((((rd_T38 l0_1 t159).f1).length : Int) - 1))).bind fun t161 => (if t161 = true then (some t159) else (some (-1)))) else (none)) else (none)))) = some r := h
 clear h
 replace H := obs H
 obtain ⟨t159, A40, H⟩ := H
 replace H : (if t159 < 0 then (some (-1)) else (if 0 ≤ t159 then (if t159 < (l0_1.length : Int) then ((impl_within.f a2 0 (wrap64 ((((rd_T38 l0_1 t159).f1).length : Int) - 1))).bind fun t161 => (if t161 = true then (some t159) else (some (-1)))) else (none)) else (none))) = some r := H
 have A4 := am A40
 clear A40
 by_cases c5 : t159 < 0
 · rw [if_pos c5] at H
   have c5b0 : decide (t159 < 0) = true := decide_eq_true c5
   clear c5
   obtain rfl := Option.some.inj H
   go_enter Try.func58, Try.ntmps58
   go_wp2_with (first | ((with_reducible refine gate_dst (N := 3) rfl ?_); (try (refine gate_guard (by rfl) ?_; dsimp only)); refine bx 31 #[.slice A0_0 l0_0.length c0_0, .slice A0_1 l0_1.length c0_1] ?_; intro gb158 hg w6 hbox hb; have BK158 := am (hbox); have GW158 := am (zn hg (zb HB)); have GE158 := am (zn hg (zb HB)); replace HB := am (below_step (zb HB) hb); clear hb hbox hg; have hcz7_0 := ce0 BK158; have hcz7_1 := ce1 BK158; have hfz7_0 := bfz BK158 0; have hfz7_1 := bfz BK158 1) | ((with_reducible refine gate_callee (f := 74) rfl ?_); refine gl Try.func74 10 #[.agg #[.slice A0_0 l0_0.length c0_0, .slice A0_1 l0_1.length c0_1], .string a1] rfl rfl rfl ?_; (with_reducible refine (impl_Pool_vol.calls _ _ l0_0 _ _ l0_1 a1 t159 _ ?side1 ?side2 ?side3 ?side4 A4.out).mono ?_); (case side1 => exact zc (Kd.C_below HR0_0.out HB.out)); (case side2 => exact HC0_0.out); (case side3 => exact zc (Kd.C_below HR0_1.out HB.out)); (case side4 => exact HC0_1.out); rintro e w8 ⟨rfl, hb⟩; refine ⟨_, rfl, ?_⟩; replace BK158 := am (blk_below (zk BK158) hb); replace HB := am (below_step (zb HB) hb); (try clear hb); (try clear hb2); (try clear hk); (try clear hi)))
   go_ret
   exact ⟨zv, (zb HB)⟩
 rw [if_neg c5] at H
 have c5b0 : decide (t159 < 0) = false := decide_eq_false c5
 clear c5
 by_cases c9 : 0 ≤ t159
 rotate_left
 · rw [if_neg c9] at H
   exact absurd H (by simp)
 rw [if_pos c9] at H
 have c9b0 : decide (0 ≤ t159) = true := decide_eq_true c9
 clear c9
 by_cases c10 : t159 < (l0_1.length : Int)
 rotate_left
 · rw [if_neg c10] at H
   exact absurd H (by simp)
 rw [if_pos c10] at H
 have c10b0 : decide (t159 < (l0_1.length : Int)) = true := decide_eq_true c10
 clear c10
 replace H := obs H
 obtain ⟨t161, A110, H⟩ := H
 replace H : (if t161 = true then (some t159) else (some (-1))) = some r := H
 have A11 := am A110
 clear A110
 by_cases c12 : t161 = true
 · subst c12
   have H1 : (some t159) = some r := by rw [if_pos rfl] at H; exact H
   clear H
   have H := H1
   clear H1
   obtain rfl := Option.some.inj H
   go_enter Try.func58, Try.ntmps58
   go_wp2_with (first | ((with_reducible refine gate_dst (N := 3) rfl ?_); (try (refine gate_guard (by rfl) ?_; dsimp only)); refine bx 31 #[.slice A0_0 l0_0.length c0_0, .slice A0_1 l0_1.length c0_1] ?_; intro gb158 hg w13 hbox hb; have BK158 := am (hbox); have GW158 := am (zn hg (zb HB)); have GE158 := am (zn hg (zb HB)); replace HB := am (below_step (zb HB) hb); clear hb hbox hg; have hcz14_0 := ce0 BK158; have hcz14_1 := ce1 BK158; have hfz14_0 := bfz BK158 0; have hfz14_1 := bfz BK158 1) | ((with_reducible refine gate_callee (f := 74) rfl ?_); refine gl Try.func74 10 #[.agg #[.slice A0_0 l0_0.length c0_0, .slice A0_1 l0_1.length c0_1], .string a1] rfl rfl rfl ?_; (with_reducible refine (impl_Pool_vol.calls _ _ l0_0 _ _ l0_1 a1 t159 _ ?side1 ?side2 ?side3 ?side4 A4.out).mono ?_); (case side1 => exact zc (Kd.C_below HR0_0.out HB.out)); (case side2 => exact HC0_0.out); (case side3 => exact zc (Kd.C_below HR0_1.out HB.out)); (case side4 => exact HC0_1.out); rintro e w15 ⟨rfl, hb⟩; refine ⟨_, rfl, ?_⟩; replace BK158 := am (blk_below (zk BK158) hb); replace HB := am (below_step (zb HB) hb); (try clear hb); (try clear hb2); (try clear hk); (try clear hi); have hcz16_0 := ce0 BK158; have hcz16_1 := ce1 BK158; have hfz16_0 := bfz BK158 0; have hfz16_1 := bfz BK158 1; have p160 : 0 ≤ (t159 : Int) := of_decide_eq_true zl; have q160 : t159 < (l0_1.length : Int) := of_decide_eq_true zl; obtain ⟨ad160, A160_1, c160_1, e160, hx160_0, hx160_1, hl160_1, hi160_1⟩ := at_T38 HR0_1.out t159 p160 q160; cases e160; replace hx160_0 := hcx HB hx160_0; replace hx160_1 := hcx HB hx160_1; have HR160_1 := am hi160_1; have HC160_1 := am hl160_1; clear hi160_1 hl160_1; replace p160 := eq_true p160; replace q160 := eq_true q160) | (go_at_call 53; (with_reducible refine (impl_within.calls a2 0 (wrap64 ((((rd_T38 l0_1 t159).f1).length : Int) - 1)) true _ A11.out).mono ?_); rintro e w' ⟨rfl, ⟨nd, rfl⟩⟩))
   go_ret
   exact ⟨zv, (zb HB)⟩
 replace c12 := Bool.eq_false_iff.mpr c12
 subst c12
 have H1 : (some (-1)) = some r := by rw [if_neg (show ¬ (false = true) by decide)] at H; exact H
 clear H
 have H := H1
 clear H1
 obtain rfl := Option.some.inj H
 go_enter Try.func58, Try.ntmps58
 go_wp2_with (first | ((with_reducible refine gate_dst (N := 3) rfl ?_); (try (refine gate_guard (by rfl) ?_; dsimp only)); refine bx 31 #[.slice A0_0 l0_0.length c0_0, .slice A0_1 l0_1.length c0_1] ?_; intro gb158 hg w17 hbox hb; have BK158 := am (hbox); have GW158 := am (zn hg (zb HB)); have GE158 := am (zn hg (zb HB)); replace HB := am (below_step (zb HB) hb); clear hb hbox hg; have hcz18_0 := ce0 BK158; have hcz18_1 := ce1 BK158; have hfz18_0 := bfz BK158 0; have hfz18_1 := bfz BK158 1) | ((with_reducible refine gate_callee (f := 74) rfl ?_); refine gl Try.func74 10 #[.agg #[.slice A0_0 l0_0.length c0_0, .slice A0_1 l0_1.length c0_1], .string a1] rfl rfl rfl ?_; (with_reducible refine (impl_Pool_vol.calls _ _ l0_0 _ _ l0_1 a1 t159 _ ?side1 ?side2 ?side3 ?side4 A4.out).mono ?_); (case side1 => exact zc (Kd.C_below HR0_0.out HB.out)); (case side2 => exact HC0_0.out); (case side3 => exact zc (Kd.C_below HR0_1.out HB.out)); (case side4 => exact HC0_1.out); rintro e w19 ⟨rfl, hb⟩; refine ⟨_, rfl, ?_⟩; replace BK158 := am (blk_below (zk BK158) hb); replace HB := am (below_step (zb HB) hb); (try clear hb); (try clear hb2); (try clear hk); (try clear hi); have hcz20_0 := ce0 BK158; have hcz20_1 := ce1 BK158; have hfz20_0 := bfz BK158 0; have hfz20_1 := bfz BK158 1; have p160 : 0 ≤ (t159 : Int) := of_decide_eq_true zl; have q160 : t159 < (l0_1.length : Int) := of_decide_eq_true zl; obtain ⟨ad160, A160_1, c160_1, e160, hx160_0, hx160_1, hl160_1, hi160_1⟩ := at_T38 HR0_1.out t159 p160 q160; cases e160; replace hx160_0 := hcx HB hx160_0; replace hx160_1 := hcx HB hx160_1; have HR160_1 := am hi160_1; have HC160_1 := am hl160_1; clear hi160_1 hl160_1; replace p160 := eq_true p160; replace q160 := eq_true q160) | (go_at_call 53; (with_reducible refine (impl_within.calls a2 0 (wrap64 ((((rd_T38 l0_1 t159).f1).length : Int) - 1)) false _ A11.out).mono ?_); rintro e w' ⟨rfl, ⟨nd, rfl⟩⟩))
 go_ret
 exact ⟨zv, (zb HB)⟩
/-! ### impl_PoolRead: function 23 -/
def impl_PoolRead.j0 : Nat → Int → Int → Bool → List (S55) → List (S38) → Option (ByteArray × Bool)
 | 0, _, _, _, _, _ => none
 | k + 1, x2, x8, x20, x163000, x163001 => if x20 = true then (some ((⟨#[]⟩ : ByteArray), false)) else (if 0 ≤ x8 then (if x8 < (x163001.length : Int) then (if 0 ≤ x2 then (if x2 < (((rd_T38 x163001 x8).f1).length : Int) then (if (rd ((rd_T38 x163001 x8).f1) x2) > 0 then (if 0 ≤ (wrap64 ((rd ((rd_T38 x163001 x8).f1) x2) - 1)) then (if (wrap64 ((rd ((rd_T38 x163001 x8).f1) x2) - 1)) < (x163000.length : Int) then (some ((rd_T55 x163000 (wrap64 ((rd ((rd_T38 x163001 x8).f1) x2) - 1))).f0, true)) else (none)) else (none)) else (some ((⟨#[]⟩ : ByteArray), true))) else (none)) else (none)) else (none)) else (none))
def impl_PoolRead.f (k : Nat) (l0_0 : List (S55)) (l0_1 : List (S38)) (a1 : ByteArray) (a2 : Int) : Option (ByteArray × Bool) := (impl_Pool_hasBlock.f l0_0 l0_1 a1 a2).bind fun t163 => (if t163 < 0 then (impl_PoolRead.j0 k a2 t163 true l0_0 l0_1) else ((impl_PoolOk.f k l0_0 l0_1).bind fun t164 => (impl_PoolRead.j0 k a2 t163 (!t164) l0_0 l0_1)))
theorem impl_PoolRead.mono_l : ∀ k, (∀ y0 y1 y2 y3 y4, LeO (impl_PoolRead.j0 k y0 y1 y2 y3 y4) (impl_PoolRead.j0 (k + 1) y0 y1 y2 y3 y4))
 | 0 => fun _ _ _ _ _ r h => by simp [impl_PoolRead.j0] at h
 | k + 1 => by
  have ih0 := impl_PoolRead.mono_l k
  intro y0 y1 y2 y3 y4
  unfold impl_PoolRead.j0
  exact mo2 ih0 @impl_PoolOk.mono
theorem impl_PoolRead.mono : ∀ a0 a1 a2 a3 k, LeO (impl_PoolRead.f k a0 a1 a2 a3) (impl_PoolRead.f (k + 1) a0 a1 a2 a3) := by
 intro a0 a1 a2 a3 k
 have ih0 := impl_PoolRead.mono_l k
 unfold impl_PoolRead.f
 exact mo2 ih0 @impl_PoolOk.mono
set_option maxHeartbeats 8000000 in
set_option maxRecDepth 100000 in
theorem impl_PoolRead.calls (k : Nat) (A0_0 : Option Addr) (c0_0 : Nat) (l0_0 : List (S55)) (A0_1 : Option Addr) (c0_1 : Nat) (l0_1 : List (S38)) (a1 : ByteArray) (a2 : Int) (r1 : ByteArray) (r2 : Bool) (w : World) (hr0_0 : Kd.C k55 w A0_0 l0_0.length l0_0) (hc0_0 : l0_0.length ≤ c0_0) (hr0_1 : Kd.C k38 w A0_1 l0_1.length l0_1) (hc0_1 : l0_1.length ≤ c0_1) (h : impl_PoolRead.f k l0_0 l0_1 a1 a2 = some (r1, r2)) :
 Calls Try.prog 23 #[.agg #[.slice A0_0 l0_0.length c0_0, .slice A0_1 l0_1.length c0_1], .string a1, .int .i64 a2] w fun e w' => e = .returned (.tuple #[.string r1, .bool r2]) ∧ Below w.heap.size w w' := by
 have hu31 := Try.underlying31
 have HR0_0 := am hr0_0
 have HC0_0 := am hc0_0
 clear hr0_0 hc0_0
 have HR0_1 := am hr0_1
 have HC0_1 := am hc0_1
 clear hr0_1 hc0_1
 have HB := am (Below.refl w.heap.size w)
 have H : ((impl_Pool_hasBlock.f l0_0 l0_1 a1 a2).bind fun t163 => (if t163 < 0 then (impl_PoolRead.j0 k a2 t163 true l0_0 l0_1) else ((impl_PoolOk.f k l0_0 l0_1).bind fun t164 => (impl_PoolRead.j0 k a2 t163 (!t164) l0_0 l0_1)))) = some (r1, r2) := h
 clear h
 replace H := obs H
 obtain ⟨t163, A40, H⟩ := H
 replace H : (if t163 < 0 then (impl_PoolRead.j0 k a2 t163 true l0_0 l0_1) else ((impl_PoolOk.f k l0_0 l0_1).bind fun t164 => (impl_PoolRead.j0 k a2 t163 (!t164) l0_0 l0_1))) = some (r1, r2) := H
 have A4 := am A40
 clear A40
 have HC5 := am H
 clear H
 go_enter Try.func23, Try.ntmps23
 go_upto_region 2 with (first | ((with_reducible refine gate_dst (N := 3) rfl ?_); refine bx 31 #[.slice A0_0 l0_0.length c0_0, .slice A0_1 l0_1.length c0_1] ?_; intro gb162 hg w6 hbox hb; have BK162 := am (hbox); have GW162 := am (zn hg (zb HB)); have GE162 := am (zn hg (zb HB)); replace HB := am (below_step (zb HB) hb); clear hb hbox hg; have hcz7_0 := ce0 BK162; have hcz7_1 := ce1 BK162; have hfz7_0 := bfz BK162 0; have hfz7_1 := bfz BK162 1) | ((with_reducible refine gate_callee (f := 58) rfl ?_); refine gl Try.func58 13 #[.agg #[.slice A0_0 l0_0.length c0_0, .slice A0_1 l0_1.length c0_1], .string a1, .int .i64 a2] rfl rfl rfl ?_; (with_reducible refine (impl_Pool_hasBlock.calls _ _ l0_0 _ _ l0_1 a1 a2 t163 _ ?side1 ?side2 ?side3 ?side4 A4.out).mono ?_); (case side1 => exact zc (Kd.C_below HR0_0.out HB.out)); (case side2 => exact HC0_0.out); (case side3 => exact zc (Kd.C_below HR0_1.out HB.out)); (case side4 => exact HC0_1.out); rintro e w8 ⟨rfl, hb⟩; refine ⟨_, rfl, ?_⟩; replace BK162 := am (blk_below (zk BK162) hb); replace HB := am (below_step (zb HB) hb); (try clear hb); (try clear hb2); (try clear hk); (try clear hi)))
 (try simp only [Act.put, List.setIfInBounds_toArray, List.set_cons_zero, List.set_cons_succ])
 go_cut [20] (fun v20 wc => ∃ (kq : Nat) (x20_4 : Bool), v20 = .bool x20_4 ∧ Aside0 (impl_PoolRead.j0 kq a2 t163 x20_4 l0_0 l0_1 = some (r1, r2)) ∧ Aside0 (kq ≤ k) ∧ Aside0 (wc.heap[gb162]? = some (.cells #[(.slice A0_0 l0_0.length c0_0), (.slice A0_1 l0_1.length c0_1)] 31 (0, 0))) ∧ Aside0 (Below w.heap.size w wc))
 case first =>
  have H := HC5.out
  clear HC5
  by_cases c9 : t163 < 0
  · rw [if_pos c9] at H
    have c9b0 : decide (t163 < 0) = true := decide_eq_true c9
    clear c9
    (first | rw [c9b0] | (simp only [i64_w, i32_w]; rw [c9b0]) | skip)
    have H' := am H
    clear H
    go_wp2
    go_meet
    case rel => exact ⟨_, (true), ze, H', ⟨by first | omega | exact Nat.le_refl _⟩, ⟨zk BK162⟩, ⟨zb HB⟩⟩
  rw [if_neg c9] at H
  have c9b0 : decide (t163 < 0) = false := decide_eq_false c9
  clear c9
  (first | rw [c9b0] | (simp only [i64_w, i32_w]; rw [c9b0]) | skip)
  replace H := obs H
  obtain ⟨t164, A100, H⟩ := H
  replace H : (impl_PoolRead.j0 k a2 t163 (!t164) l0_0 l0_1) = some (r1, r2) := H
  have A10 := am A100
  clear A100
  have H' := am H
  clear H
  have hcz11_0 := ce0 BK162
  have hcz11_1 := ce1 BK162
  have hfz11_0 := bfz BK162 0
  have hfz11_1 := bfz BK162 1
  go_wp2_with (first | (go_at_call 17; (with_reducible refine (impl_PoolOk.calls k _ _ l0_0 _ _ l0_1 t164 _ ?side1 ?side2 ?side3 ?side4 A10.out).mono ?_); (case side1 => exact zc (Kd.C_below HR0_0.out HB.out)); (case side2 => exact HC0_0.out); (case side3 => exact zc (Kd.C_below HR0_1.out HB.out)); (case side4 => exact HC0_1.out); rintro e w12 ⟨rfl, hb⟩; replace BK162 := am (blk_below (zk BK162) hb); replace HB := am (below_step (zb HB) hb); (try clear hb); (try clear hb2); (try clear hk); (try clear hi)))
  go_meet
  case rel => exact ⟨_, (!t164), ze, H', ⟨by first | omega | exact Nat.le_refl _⟩, ⟨zk BK162⟩, ⟨zb HB⟩⟩
 clear HC5
 try clear c2
 try clear p2
 try clear c5
 try clear c9
 try clear c9b0
 try clear hcz11_0
 try clear hcz11_1
 try clear hcz7_0
 try clear hcz7_1
 try clear hfz11_0
 try clear hfz11_1
 try clear hfz7_0
 try clear hfz7_1
 obtain ⟨kq, x20_4, rfl, HA, HJ4, BK162, HB⟩ := hcut
 cases kq with
 | zero => exact absurd HA.out (by simp [impl_PoolRead.j0])
 | succ kj4 =>
  have H := HA.out
  clear HA
  simp only [impl_PoolRead.j0] at H
  by_cases c13 : x20_4 = true
  · subst c13
    have H1 : (some ((⟨#[]⟩ : ByteArray), false)) = some (r1, r2) := by rw [if_pos rfl] at H; exact H
    clear H
    have H := H1
    clear H1
    simp only [Option.some.injEq, Prod.mk.injEq] at H
    obtain ⟨rfl, rfl⟩ := H
    go_wp2
    go_ret2
    exact ⟨zv, (zb HB)⟩
  replace c13 := Bool.eq_false_iff.mpr c13
  subst c13
  have H1 : (if 0 ≤ t163 then (if t163 < (l0_1.length : Int) then (if 0 ≤ a2 then (if a2 < (((rd_T38 l0_1 t163).f1).length : Int) then (if (rd ((rd_T38 l0_1 t163).f1) a2) > 0 then (if 0 ≤ (wrap64 ((rd ((rd_T38 l0_1 t163).f1) a2) - 1)) then (if (wrap64 ((rd ((rd_T38 l0_1 t163).f1) a2) - 1)) < (l0_0.length : Int) then (some ((rd_T55 l0_0 (wrap64 ((rd ((rd_T38 l0_1 t163).f1) a2) - 1))).f0, true)) else (none)) else (none)) else (some ((⟨#[]⟩ : ByteArray), true))) else (none)) else (none)) else (none)) else (none)) = some (r1, r2) := by rw [if_neg (show ¬ (false = true) by decide)] at H; exact H
  clear H
  have H := H1
  clear H1
  by_cases c14 : 0 ≤ t163
  rotate_left
  · rw [if_neg c14] at H
    exact absurd H (by simp)
  rw [if_pos c14] at H
  have c14b0 : decide (0 ≤ t163) = true := decide_eq_true c14
  clear c14
  by_cases c15 : t163 < (l0_1.length : Int)
  rotate_left
  · rw [if_neg c15] at H
    exact absurd H (by simp)
  rw [if_pos c15] at H
  have c15b0 : decide (t163 < (l0_1.length : Int)) = true := decide_eq_true c15
  clear c15
  by_cases c16 : 0 ≤ a2
  rotate_left
  · rw [if_neg c16] at H
    exact absurd H (by simp)
  rw [if_pos c16] at H
  have c16b0 : decide (0 ≤ a2) = true := decide_eq_true c16
  clear c16
  by_cases c17 : a2 < (((rd_T38 l0_1 t163).f1).length : Int)
  rotate_left
  · rw [if_neg c17] at H
    exact absurd H (by simp)
  rw [if_pos c17] at H
  have c17b0 : decide (a2 < (((rd_T38 l0_1 t163).f1).length : Int)) = true := decide_eq_true c17
  clear c17
  by_cases c18 : (rd ((rd_T38 l0_1 t163).f1) a2) > 0
  rotate_left
  · rw [if_neg c18] at H
    have c18b0 : decide (0 < (rd ((rd_T38 l0_1 t163).f1) a2)) = false := decide_eq_false c18
    clear c18
    simp only [Option.some.injEq, Prod.mk.injEq] at H
    obtain ⟨rfl, rfl⟩ := H
    have hcz23_0 := ce0 BK162
    have hcz23_1 := ce1 BK162
    have hfz23_0 := bfz BK162 0
    have hfz23_1 := bfz BK162 1
    have p165 : 0 ≤ (t163 : Int) := of_decide_eq_true zl
    have q165 : t163 < (l0_1.length : Int) := of_decide_eq_true zl
    obtain ⟨ad165, A165_1, c165_1, e165, hx165_0, hx165_1, hl165_1, hi165_1⟩ := at_T38 HR0_1.out t163 p165 q165
    cases e165
    replace hx165_0 := hcx HB hx165_0
    replace hx165_1 := hcx HB hx165_1
    have HR165_1 := am hi165_1
    have HC165_1 := am hl165_1
    clear hi165_1 hl165_1
    replace p165 := eq_true p165
    replace q165 := eq_true q165
    have p166 : 0 ≤ (a2 : Int) := of_decide_eq_true zl
    have q166 : a2 < (((rd_T38 l0_1 t163).f1).length : Int) := of_decide_eq_true zl
    obtain ⟨ad166, e166, hx166_0⟩ := Kd.at_int HR165_1.out a2 p166 q166
    cases e166
    replace hx166_0 := hcx HB hx166_0
    replace p166 := eq_true p166
    replace q166 := eq_true q166
    go_wp2
    go_ret2
    exact ⟨zv, (zb HB)⟩
  rw [if_pos c18] at H
  have c18b0 : decide (0 < (rd ((rd_T38 l0_1 t163).f1) a2)) = true := decide_eq_true c18
  clear c18
  obtain ⟨ji19, hji19⟩ : ∃ j_ : Int, (wrap64 ((rd ((rd_T38 l0_1 t163).f1) a2) - 1)) = j_ := ⟨_, rfl⟩
  replace H : (if 0 ≤ (ji19) then (if (ji19) < (l0_0.length : Int) then (some ((rd_T55 l0_0 (ji19)).f0, true)) else (none)) else (none)) = some (r1, r2) := by first | (rw [hji19] at H; exact H) | (simp only [hji19] at H ⊢; exact H)
  have hji19w : (IntKind.i64.wrap ((rd ((rd_T38 l0_1 t163).f1) a2) - 1)) = ji19 := (i64_w _).trans hji19
  by_cases c20 : 0 ≤ (ji19)
  rotate_left
  · rw [if_neg c20] at H
    exact absurd H (by simp)
  rw [if_pos c20] at H
  have c20b0 : decide (0 ≤ (ji19)) = true := decide_eq_true c20
  clear c20
  by_cases c21 : (ji19) < (l0_0.length : Int)
  rotate_left
  · rw [if_neg c21] at H
    exact absurd H (by simp)
  rw [if_pos c21] at H
  have c21b0 : decide ((ji19) < (l0_0.length : Int)) = true := decide_eq_true c21
  clear c21
  simp only [Option.some.injEq, Prod.mk.injEq] at H
  obtain ⟨rfl, rfl⟩ := H
  have hcz22_0 := ce0 BK162
  have hcz22_1 := ce1 BK162
  have hfz22_0 := bfz BK162 0
  have hfz22_1 := bfz BK162 1
  have p165 : 0 ≤ (t163 : Int) := of_decide_eq_true zl
  have q165 : t163 < (l0_1.length : Int) := of_decide_eq_true zl
  obtain ⟨ad165, A165_1, c165_1, e165, hx165_0, hx165_1, hl165_1, hi165_1⟩ := at_T38 HR0_1.out t163 p165 q165
  cases e165
  replace hx165_0 := hcx HB hx165_0
  replace hx165_1 := hcx HB hx165_1
  have HR165_1 := am hi165_1
  have HC165_1 := am hl165_1
  clear hi165_1 hl165_1
  replace p165 := eq_true p165
  replace q165 := eq_true q165
  have p166 : 0 ≤ (a2 : Int) := of_decide_eq_true zl
  have q166 : a2 < (((rd_T38 l0_1 t163).f1).length : Int) := of_decide_eq_true zl
  obtain ⟨ad166, e166, hx166_0⟩ := Kd.at_int HR165_1.out a2 p166 q166
  cases e166
  replace hx166_0 := hcx HB hx166_0
  replace p166 := eq_true p166
  replace q166 := eq_true q166
  have p167 : 0 ≤ ((ji19) : Int) := of_decide_eq_true zl
  have q167 : (ji19) < (l0_0.length : Int) := of_decide_eq_true zl
  obtain ⟨ad167, e167, hx167_0, hx167_1⟩ := at_T55 HR0_0.out (ji19) p167 q167
  cases e167
  replace hx167_0 := hcx HB hx167_0
  replace hx167_1 := hcx HB hx167_1
  replace p167 := eq_true p167
  replace q167 := eq_true q167
  go_wp2
  go_ret2
  exact ⟨by first | rfl | (simp [errW_none, errW_some] <;> rfl) | (simp only [← hji19]; first | rfl | (simp [errW_none, errW_some] <;> rfl)) | (simp [*, errW_none, errW_some] <;> rfl), (zb HB)⟩
/-- A state of type 93 at block g of W; what its slices lead to came in by w0. -/
def IsS93 (w0 W : World) (g : Nat) (f0 : List Int) (f1 : Int) : Prop := ∃ A0 c0, W.heap[g]? = some (.cells #[.slice A0 f0.length c0, .int .i64 f1] 93 (0, 0)) ∧ w0.heap.size ≤ g ∧ Kd.C (Kd.int .u8) w0 A0 f0.length f0
theorem IsS93.grown {w0 W : World} {g : Nat} {f0 : List Int} {f1 : Int} {W1 : World} {row : Option Nat} (h : IsS93 w0 W g f0 f1) (hw : W.grownBy W1 row) (hne : some g ≠ row) : IsS93 w0 W1 g f0 f1 := by
 obtain ⟨A0, c0, hb, hg, hr0⟩ := h
 exact ⟨A0, c0, blk_grown hb hw hne, hg, hr0⟩
theorem IsS93.own_neN {w0 W : World} {g : Nat} {f0 : List Int} {f1 : Int} {α : Type} {d : Kd α} {e : Nat} {base : Nat} {ok : Nat → Prop} {v : Value} {xs : List α} (h : IsS93 w0 W g f0 f1) (ho : Kd.N d e W base ok v xs) (ht : e ≠ 93) : some g ≠ v.ownBlock := by
 obtain ⟨A0, c0, hb, hg, hr0⟩ := h
 exact Kd.N_ne ho hb ht
theorem IsS93.fresh {w0 W : World} {g : Nat} {f0 : List Int} {f1 : Int} (h : IsS93 w0 W g f0 f1) : ∀ k, W.heap.size ≤ k → k ≠ g := by
 obtain ⟨A0, c0, hb, hg, hr0⟩ := h
 exact Kd.freshB hb
theorem IsS93.kept {w0 W : World} {g : Nat} {f0 : List Int} {f1 : Int} {W1 : World} {S : Nat → Prop} (h : IsS93 w0 W g f0 f1) (hk : Kept W W1 S) (hne : ¬ S g) : IsS93 w0 W1 g f0 f1 := by
 obtain ⟨A0, c0, hb, hg, hr0⟩ := h
 exact ⟨A0, c0, blk_kept hb hk hne, hg, hr0⟩
theorem IsS93.below {w0 W : World} {g : Nat} {f0 : List Int} {f1 : Int} {W1 : World} (h : IsS93 w0 W g f0 f1) (hw : Below W.heap.size W W1) : IsS93 w0 W1 g f0 f1 := h.grown (grown_of_below hw none) (by simp)
theorem IsS93.alloc {w0 W : World} {g : Nat} {f0 : List Int} {f1 : Int} (h : IsS93 w0 W g f0 f1) (o : Obj) : IsS93 w0 (W.alloc o) g f0 f1 := h.below (below_alloc (Below.refl _ _) o)
theorem IsS93.drewN {w0 W : World} {g : Nat} {f0 : List Int} {f1 : Int} (h : IsS93 w0 W g f0 f1) (m : Nat) : IsS93 w0 (W.drewN m) g f0 f1 := h
theorem IsS93.drew {w0 W : World} {g : Nat} {f0 : List Int} {f1 : Int} (h : IsS93 w0 W g f0 f1) : IsS93 w0 W.drew g f0 f1 := h
theorem IsS93.at_ {w0 W : World} {g : Nat} {f0 : List Int} {f1 : Int} {w' : World} {m : Nat} (hq : W.drewN m = w') (h : IsS93 w0 W g f0 f1) : IsS93 w0 w' g f0 f1 := by subst hq; exact IsS93.drewN h m
theorem IsS93.apart {w0 W : World} {g : Nat} {f0 : List Int} {f1 : Int} {α : Type} {d : Kd α} {e : Nat} {base : Nat} {ok : Nat → Prop} {v : Value} {xs : List α} (h : IsS93 w0 W g f0 f1) (ho : d.R e W base ok v xs) (ht : ∀ q, q ∈ e :: d.E → q ≠ 93) : d.R e W base (fun k => ok k ∧ k ≠ g) v xs := by
 obtain ⟨A0, c0, hb, hg, hr0⟩ := h
 exact Kd.R_types ho hb ht
theorem IsS93.own_ne {w0 W : World} {g : Nat} {f0 : List Int} {f1 : Int} {α : Type} {d : Kd α} {e : Nat} {base : Nat} {ok : Nat → Prop} {v : Value} {xs : List α} (h : IsS93 w0 W g f0 f1) (ho : d.R e W base ok v xs) (ht : e ≠ 93) : some g ≠ v.ownBlock := by
 obtain ⟨A0, c0, hb, hg, hr0⟩ := h
 exact Kd.R_ne ho hb ht
theorem IsS93.apartQ {w0 W : World} {g : Nat} {f0 : List Int} {f1 : Int} {α : Type} {d : Kd α} {e : Nat} {base : Nat} {ok : Nat → Prop} {v : Value} {xs : List α} (h : IsS93 w0 W g f0 f1) (ho : d.Q e W base ok v xs) (ht : ∀ q, q ∈ e :: d.E → q ≠ 93) : d.Q e W base (fun k => ok k ∧ k ≠ g) v xs := by
 obtain ⟨A0, c0, hb, hg, hr0⟩ := h
 exact Kd.Q_types ho hb ht
theorem IsS93.own_neQ {w0 W : World} {g : Nat} {f0 : List Int} {f1 : Int} {α : Type} {d : Kd α} {e : Nat} {base : Nat} {ok : Nat → Prop} {v : Value} {xs : List α} (h : IsS93 w0 W g f0 f1) (ho : d.Q e W base ok v xs) (ht : e ≠ 93) : some g ≠ v.ownBlock := by
 obtain ⟨A0, c0, hb, hg, hr0⟩ := h
 exact Kd.Q_ne ho hb ht
theorem IsS93.apartS {w0 W : World} {g : Nat} {f0 : List Int} {f1 : Int} {α : Type} {d : Kd α} {e : Nat} {base : Nat} {ok : Nat → Prop} {v : Value} {xs : List α} (h : IsS93 w0 W g f0 f1) (ho : d.S e W base ok v xs) (ht : ∀ q, q ∈ e :: d.E → q ≠ 93) : d.S e W base (fun k => ok k ∧ k ≠ g) v xs := by
 obtain ⟨A0, c0, hb, hg, hr0⟩ := h
 exact Kd.S_types ho hb ht
theorem IsS93.own_neS {w0 W : World} {g : Nat} {f0 : List Int} {f1 : Int} {α : Type} {d : Kd α} {e : Nat} {base : Nat} {ok : Nat → Prop} {v : Value} {xs : List α} (h : IsS93 w0 W g f0 f1) (ho : d.S e W base ok v xs) (ht : e ≠ 93) : some g ≠ v.ownBlock := by
 obtain ⟨A0, c0, hb, hg, hr0⟩ := h
 exact Kd.S_ne ho hb ht
theorem IsS93.lt {w0 W : World} {g : Nat} {f0 : List Int} {f1 : Int} (h : IsS93 w0 W g f0 f1) : g < W.heap.size := by
 obtain ⟨A0, c0, hb, hg, hr0⟩ := h
 exact blk_lt hb
theorem IsS93.ge {w0 W : World} {g : Nat} {f0 : List Int} {f1 : Int} (h : IsS93 w0 W g f0 f1) : w0.heap.size ≤ g := by
 obtain ⟨A0, c0, hb, hg, hr0⟩ := h
 exact hg
theorem IsS93.ne_blk {w0 W : World} {g : Nat} {f0 : List Int} {f1 : Int} {a : Nat} {cs : Array Value} {t : TypeId} {fr : Nat × Nat} (h : IsS93 w0 W g f0 f1) (hb2 : W.heap[a]? = some (.cells cs t fr)) (ht : t ≠ 93) : g ≠ a := by
 obtain ⟨A0, c0, hb, hg, hr0⟩ := h
 rintro rfl
 rw [hb] at hb2
 injection hb2 with hb2
 injection hb2 with _ ht2
 exact ht ht2.symm
theorem IsS93.far {w0 W : World} {g : Nat} {f0 : List Int} {f1 : Int} {p : Addr} (h : IsS93 w0 W g f0 f1) (hne : g ≠ p.block) (u : Value) : IsS93 w0 (W.setCell p u) g f0 f1 := by
 obtain ⟨A0, c0, hb, hg, hr0⟩ := h
 exact ⟨A0, c0, blk_far hb hne u, hg, hr0⟩
theorem cellS93_0 {W : World} {g : Nat} {A0 : Option Addr} {c0 : Nat} {f0 : List Int} {f1 : Int} (h : W.heap[g]? = some (.cells #[.slice A0 f0.length c0, .int .i64 f1] 93 (0, 0))) : W.cell? ⟨g, 0, none⟩ = some (.slice A0 f0.length c0) := (blk_cell h 0).trans rfl
theorem cellS93_1 {W : World} {g : Nat} {A0 : Option Addr} {c0 : Nat} {f0 : List Int} {f1 : Int} (h : W.heap[g]? = some (.cells #[.slice A0 f0.length c0, .int .i64 f1] 93 (0, 0))) : W.cell? ⟨g, 1, none⟩ = some (.int .i64 f1) := (blk_cell h 1).trans rfl
theorem IsS93.set_1 {w0 W : World} {g : Nat} {f0 : List Int} {f1 : Int} (h : IsS93 w0 W g f0 f1) (x : Int) : IsS93 w0 (W.setCell ⟨g, 1, none⟩ (.int .i64 x)) g f0 x := by
 obtain ⟨A0, c0, hb, hg, hr0⟩ := h
 exact ⟨A0, c0, by simpa using blk_set hb 1 (.int .i64 x), hg, hr0⟩
theorem IsS93.new (w0 W : World) (A0 : Option Addr) (c0 : Nat) (f0 : List Int) (f1 : Int) (hB : Below w0.heap.size w0 W) (hr0 : Kd.C (Kd.int .u8) w0 A0 f0.length f0) : IsS93 w0 (W.alloc (.cells #[.slice A0 f0.length c0, .int .i64 f1] 93)) W.heap.size f0 f1 := ⟨A0, c0, by simpa using heap_alloc_new W _, hB.size, hr0⟩
theorem zi {w0 W W' : World} {g : Nat} {f0 : List Int} {f1 f1' : Int} (h : Aside0 (IsS93 w0 W g f0 f1))
 (f : IsS93 w0 W g f0 f1 → IsS93 w0 W' g f0 f1' := by intro h_; repeat (first | (with_reducible first | exact h_ | apply IsS93.alloc | apply IsS93.drewN | apply IsS93.drew | apply IsS93.set_1 | apply IsS93.far | exact Aside0.out (by assumption)) | exact h_)) :
 IsS93 w0 W' g f0 f1' := f h.out
theorem ix {w0 W : World} {g g' : Nat} {f0 : List Int} {f1 : Int} (hg : g' = W.heap.size) (h : IsS93 w0 W g f0 f1) : g ≠ g' := hg ▸ Nat.ne_of_lt h.lt
theorem iy {w0 W : World} {g g' : Nat} {f0 : List Int} {f1 : Int} (hg : g' = W.heap.size) (h : IsS93 w0 W g f0 f1) : g' ≠ g := (ix hg h).symm
/-! ### spec_l6Open: function 49 -/
def spec_l6Open.f (l0 : List Int) : Option (List Int × Int) := if (l0.length : Int) > 2000 then (if 2000 ≤ (l0.length : Int) then (some (l0.take 2000, 0)) else (none)) else (some (l0, 0))
set_option maxHeartbeats 8000000 in
set_option maxRecDepth 100000 in
theorem spec_l6Open.calls (A0 : Option Addr) (c0 : Nat) (l0 : List Int) (r1 : List Int) (r2 : Int) (w0 w : World) (hB : Below w0.heap.size w0 w) (hr0 : Kd.C (Kd.int .u8) w0 A0 l0.length l0) (hc0 : l0.length ≤ c0) (h : spec_l6Open.f l0 = some (r1, r2)) :
 Calls Try.prog 49 #[.slice A0 l0.length c0] w fun e w' => ∃ g_ : Nat, e = .returned (.pointer (some ⟨g_, 0, none⟩)) ∧ IsS93 w0 w' g_ r1 r2 ∧ Below w0.heap.size w0 w' ∧ Below w.heap.size w w' := by
 have hu93 := Try.underlying93
 have HR0 := am hr0
 have HC0 := am hc0
 clear hr0 hc0
 have HBW := am (Below.refl w.heap.size w)
 have HW0 := am hB.size
 have HB := am hB
 clear hB
 have H : (if (l0.length : Int) > 2000 then (if 2000 ≤ (l0.length : Int) then (some (l0.take 2000, 0)) else (none)) else (some (l0, 0))) = some (r1, r2) := h
 clear h
 by_cases c2 : (l0.length : Int) > 2000
 rotate_left
 · rw [if_neg c2] at H
   have c2b0 : decide (2000 < (l0.length : Int)) = false := decide_eq_false c2
   have c2b1 : decide (2000 < l0.length) = false := decide_eq_false (by omega)
   clear c2
   simp only [Option.some.injEq, Prod.mk.injEq] at H
   obtain ⟨rfl, rfl⟩ := H
   go_enter Try.func49, Try.ntmps49
   go_wp2_with (first | ((with_reducible refine gate_dst (N := 10) rfl ?_); refine bx 93 #[.slice A0 l0.length c0, .int .i64 0] ?_; intro gb170 hg w6 hbox hb; replace HB := am (below_step (zb HB) hb); have BK170 := am (hbox); have GW170 := am (zn hg (zb HBW)); have GE170 := am ((Nat.le_trans HW0.out (zn hg (zb HBW)) : w0.heap.size ≤ gb170)); replace HBW := am (below_step HBW.out hb); clear hb hbox hg))
   go_ret
   exact ⟨_, rfl, (show IsS93 w0 _ gb170 l0 0 from ⟨_, _, (zk BK170), GE170.out, HR0.out⟩), (zb HB), (zb HBW)⟩
 rw [if_pos c2] at H
 have c2b0 : decide (2000 < (l0.length : Int)) = true := decide_eq_true c2
 have c2b1 : decide (2000 < l0.length) = true := decide_eq_true (by omega)
 clear c2
 by_cases c3 : 2000 ≤ (l0.length : Int)
 rotate_left
 · rw [if_neg c3] at H
   exact absurd H (by simp)
 rw [if_pos c3] at H
 have c3b0 := eq_true c3
 have c3b1 : decide (2000 ≤ (l0.length : Int)) = true := decide_eq_true c3
 clear c3
 simp only [Option.some.injEq, Prod.mk.injEq] at H
 obtain ⟨rfl, rfl⟩ := H
 obtain ⟨i04, hi04, _, hsz4, _⟩ := info_parts info5
 obtain ⟨hcut4, hA4, hC4⟩ := print_take_of (P := Try.prog) (Value.int .u8) 0 35 5 .i64 Try.underlying35 hi04 hsz4 A0 c0 l0 2000 (by omega) (of_decide_eq_true zl) HC0.out
 have HR168 := am (Kd.C_of_reads (h1 := fun _ => rfl) (hA4 _ (Kd.reads_of_C HR0.out)))
 have HC168 := am hC4
 clear hA4 hC4 hi04 hsz4
 go_enter Try.func49, Try.ntmps49
 go_wp2_with (first | ((with_reducible refine gate_dst (N := 10) rfl ?_); refine bx 93 #[.slice A0 (l0.take 2000).length c0, .int .i64 0] ?_; intro gb169 hg w5 hbox hb; replace HB := am (below_step (zb HB) hb); have BK169 := am (hbox); have GW169 := am (zn hg (zb HBW)); have GE169 := am ((Nat.le_trans HW0.out (zn hg (zb HBW)) : w0.heap.size ≤ gb169)); replace HBW := am (below_step HBW.out hb); clear hb hbox hg))
 go_ret
 exact ⟨_, rfl, (show IsS93 w0 _ gb169 (l0.take 2000) 0 from ⟨_, _, (zk BK169), GE169.out, HR168.out⟩), (zb HB), (zb HBW)⟩
/-! ### spec_l6Rd_pick: function 51 -/
def spec_l6Rd_pick.j0 : Nat → Int → Bool → List Int → Int → Option (Int × Int)
 | 0, _, _, _, _ => none
 | k + 1, x1, x24, x1000, x1001 => if x24 = true then (some (0, x1001)) else (if (wrap64 (x1001 - 1)) < (x1000.length : Int) then (if 0 ≤ (wrap64 (x1001 - 1)) then (if x1 = 0 then (none) else (some (Int.tmod (wrap64 (rd x1000 (wrap64 (x1001 - 1)))) x1, x1001))) else (none)) else (if (x1000.length : Int) = 0 then (none) else (if 0 ≤ (Int.tmod (wrap64 (x1001 - 1)) (x1000.length : Int)) then (if (Int.tmod (wrap64 (x1001 - 1)) (x1000.length : Int)) < (x1000.length : Int) then (if 0 ≤ (Int.tmod (wrap64 ((wrap64 ((wrap64 (x1001 - 1)) * 7)) + 3)) (x1000.length : Int)) then (if (Int.tmod (wrap64 ((wrap64 ((wrap64 (x1001 - 1)) * 7)) + 3)) (x1000.length : Int)) < (x1000.length : Int) then (if x1 = 0 then (none) else (some (Int.tmod (Go.bits .xor .i64 (wrap64 ((wrap64 ((wrap64 ((wrap64 ((wrap64 (rd x1000 (Int.tmod (wrap64 (x1001 - 1)) (x1000.length : Int)))) * 131)) + (wrap64 ((wrap64 (rd x1000 (Int.tmod (wrap64 ((wrap64 ((wrap64 (x1001 - 1)) * 7)) + 3)) (x1000.length : Int)))) * 1117)))) + (wrap64 ((wrap64 (x1001 - 1)) * 29)))) + (wrap64 ((wrap64 (Int.tdiv (wrap64 (x1001 - 1)) (x1000.length : Int))) * 53)))) (wrap64 (Int.tdiv (wrap64 ((wrap64 ((wrap64 ((wrap64 ((wrap64 (rd x1000 (Int.tmod (wrap64 (x1001 - 1)) (x1000.length : Int)))) * 131)) + (wrap64 ((wrap64 (rd x1000 (Int.tmod (wrap64 ((wrap64 ((wrap64 (x1001 - 1)) * 7)) + 3)) (x1000.length : Int)))) * 1117)))) + (wrap64 ((wrap64 (x1001 - 1)) * 29)))) + (wrap64 ((wrap64 (Int.tdiv (wrap64 (x1001 - 1)) (x1000.length : Int))) * 53)))) 64))) x1, x1001))) else (none)) else (none)) else (none)) else (none))))
def spec_l6Rd_pick.f (k : Nat) (s0_0 : List Int) (s0_1 : Int) (a1 : Int) : Option (Int × Int) := if a1 < 1 then (spec_l6Rd_pick.j0 k a1 true s0_0 (wrap64 (s0_1 + 1))) else (spec_l6Rd_pick.j0 k a1 ((s0_0.length : Int) == 0) s0_0 (wrap64 (s0_1 + 1)))
theorem spec_l6Rd_pick.mono_l : ∀ k, (∀ y0 y1 y2 y3, LeO (spec_l6Rd_pick.j0 k y0 y1 y2 y3) (spec_l6Rd_pick.j0 (k + 1) y0 y1 y2 y3))
 | 0 => fun _ _ _ _ r h => by simp [spec_l6Rd_pick.j0] at h
 | k + 1 => by
  have ih0 := spec_l6Rd_pick.mono_l k
  intro y0 y1 y2 y3
  unfold spec_l6Rd_pick.j0
  exact mo1 ih0
theorem spec_l6Rd_pick.mono : ∀ a0 a1 a2 k, LeO (spec_l6Rd_pick.f k a0 a1 a2) (spec_l6Rd_pick.f (k + 1) a0 a1 a2) := by
 intro a0 a1 a2 k
 have ih0 := spec_l6Rd_pick.mono_l k
 unfold spec_l6Rd_pick.f
 exact mo1 ih0
set_option maxHeartbeats 8000000 in
set_option maxRecDepth 100000 in
theorem spec_l6Rd_pick.calls (k : Nat) (g : Nat) (s0_0 : List Int) (s0_1 : Int) (a1 : Int) (r1 : Int) (r2 : Int) (w0 w : World) (hI : IsS93 w0 w g s0_0 s0_1) (hB : Below w0.heap.size w0 w) (h : spec_l6Rd_pick.f k s0_0 s0_1 a1 = some (r1, r2)) :
 Calls Try.prog 51 #[.pointer (some ⟨g, 0, none⟩), .int .i64 a1] w fun e w' => e = .returned (.int .i64 r1) ∧ IsS93 w0 w' g s0_0 r2 ∧ Below w0.heap.size w0 w' ∧ KeepBut w w' g none := by
 have HI0 := am hI
 have HK := am (KeepBut.refl w g none)
 have HL := am hB.size
 clear hI
 have HW0 := am hB.size
 have HB := am hB
 clear hB
 have H : (if a1 < 1 then (spec_l6Rd_pick.j0 k a1 true s0_0 (wrap64 (s0_1 + 1))) else (spec_l6Rd_pick.j0 k a1 ((s0_0.length : Int) == 0) s0_0 (wrap64 (s0_1 + 1)))) = some (r1, r2) := h
 clear h
 have HC3 := am H
 clear H
 obtain ⟨ASz4_0, cSz4_0, HGz4, hgz4, HSz4_0⟩ := HI0.out
 have hcz4_0 := cellS93_0 HGz4
 have hcz4_1 := cellS93_1 HGz4
 have hfz4_1 := blk_frozen HGz4 1
 clear HGz4 hgz4
 go_enter Try.func51, Try.ntmps51
 go_upto_region 2 with (fail)
 repeat (go_quiet (fail); go_upto_region 2 with (fail))
 go_cut [24] (fun v24 wc => ∃ (kq : Nat) (x24_2 : Bool), v24 = .bool x24_2 ∧ Aside0 (spec_l6Rd_pick.j0 kq a1 x24_2 s0_0 (wrap64 (s0_1 + 1)) = some (r1, r2)) ∧ Aside0 (kq ≤ k) ∧ Aside0 (IsS93 w0 wc g s0_0 (wrap64 (s0_1 + 1))) ∧ Aside0 (KeepBut w wc g none) ∧ Aside0 (Below w0.heap.size w0 wc))
 case first =>
  have H := HC3.out
  clear HC3
  by_cases c5 : a1 < 1
  · rw [if_pos c5] at H
    have c5b0 : decide (a1 < 1) = true := decide_eq_true c5
    clear c5
    (first | rw [c5b0] | (simp only [i64_w, i32_w]; rw [c5b0]) | skip)
    have H' := am H
    clear H
    go_wp2
    repeat (go_quiet (fail); try go_wp2)
    go_meet
    case rel => exact ⟨_, (true), ze, H', ⟨by first | omega | exact Nat.le_refl _⟩, ⟨zi HI0⟩, ⟨zh HK⟩, ⟨zb HB⟩⟩
  rw [if_neg c5] at H
  have c5b0 : decide (a1 < 1) = false := decide_eq_false c5
  clear c5
  (first | rw [c5b0] | (simp only [i64_w, i32_w]; rw [c5b0]) | skip)
  have H' := am H
  clear H
  obtain ⟨ASz6_0, cSz6_0, HGz6, hgz6, HSz6_0⟩ := HI0.out
  have hcz6_0 := cellS93_0 HGz6
  have hcz6_1 := cellS93_1 HGz6
  have hfz6_1 := blk_frozen HGz6 1
  clear HGz6 hgz6
  go_wp2
  repeat (go_quiet (fail); try go_wp2)
  go_meet
  case rel => exact ⟨_, (((s0_0.length : Int) == 0)), ze, H', ⟨by first | omega | exact Nat.le_refl _⟩, ⟨zi HI0⟩, ⟨zh HK⟩, ⟨zb HB⟩⟩
 clear HC3
 try clear p2
 try clear c5
 try clear c5b0
 try clear p6
 try clear hcz4_0
 try clear hcz4_1
 try clear hcz6_0
 try clear hcz6_1
 try clear hfz4_1
 try clear hfz6_1
 obtain ⟨kq, x24_2, rfl, HA, HJ2, HI0, HK, HB⟩ := hcut
 cases kq with
 | zero => exact absurd HA.out (by simp [spec_l6Rd_pick.j0])
 | succ kj2 =>
  have H := HA.out
  clear HA
  simp only [spec_l6Rd_pick.j0] at H
  by_cases c7 : x24_2 = true
  · subst c7
    have H1 : (some (0, (wrap64 (s0_1 + 1)))) = some (r1, r2) := by rw [if_pos rfl] at H; exact H
    clear H
    have H := H1
    clear H1
    simp only [Option.some.injEq, Prod.mk.injEq] at H
    obtain ⟨rfl, rfl⟩ := H
    go_wp2
    repeat (go_quiet (fail); try go_wp2)
    go_ret
    exact ⟨zv, (zi HI0), (zb HB), (zh HK)⟩
  replace c7 := Bool.eq_false_iff.mpr c7
  subst c7
  have H1 : (if (wrap64 ((wrap64 (s0_1 + 1)) - 1)) < (s0_0.length : Int) then (if 0 ≤ (wrap64 ((wrap64 (s0_1 + 1)) - 1)) then (if a1 = 0 then (none) else (some (Int.tmod (wrap64 (rd s0_0 (wrap64 ((wrap64 (s0_1 + 1)) - 1)))) a1, (wrap64 (s0_1 + 1))))) else (none)) else (if (s0_0.length : Int) = 0 then (none) else (if 0 ≤ (Int.tmod (wrap64 ((wrap64 (s0_1 + 1)) - 1)) (s0_0.length : Int)) then (if (Int.tmod (wrap64 ((wrap64 (s0_1 + 1)) - 1)) (s0_0.length : Int)) < (s0_0.length : Int) then (if 0 ≤ (Int.tmod (wrap64 ((wrap64 ((wrap64 ((wrap64 (s0_1 + 1)) - 1)) * 7)) + 3)) (s0_0.length : Int)) then (if (Int.tmod (wrap64 ((wrap64 ((wrap64 ((wrap64 (s0_1 + 1)) - 1)) * 7)) + 3)) (s0_0.length : Int)) < (s0_0.length : Int) then (if a1 = 0 then (none) else (some (Int.tmod (Go.bits .xor .i64 (wrap64 ((wrap64 ((wrap64 ((wrap64 ((wrap64 (rd s0_0 (Int.tmod (wrap64 ((wrap64 (s0_1 + 1)) - 1)) (s0_0.length : Int)))) * 131)) + (wrap64 ((wrap64 (rd s0_0 (Int.tmod (wrap64 ((wrap64 ((wrap64 ((wrap64 (s0_1 + 1)) - 1)) * 7)) + 3)) (s0_0.length : Int)))) * 1117)))) + (wrap64 ((wrap64 ((wrap64 (s0_1 + 1)) - 1)) * 29)))) + (wrap64 ((wrap64 (Int.tdiv (wrap64 ((wrap64 (s0_1 + 1)) - 1)) (s0_0.length : Int))) * 53)))) (wrap64 (Int.tdiv (wrap64 ((wrap64 ((wrap64 ((wrap64 ((wrap64 (rd s0_0 (Int.tmod (wrap64 ((wrap64 (s0_1 + 1)) - 1)) (s0_0.length : Int)))) * 131)) + (wrap64 ((wrap64 (rd s0_0 (Int.tmod (wrap64 ((wrap64 ((wrap64 ((wrap64 (s0_1 + 1)) - 1)) * 7)) + 3)) (s0_0.length : Int)))) * 1117)))) + (wrap64 ((wrap64 ((wrap64 (s0_1 + 1)) - 1)) * 29)))) + (wrap64 ((wrap64 (Int.tdiv (wrap64 ((wrap64 (s0_1 + 1)) - 1)) (s0_0.length : Int))) * 53)))) 64))) a1, (wrap64 (s0_1 + 1))))) else (none)) else (none)) else (none)) else (none)))) = some (r1, r2) := by rw [if_neg (show ¬ (false = true) by decide)] at H; exact H
  clear H
  have H := H1
  clear H1
  by_cases c8 : (wrap64 ((wrap64 (s0_1 + 1)) - 1)) < (s0_0.length : Int)
  · rw [if_pos c8] at H
    have c8b0 : decide ((wrap64 ((wrap64 (s0_1 + 1)) - 1)) < (s0_0.length : Int)) = true := decide_eq_true c8
    clear c8
    obtain ⟨ji9, hji9⟩ : ∃ j_ : Int, (wrap64 ((wrap64 (s0_1 + 1)) - 1)) = j_ := ⟨_, rfl⟩
    replace H : (if 0 ≤ (ji9) then (if a1 = 0 then (none) else (some (Int.tmod (wrap64 (rd s0_0 (ji9))) a1, (wrap64 (s0_1 + 1))))) else (none)) = some (r1, r2) := by first | (rw [hji9] at H; exact H) | (simp only [hji9] at H ⊢; exact H)
    (try rw [hji9] at c8b0)
    have hji9w : (IntKind.i64.wrap ((wrap64 (s0_1 + 1)) - 1)) = ji9 := (i64_w _).trans hji9
    by_cases c10 : 0 ≤ (ji9)
    rotate_left
    · rw [if_neg c10] at H
      exact absurd H (by simp)
    rw [if_pos c10] at H
    have c10b0 : decide (0 ≤ (ji9)) = true := decide_eq_true c10
    clear c10
    by_cases c11 : a1 = 0
    · rw [if_pos c11] at H
      exact absurd H (by simp)
    rw [if_neg c11] at H
    have c11b0 : (a1 == 0) = false := beq_eq_false_iff_ne.mpr c11
    have c11b1 : (a1 != 0) = true := bne_iff_ne.mpr c11
    simp only [Option.some.injEq, Prod.mk.injEq] at H
    obtain ⟨rfl, rfl⟩ := H
    obtain ⟨ASz12_0, cSz12_0, HGz12, hgz12, HSz12_0⟩ := HI0.out
    have hcz12_0 := cellS93_0 HGz12
    have hcz12_1 := cellS93_1 HGz12
    have hfz12_1 := blk_frozen HGz12 1
    clear HGz12 hgz12
    have p171 : 0 ≤ ((ji9) : Int) := of_decide_eq_true zl
    have q171 : (ji9) < (s0_0.length : Int) := of_decide_eq_true zl
    obtain ⟨ad171, e171, hx171_0⟩ := Kd.at_int HSz12_0 (ji9) p171 q171
    cases e171
    replace hx171_0 := pw_cell_below HB.out hx171_0
    replace p171 := eq_true p171
    replace q171 := eq_true q171
    go_wp2
    repeat (go_quiet (fail); try go_wp2)
    go_ret
    exact ⟨by first | rfl | (simp [errW_none, errW_some] <;> rfl) | (simp only [← hji9]; first | rfl | (simp [errW_none, errW_some] <;> rfl)) | (simp [*, errW_none, errW_some] <;> rfl), (zi HI0), (zb HB), (zh HK)⟩
  rw [if_neg c8] at H
  have c8b0 : decide ((wrap64 ((wrap64 (s0_1 + 1)) - 1)) < (s0_0.length : Int)) = false := decide_eq_false c8
  clear c8
  by_cases c13 : (s0_0.length : Int) = 0
  · rw [if_pos c13] at H
    exact absurd H (by simp)
  rw [if_neg c13] at H
  have c13b0 : ((s0_0.length : Int) == 0) = false := beq_eq_false_iff_ne.mpr c13
  have c13b1 : ((s0_0.length : Int) != 0) = true := bne_iff_ne.mpr c13
  have c13b2 : ¬ (s0_0 = []) := fun h_ => c13 (by rw [h_]; rfl)
  obtain ⟨ji14, hji14⟩ : ∃ j_ : Int, (Int.tmod (wrap64 ((wrap64 (s0_1 + 1)) - 1)) (s0_0.length : Int)) = j_ := ⟨_, rfl⟩
  replace H : (if 0 ≤ (ji14) then (if (ji14) < (s0_0.length : Int) then (if 0 ≤ (Int.tmod (wrap64 ((wrap64 ((wrap64 ((wrap64 (s0_1 + 1)) - 1)) * 7)) + 3)) (s0_0.length : Int)) then (if (Int.tmod (wrap64 ((wrap64 ((wrap64 ((wrap64 (s0_1 + 1)) - 1)) * 7)) + 3)) (s0_0.length : Int)) < (s0_0.length : Int) then (if a1 = 0 then (none) else (some (Int.tmod (Go.bits .xor .i64 (wrap64 ((wrap64 ((wrap64 ((wrap64 ((wrap64 (rd s0_0 (ji14))) * 131)) + (wrap64 ((wrap64 (rd s0_0 (Int.tmod (wrap64 ((wrap64 ((wrap64 ((wrap64 (s0_1 + 1)) - 1)) * 7)) + 3)) (s0_0.length : Int)))) * 1117)))) + (wrap64 ((wrap64 ((wrap64 (s0_1 + 1)) - 1)) * 29)))) + (wrap64 ((wrap64 (Int.tdiv (wrap64 ((wrap64 (s0_1 + 1)) - 1)) (s0_0.length : Int))) * 53)))) (wrap64 (Int.tdiv (wrap64 ((wrap64 ((wrap64 ((wrap64 ((wrap64 (rd s0_0 (ji14))) * 131)) + (wrap64 ((wrap64 (rd s0_0 (Int.tmod (wrap64 ((wrap64 ((wrap64 ((wrap64 (s0_1 + 1)) - 1)) * 7)) + 3)) (s0_0.length : Int)))) * 1117)))) + (wrap64 ((wrap64 ((wrap64 (s0_1 + 1)) - 1)) * 29)))) + (wrap64 ((wrap64 (Int.tdiv (wrap64 ((wrap64 (s0_1 + 1)) - 1)) (s0_0.length : Int))) * 53)))) 64))) a1, (wrap64 (s0_1 + 1))))) else (none)) else (none)) else (none)) else (none)) = some (r1, r2) := by first | (rw [hji14] at H; exact H) | (simp only [hji14] at H ⊢; exact H)
  by_cases c15 : 0 ≤ (ji14)
  rotate_left
  · rw [if_neg c15] at H
    exact absurd H (by simp)
  rw [if_pos c15] at H
  have c15b0 : decide (0 ≤ (ji14)) = true := decide_eq_true c15
  clear c15
  by_cases c16 : (ji14) < (s0_0.length : Int)
  rotate_left
  · rw [if_neg c16] at H
    exact absurd H (by simp)
  rw [if_pos c16] at H
  have c16b0 : decide ((ji14) < (s0_0.length : Int)) = true := decide_eq_true c16
  clear c16
  obtain ⟨ji17, hji17⟩ : ∃ j_ : Int, (Int.tmod (wrap64 ((wrap64 ((wrap64 ((wrap64 (s0_1 + 1)) - 1)) * 7)) + 3)) (s0_0.length : Int)) = j_ := ⟨_, rfl⟩
  replace H : (if 0 ≤ (ji17) then (if (ji17) < (s0_0.length : Int) then (if a1 = 0 then (none) else (some (Int.tmod (Go.bits .xor .i64 (wrap64 ((wrap64 ((wrap64 ((wrap64 ((wrap64 (rd s0_0 (ji14))) * 131)) + (wrap64 ((wrap64 (rd s0_0 (ji17))) * 1117)))) + (wrap64 ((wrap64 ((wrap64 (s0_1 + 1)) - 1)) * 29)))) + (wrap64 ((wrap64 (Int.tdiv (wrap64 ((wrap64 (s0_1 + 1)) - 1)) (s0_0.length : Int))) * 53)))) (wrap64 (Int.tdiv (wrap64 ((wrap64 ((wrap64 ((wrap64 ((wrap64 (rd s0_0 (ji14))) * 131)) + (wrap64 ((wrap64 (rd s0_0 (ji17))) * 1117)))) + (wrap64 ((wrap64 ((wrap64 (s0_1 + 1)) - 1)) * 29)))) + (wrap64 ((wrap64 (Int.tdiv (wrap64 ((wrap64 (s0_1 + 1)) - 1)) (s0_0.length : Int))) * 53)))) 64))) a1, (wrap64 (s0_1 + 1))))) else (none)) else (none)) = some (r1, r2) := by first | (rw [hji17] at H; exact H) | (simp only [hji17] at H ⊢; exact H)
  by_cases c18 : 0 ≤ (ji17)
  rotate_left
  · rw [if_neg c18] at H
    exact absurd H (by simp)
  rw [if_pos c18] at H
  have c18b0 : decide (0 ≤ (ji17)) = true := decide_eq_true c18
  clear c18
  by_cases c19 : (ji17) < (s0_0.length : Int)
  rotate_left
  · rw [if_neg c19] at H
    exact absurd H (by simp)
  rw [if_pos c19] at H
  have c19b0 : decide ((ji17) < (s0_0.length : Int)) = true := decide_eq_true c19
  clear c19
  by_cases c20 : a1 = 0
  · rw [if_pos c20] at H
    exact absurd H (by simp)
  rw [if_neg c20] at H
  have c20b0 : (a1 == 0) = false := beq_eq_false_iff_ne.mpr c20
  have c20b1 : (a1 != 0) = true := bne_iff_ne.mpr c20
  simp only [Option.some.injEq, Prod.mk.injEq] at H
  obtain ⟨rfl, rfl⟩ := H
  obtain ⟨ASz21_0, cSz21_0, HGz21, hgz21, HSz21_0⟩ := HI0.out
  have hcz21_0 := cellS93_0 HGz21
  have hcz21_1 := cellS93_1 HGz21
  have hfz21_1 := blk_frozen HGz21 1
  clear HGz21 hgz21
  have p172 : 0 ≤ ((ji14) : Int) := of_decide_eq_true zl
  have q172 : (ji14) < (s0_0.length : Int) := of_decide_eq_true zl
  obtain ⟨ad172, e172, hx172_0⟩ := Kd.at_int HSz21_0 (ji14) p172 q172
  cases e172
  replace hx172_0 := pw_cell_below HB.out hx172_0
  replace p172 := eq_true p172
  replace q172 := eq_true q172
  have p173 : 0 ≤ ((ji17) : Int) := of_decide_eq_true zl
  have q173 : (ji17) < (s0_0.length : Int) := of_decide_eq_true zl
  obtain ⟨ad173, e173, hx173_0⟩ := Kd.at_int HSz21_0 (ji17) p173 q173
  obtain rfl : ad172 = ad173 := (by injection e173)
  replace hx173_0 := pw_cell_below HB.out hx173_0
  replace p173 := eq_true p173
  replace q173 := eq_true q173
  go_wp2
  repeat (go_quiet (fail); try go_wp2)
  go_ret
  exact ⟨by first | rfl | (simp [errW_none, errW_some] <;> rfl) | (simp only [← hji14, ← hji17]; first | rfl | (simp [errW_none, errW_some] <;> rfl)) | (simp [*, errW_none, errW_some] <;> rfl), (zi HI0), (zb HB), (zh HK)⟩
/-! ### spec_StoreNew: function 86 -/
def spec_StoreNew.f  : Option ((List (S55))) := if 8 ≤ 11728124029610 then (some (List.replicate 8 z55)) else (none)
set_option maxHeartbeats 8000000 in
set_option maxRecDepth 100000 in
theorem spec_StoreNew.calls  (r : List (S55)) (w : World) (h : spec_StoreNew.f  = some r) :
 Calls Try.prog 86 #[] w fun e w' => ∃ v0_ : Value, e = .returned (v0_) ∧ Kd.R k55 55 w' w.heap.size (fun _ => True) v0_ r ∧ Below w.heap.size w w' := by
 have HB := am (Below.refl w.heap.size w)
 have H : (if 8 ≤ 11728124029610 then (some (List.replicate 8 z55)) else (none)) = some r := h
 clear h
 by_cases c1 : 8 ≤ 11728124029610
 rotate_left
 · rw [if_neg c1] at H
   exact absurd H (by simp)
 rw [if_pos c1] at H
 have c1b0 := eq_true c1
 have c1b1 : decide (8 ≤ 11728124029610) = true := decide_eq_true c1
 clear c1
 obtain ⟨y174, hy174⟩ : ∃ y_ : List (S55), y_ = (List.replicate 8 z55) := ⟨_, rfl⟩
 replace H : (some y174) = some r := hY hy174 H
 have Ny174 := am hy174
 clear hy174
 obtain rfl := Option.some.inj H
 go_enter Try.func86, Try.ntmps86
 go_wp2_with (first | ((with_reducible refine gate_dst (N := 1) rfl ?_); refine Kd.R_make k55 _ 55 rfl (N := 1) rfl 28 _ _ rfl 8 rfl rfl Try.underlying28 (.agg #[(.string ⟨#[]⟩), (.int .i64 0)]) 24 info55 rfl (by decide) (by omega) z55 (ok := fun _ => True) (okp := fun _ => True) (k55_mkM _ _ _ z55 ) (fun _ hk => hk) trivial (by omega) (by omega) (Below.refl _ _) (Nat.le_refl _) ?_; intro v175 w2 ho3 hb hg_ hnew_; clear hg_ hnew_; (first | rw [← Ny174.out] at ho3 | (simp only [Int.reduceToNat] at ho3; rw [← Ny174.out] at ho3)); have HO176 := am (Kd.R_lower ho3 (below_size (zb HB))); replace HB := am (below_step (zb HB) hb); clear hb ho3))
 go_ret
 exact ⟨_, zw, (zr HO176), (zb HB)⟩
/-! ### spec_PoolNew: function 79 -/
def spec_PoolNew.f  : Option ((List (S55)) × (List (S38))) := (spec_StoreNew.f).bind fun t178 => (some (t178, (([] : List (S38)))))
set_option maxHeartbeats 8000000 in
set_option maxRecDepth 100000 in
theorem spec_PoolNew.calls  (r1 : List (S55)) (r2 : List (S38)) (w : World) (h : spec_PoolNew.f  = some (r1, r2)) :
 Calls Try.prog 79 #[] w fun e w' => ∃ v0_ v1_ : Value, e = .returned (.agg #[v0_, v1_]) ∧ Kd.R k55 55 w' w.heap.size (fun _ => True) v0_ r1 ∧ Kd.S k38 38 w' w.heap.size (fun _ => True) v1_ r2 ∧ Below w.heap.size w w' := by
 have hu31 := Try.underlying31
 have HB := am (Below.refl w.heap.size w)
 have H : ((spec_StoreNew.f).bind fun t178 => (some (t178, (([] : List (S38)))))) = some (r1, r2) := h
 clear h
 replace H := obs H
 obtain ⟨t178, A10, H⟩ := H
 replace H : (some (t178, (([] : List (S38))))) = some (r1, r2) := H
 have A1 := am A10
 clear A10
 obtain ⟨y181, hy181⟩ : ∃ y_ : List (S38), y_ = (([] : List (S38))) := ⟨_, rfl⟩
 replace H : (some (t178, y181)) = some (r1, r2) := hY hy181 H
 have Ny181 := am hy181
 clear hy181
 simp only [Option.some.injEq, Prod.mk.injEq] at H
 obtain ⟨rfl, rfl⟩ := H
 go_enter Try.func79, Try.ntmps79
 go_wp2_with (first | ((with_reducible refine gate_dst (N := 0) rfl ?_); refine bx 31 #[.slice none 0 0, .slice none 0 0] ?_; intro gb177 hg w2 hbox hb; have BK177 := am (hbox); have GW177 := am (zn hg (zb HB)); have GE177 := am (zn hg (zb HB)); replace HB := am (below_step (zb HB) hb); clear hb hbox hg) | ((with_reducible refine gate_callee (f := 86) rfl ?_); refine gl Try.func86 1 #[] rfl rfl rfl ?_; (with_reducible refine (spec_StoreNew.calls  t178 _ A1.out).mono ?_); rintro e w3 ⟨v179, rfl, ho0, hb⟩; refine ⟨_, rfl, ?_⟩; have HO180 := am (Kd.R_lower ho0 (below_size (zb HB))); replace BK177 := am (blk_below (zk BK177) hb); replace HB := am (below_step (zb HB) hb); (try clear hb); (try clear hb2); (try clear hk); (try clear hi); (try clear ho0)) | ((with_reducible refine gate_dst (N := 2) rfl ?_); refine Kd.S_lit k38 _ 38 ?hg (N := 2) ?hd (xs := ([] : List (S38))) (inner := []) (ok := fun _ => True) (okp := fun _ => True) ?hr ?hp (fun _ hk => hk) trivial (Below.refl _ _) (Nat.le_refl _) (by simp) ?_; (case hd => rfl); (case hg => rfl); (case hr => first | (go_simp; done) | (go_simp; rfl)); (case hp => exact (Reps.none _ _)); intro v182 w4 ho5 hb hg_ hnew_; clear hg_ hnew_; (first | rw [← Ny181.out] at ho5 | (simp only [Int.reduceToNat] at ho5; rw [← Ny181.out] at ho5)); replace HO180 := am (Kd.R_below (zr HO180) hb); have HO183 := am (Kd.S_lower ho5 (below_size (zb HB))); replace BK177 := am (blk_below (zk BK177) hb); replace HB := am (below_step (zb HB) hb); clear hb ho5; obtain ⟨Ao6, co6, eo6⟩ := Kd.S_slice HO183.out; subst eo6; obtain ⟨Ao7, co7, eo7⟩ := Kd.R_slice HO180.out; subst eo7; have hcz8_0 := ce0 BK177; have hcz8_1 := ce1 BK177; have hfz8_0 := bfz BK177 0; have hfz8_1 := bfz BK177 1))
 refine bodyPost_ret (results_cell_row rfl _ _ gb177 31 #[.slice Ao7 t178.length co7, .slice Ao6 y181.length co6] (0, 0) _ rfl (zp BK177) Try.underlying31 rfl (by kernel_rfl)) rfl ?_
 exact ⟨_, _, zw, by (with_reducible repeat (first | apply Kd.R_alloc | apply Kd.R_drewN | apply Kd.R_drew)); exact Kd.R_mono (Kd.R_far (p := ⟨gb177, 1, none⟩) (Kd.R_far (p := ⟨gb177, 0, none⟩) (Kd.R_types HO180.out BK177.out (by decide)) (fun _ hk => hk.2) (.slice Ao7 t178.length co7)) (fun _ hk => hk.2) (.slice Ao6 y181.length co6)) (fun _ hk => trivial), by (with_reducible repeat (first | apply Kd.S_alloc | apply Kd.S_drewN | apply Kd.S_drew)); exact Kd.S_mono (Kd.S_far (p := ⟨gb177, 1, none⟩) (Kd.S_far (p := ⟨gb177, 0, none⟩) (Kd.S_types HO183.out BK177.out (by decide)) (fun _ hk => hk.2) (.slice Ao7 t178.length co7)) (fun _ hk => hk.2) (.slice Ao6 y181.length co6)) (fun _ hk => trivial), (zb HB)⟩
/-! ### spec_l11Add: function 95 -/
def spec_l11Add.f (l0_0 : List (S55)) (l0_1 : List (S38)) (a1_0 : ByteArray) (l1_1 : List Int) : Option ((List (S55)) × (List (S38))) := if l0_1.length < 1000000000000 then some (l0_0, PRawAdd.insG (fun x : S38 => x.f0) ⟨a1_0, l1_1⟩ l0_1) else none
theorem spec_l11Add.calls (A0_0 : Option Addr) (c0_0 : Nat) (l0_0 : List (S55)) (A0_1 : Option Addr) (c0_1 : Nat) (l0_1 : List (S38)) (a1_0 : ByteArray) (A1_1 : Option Addr) (c1_1 : Nat) (l1_1 : List Int) (r1 : List (S55)) (r2 : List (S38)) (w : World)
 (hr0_0 : Kd.C k55 w A0_0 l0_0.length l0_0) (hc0_0 : l0_0.length ≤ c0_0) (hr0_1 : Kd.C k38 w A0_1 l0_1.length l0_1) (hc0_1 : l0_1.length ≤ c0_1) (hr1_1 : Kd.C (Kd.int .i64) w A1_1 l1_1.length l1_1) (hc1_1 : l1_1.length ≤ c1_1) (h : spec_l11Add.f l0_0 l0_1 a1_0 l1_1 = some (r1, r2))
 (b_ : Nat) (hb_ : b_ ≤ w.heap.size) (oks okv : Nat → Prop) (hq0_0 : Kd.R k55 55 w b_ oks (.slice A0_0 l0_0.length c0_0) l0_0) (hS : Kd.S k38 38 w b_ (fun k => ¬ okv k) (.slice A0_1 l0_1.length c0_1) l0_1) (hv : (Kd.int .i64).R 3 w b_ okv (.slice A1_1 l1_1.length c1_1) l1_1) :
 Calls Try.prog 95 #[.agg #[.slice A0_0 l0_0.length c0_0, .slice A0_1 l0_1.length c0_1], .agg #[.string a1_0, .slice A1_1 l1_1.length c1_1]] w fun e w' => ∃ v0_ v1_ : Value, e = .returned (.agg #[v0_, v1_]) ∧ Kd.R k55 55 w' b_ oks v0_ r1 ∧ Kd.S k38 38 w' b_ (fun _ => True) v1_ r2 ∧ Below w.heap.size w w' := by
 unfold spec_l11Add.f at h
 by_cases hl : l0_1.length < 1000000000000
 rotate_left
 · rw [if_neg hl] at h
   cases h
 rw [if_pos hl] at h
 obtain ⟨rfl, rfl⟩ := Prod.mk.inj (Option.some.inj h)
 refine (PRawAdd.add_calls (π := fun x : S38 => (x.f0, x.f1)) A0_0 l0_0.length c0_0 A0_1 c0_1 l0_1 ⟨a1_0, l1_1⟩ A1_1 c1_1 w b_ hb_ okv hl hS hv).mono ?_
 rintro e w' ⟨v1, rfl, h1, h2⟩
 exact ⟨_, v1, rfl, Kd.R_below hq0_0 h2, h1, h2⟩
end Go.Proofs.Ytooamacekmjpaaa.PFnReadOnly
