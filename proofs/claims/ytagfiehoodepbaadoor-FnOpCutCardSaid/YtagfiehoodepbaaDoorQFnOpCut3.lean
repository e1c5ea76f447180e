/- The walk: each function that the law comes to as a plain Lean function, and a proof that the Go code answers so. Written by this session's program over the kit's printer. -/
import Derived.Test.YtagfiehoodepbaaDoorZ
import Derived.Test.YtagfiehoodepbaaDoorQFnOpCut0
import Derived.Test.YtagfiehoodepbaaDoorQFnOpCut2
namespace Go.Proofs.YtagfiehoodepbaaDoor.PFnOpCut
open Go.RowKit Go.Proofs.YtagfiehoodepbaaDoorW.PrintWords Go.Proofs.YtagfiehoodepbaaDoorW.PrintLast Go.Proofs.YtagfiehoodepbaaDoorW.PrintMore
attribute [local go_sem] max2_int min2_int max_two min_two max_three min_three max_four min_four   -- for this text's walks alone
set_option linter.unusedVariables false
set_option linter.unusedSimpArgs false
/-! ### spec_l71Op: function 20 -/
mutual
def spec_l71Op.j1 : Nat → List Int → Int → Int → ByteArray → ByteArray → Int → ByteArray → Option (Int × ByteArray × ByteArray × Int × ByteArray × Int)
 | 0, _, _, _, _, _, _, _ => none
 | k + 1, x1000, x1001, x132000, x132001, x132002, x132003, x132004 => (spec_l6Rd_pick.f k x1000 x1001 30).bind fun bt141 => (if bt141.1 = 0 then ((spec_l6Rd_of.f k x1000 bt141.2 (([(⟨#[]⟩ : ByteArray), (⟨#[69]⟩ : ByteArray), (⟨#[65, 65]⟩ : ByteArray)] : List ByteArray))).bind fun bt146 => (some (x132000, bt146.1, x132002, x132003, x132004, bt146.2))) else (if bt141.1 = 1 then ((spec_l6Rd_pick.f k x1000 bt141.2 9).bind fun bt148 => (some (x132000, x132001, x132002, wrap64 (bt148.1 - 1), x132004, bt148.2))) else (if bt141.1 = 2 then ((spec_l6Rd_pick.f k x1000 bt141.2 6).bind fun bt150 => (some (bt150.1, x132001, x132002, x132003, x132004, bt150.2))) else (some (x132000, x132001, x132002, x132003, x132004, bt141.2)))))
def spec_l71Op.j0 : Nat → Int → Bool → List Int → Int → Int → ByteArray → ByteArray → Int → ByteArray → Option (Int × ByteArray × ByteArray × Int × ByteArray × Int)
 | 0, _, _, _, _, _, _, _, _, _ => none
 | k + 1, x13, x14, x1000, x1001, x132000, x132001, x132002, x132003, x132004 => if x14 = true then ((spec_l6Rd_pick.f k x1000 x1001 6).bind fun bt134 => (spec_l71Op.j1 k x1000 bt134.2 1 x132001 (⟨#[]⟩ : ByteArray) (wrap64 (1 + bt134.1)) (⟨#[]⟩ : ByteArray))) else (if x13 = 2 then ((spec_l6Rd_of.f k x1000 x1001 (([(⟨#[65]⟩ : ByteArray), (⟨#[66]⟩ : ByteArray), (⟨#[67]⟩ : ByteArray), (⟨#[68]⟩ : ByteArray)] : List ByteArray))).bind fun bt139 => (spec_l71Op.j1 k x1000 bt139.2 3 x132001 bt139.1 0 (⟨#[]⟩ : ByteArray))) else (if x13 = 3 then (spec_l71Op.j1 k x1000 x1001 4 x132001 (⟨#[]⟩ : ByteArray) 0 (⟨#[]⟩ : ByteArray)) else (spec_l71Op.j1 k x1000 x1001 x132000 x132001 x132002 x132003 x132004)))
end
def spec_l71Op.f (k : Nat) (s0_0 : List Int) (s0_1 : Int) : Option (Int × ByteArray × ByteArray × Int × ByteArray × Int) := (spec_l6Rd_of.f k s0_0 s0_1 (([(⟨#[65]⟩ : ByteArray), (⟨#[66]⟩ : ByteArray), (⟨#[67]⟩ : ByteArray), (⟨#[68]⟩ : ByteArray)] : List ByteArray))).bind fun bt125 => ((spec_l6Rd_pick.f k s0_0 bt125.2 3).bind fun bt127 => ((spec_l71Text.f k s0_0 bt127.2).bind fun bt129 => ((spec_l6Rd_pick.f k s0_0 bt129.2 12).bind fun bt132 => (if bt132.1 = 0 then (spec_l71Op.j0 k bt132.1 (bt132.1 == 0) s0_0 bt132.2 2 bt125.1 (⟨#[]⟩ : ByteArray) bt127.1 bt129.1) else (spec_l71Op.j0 k bt132.1 (bt132.1 == 1) s0_0 bt132.2 2 bt125.1 (⟨#[]⟩ : ByteArray) bt127.1 bt129.1)))))
theorem spec_l71Op.mono_l : ∀ k, (∀ y0 y1 y2 y3 y4 y5 y6, LeO (spec_l71Op.j1 k y0 y1 y2 y3 y4 y5 y6) (spec_l71Op.j1 (k + 1) y0 y1 y2 y3 y4 y5 y6)) ∧ (∀ y0 y1 y2 y3 y4 y5 y6 y7 y8, LeO (spec_l71Op.j0 k y0 y1 y2 y3 y4 y5 y6 y7 y8) (spec_l71Op.j0 (k + 1) y0 y1 y2 y3 y4 y5 y6 y7 y8))
 | 0 => ⟨fun _ _ _ _ _ _ _ r h => by simp [spec_l71Op.j1] at h, fun _ _ _ _ _ _ _ _ _ r h => by simp [spec_l71Op.j0] at h⟩
 | k + 1 => by
  obtain ⟨ih0, ih1⟩ := spec_l71Op.mono_l k
  refine ⟨?_, ?_⟩
  · intro y0 y1 y2 y3 y4 y5 y6
    unfold spec_l71Op.j1
    exact mo5 ih0 ih1 @spec_l6Rd_of.mono @spec_l6Rd_pick.mono @spec_l71Text.mono
  intro y0 y1 y2 y3 y4 y5 y6 y7 y8
  unfold spec_l71Op.j0
  exact mo5 ih0 ih1 @spec_l6Rd_of.mono @spec_l6Rd_pick.mono @spec_l71Text.mono
theorem spec_l71Op.mono : ∀ a0 a1 k, LeO (spec_l71Op.f k a0 a1) (spec_l71Op.f (k + 1) a0 a1) := by
 intro a0 a1 k
 obtain ⟨ih0, ih1⟩ := spec_l71Op.mono_l k
 unfold spec_l71Op.f
 exact mo5 ih0 ih1 @spec_l6Rd_of.mono @spec_l6Rd_pick.mono @spec_l71Text.mono
set_option maxHeartbeats 8000000 in
set_option maxRecDepth 100000 in
theorem spec_l71Op.calls (k : Nat) (g : Nat) (s0_0 : List Int) (s0_1 : Int) (r1 : Int) (r2 : ByteArray) (r3 : ByteArray) (r4 : Int) (r5 : ByteArray) (r6 : Int) (w0 w : World) (hI : IsS57 w0 w g s0_0 s0_1) (hB : Below w0.heap.size w0 w) (h : spec_l71Op.f k s0_0 s0_1 = some (r1, r2, r3, r4, r5, r6)) :
 Calls Tryd.prog 20 #[.pointer (some ⟨g, 0, none⟩)] w fun e w' => e = .returned (.agg #[.int .i64 r1, .string r2, .string r3, .int .i64 r4, .string r5]) ∧ IsS57 w0 w' g s0_0 r6 ∧ Below w0.heap.size w0 w' ∧ KeepBut w w' g none := by
 have hu24 := Tryd.underlying24
 have HI0 := am hI
 have HK := am (KeepBut.refl w g none)
 have HL := am hB.size
 clear hI
 have HW0 := am hB.size
 have HB := am hB
 clear hB
 have H : ((spec_l6Rd_of.f k s0_0 s0_1 (([(⟨#[65]⟩ : ByteArray), (⟨#[66]⟩ : ByteArray), (⟨#[67]⟩ : ByteArray), (⟨#[68]⟩ : ByteArray)] : List ByteArray))).bind fun bt125 => ((spec_l6Rd_pick.f k s0_0 bt125.2 3).bind fun bt127 => ((spec_l71Text.f k s0_0 bt127.2).bind fun bt129 => ((spec_l6Rd_pick.f k s0_0 bt129.2 12).bind fun bt132 => (if bt132.1 = 0 then (spec_l71Op.j0 k bt132.1 (bt132.1 == 0) s0_0 bt132.2 2 bt125.1 (⟨#[]⟩ : ByteArray) bt127.1 bt129.1) else (spec_l71Op.j0 k bt132.1 (bt132.1 == 1) s0_0 bt132.2 2 bt125.1 (⟨#[]⟩ : ByteArray) bt127.1 bt129.1)))))) = some (r1, r2, r3, r4, r5, r6) := h
 clear h
 obtain ⟨y122, hy122⟩ : ∃ y_ : List ByteArray, y_ = (([(⟨#[65]⟩ : ByteArray), (⟨#[66]⟩ : ByteArray), (⟨#[67]⟩ : ByteArray), (⟨#[68]⟩ : ByteArray)] : List ByteArray)) := ⟨_, rfl⟩
 replace H : ((spec_l6Rd_of.f k s0_0 s0_1 y122).bind fun bt125 => ((spec_l6Rd_pick.f k s0_0 bt125.2 3).bind fun bt127 => ((spec_l71Text.f k s0_0 bt127.2).bind fun bt129 => ((spec_l6Rd_pick.f k s0_0 bt129.2 12).bind fun bt132 => (if bt132.1 = 0 then (spec_l71Op.j0 k bt132.1 (bt132.1 == 0) s0_0 bt132.2 2 bt125.1 (⟨#[]⟩ : ByteArray) bt127.1 bt129.1) else (spec_l71Op.j0 k bt132.1 (bt132.1 == 1) s0_0 bt132.2 2 bt125.1 (⟨#[]⟩ : ByteArray) bt127.1 bt129.1)))))) = some (r1, r2, r3, r4, r5, r6) := hY hy122 H
 have Ny122 := am hy122
 clear hy122
 replace H := obs H
 obtain ⟨⟨t125, t126⟩, A20, H⟩ := H
 replace H : ((spec_l6Rd_pick.f k s0_0 t126 3).bind fun bt127 => ((spec_l71Text.f k s0_0 bt127.2).bind fun bt129 => ((spec_l6Rd_pick.f k s0_0 bt129.2 12).bind fun bt132 => (if bt132.1 = 0 then (spec_l71Op.j0 k bt132.1 (bt132.1 == 0) s0_0 bt132.2 2 t125 (⟨#[]⟩ : ByteArray) bt127.1 bt129.1) else (spec_l71Op.j0 k bt132.1 (bt132.1 == 1) s0_0 bt132.2 2 t125 (⟨#[]⟩ : ByteArray) bt127.1 bt129.1))))) = some (r1, r2, r3, r4, r5, r6) := H
 have A2 := am A20
 clear A20
 replace H := obs H
 obtain ⟨⟨t127, t128⟩, A30, H⟩ := H
 replace H : ((spec_l71Text.f k s0_0 t128).bind fun bt129 => ((spec_l6Rd_pick.f k s0_0 bt129.2 12).bind fun bt132 => (if bt132.1 = 0 then (spec_l71Op.j0 k bt132.1 (bt132.1 == 0) s0_0 bt132.2 2 t125 (⟨#[]⟩ : ByteArray) t127 bt129.1) else (spec_l71Op.j0 k bt132.1 (bt132.1 == 1) s0_0 bt132.2 2 t125 (⟨#[]⟩ : ByteArray) t127 bt129.1)))) = some (r1, r2, r3, r4, r5, r6) := H
 have A3 := am A30
 clear A30
 replace H := obs H
 obtain ⟨⟨t129, t130⟩, A40, H⟩ := H
 replace H : ((spec_l6Rd_pick.f k s0_0 t130 12).bind fun bt132 => (if bt132.1 = 0 then (spec_l71Op.j0 k bt132.1 (bt132.1 == 0) s0_0 bt132.2 2 t125 (⟨#[]⟩ : ByteArray) t127 t129) else (spec_l71Op.j0 k bt132.1 (bt132.1 == 1) s0_0 bt132.2 2 t125 (⟨#[]⟩ : ByteArray) t127 t129))) = some (r1, r2, r3, r4, r5, r6) := H
 have A4 := am A40
 clear A40
 replace H := obs H
 obtain ⟨⟨t132, t133⟩, A50, H⟩ := H
 replace H : (if t132 = 0 then (spec_l71Op.j0 k t132 (t132 == 0) s0_0 t133 2 t125 (⟨#[]⟩ : ByteArray) t127 t129) else (spec_l71Op.j0 k t132 (t132 == 1) s0_0 t133 2 t125 (⟨#[]⟩ : ByteArray) t127 t129)) = some (r1, r2, r3, r4, r5, r6) := H
 have A5 := am A50
 clear A50
 have HC6 := am H
 clear H
 go_enter Tryd.func20, Tryd.ntmps20
 go_upto_block 0 with (first | ((with_reducible refine gate_dst (N := 2) rfl ?_); refine bx 24 #[.int .i64 0, .string (⟨#[]⟩ : ByteArray), .string (⟨#[]⟩ : ByteArray), .int .i64 0, .string (⟨#[]⟩ : ByteArray)] ?_; intro gb121 hg w7 hbox hb; replace HB := am (below_step (zb HB) hb); have BK121 := am (hbox); have GW121 := am (zm hg (zh HK)); have GE121 := am ((Nat.le_trans HW0.out (zm hg (zh HK)))); replace HK := am (KeepBut.trans (zh HK) (KeepBut.of_below hb g none) (.inl rfl)); have NB0_121 := am (ix hg (zi HI0)); have NB121_0 := am (iy hg (zi HI0)); replace HI0 := am (IsS57.below (zi HI0) hb); clear hb hbox hg) | ((with_reducible refine gate_dst (N := 5) rfl ?_); refine Kd.R_lit Kd.string _ 9 ?hg (N := 5) ?hd (xs := ([(⟨#[65]⟩ : ByteArray), (⟨#[66]⟩ : ByteArray), (⟨#[67]⟩ : ByteArray), (⟨#[68]⟩ : ByteArray)] : List ByteArray)) (inner := [.string (⟨#[65]⟩ : ByteArray), .string (⟨#[66]⟩ : ByteArray), .string (⟨#[67]⟩ : ByteArray), .string (⟨#[68]⟩ : ByteArray)]) (ok := fun _ => True) (okp := fun _ => True) ?hr ?hp (fun _ hk => hk) trivial (Below.refl _ _) (Nat.le_refl _) (by simp) ?_; (case hd => rfl); (case hg => rfl); (case hr => first | (go_simp; done) | (go_simp; rfl)); (case hp => exact (Reps.one (show Kd.M Kd.string _ _ _ (⟨#[65]⟩ : ByteArray) [.string (⟨#[65]⟩ : ByteArray)] from rfl) (Reps.one (show Kd.M Kd.string _ _ _ (⟨#[66]⟩ : ByteArray) [.string (⟨#[66]⟩ : ByteArray)] from rfl) (Reps.one (show Kd.M Kd.string _ _ _ (⟨#[67]⟩ : ByteArray) [.string (⟨#[67]⟩ : ByteArray)] from rfl) (Reps.one (show Kd.M Kd.string _ _ _ (⟨#[68]⟩ : ByteArray) [.string (⟨#[68]⟩ : ByteArray)] from rfl) (Reps.none _ _)))))); intro v123 w8 ho9 hb hg_ hnew_; clear hg_ hnew_; (first | rw [← Ny122.out] at ho9 | (simp only [Int.reduceToNat] at ho9; rw [← Ny122.out] at ho9)); have HO124 := am (Kd.R_lower ho9 (keep_size (zh HK))); replace HI0 := am (IsS57.below (zi HI0) hb); replace BK121 := am (blk_below (zk BK121) hb); replace HK := am (KeepBut.trans (zh HK) (KeepBut.of_below hb g none) (.inl rfl)); replace HB := am (below_step (zb HB) hb); clear hb ho9; obtain ⟨Ao10, co10, eo10⟩ := Kd.R_slice HO124.out; subst eo10) | ((with_reducible refine gate_callee (f := 31) rfl ?_); refine goesL_ (some 6) rfl rfl Tryd.func31 (by kernel_rfl) rfl #[.pointer (some ⟨g, 0, none⟩), .slice Ao10 y122.length co10] rfl (by (try simp only [List.map_toArray, List.map_cons, List.map_nil]); first | done | rfl | (simp only [List.length_drop, List.length_take]; rfl)) ?_; (with_reducible refine (spec_l6Rd_of.calls k g s0_0 s0_1 _ _ y122 t125 t126 w0 _ ?side1 ?side2 ?side3 ?side4 ?side5 A2.out).mono ?_); (case side1 => exact zi HI0); (case side2 => exact zb HB); (case side3 => exact zc (Kd.R_reads' HO124.out).2.2); (case side4 => exact (Kd.R_reads' HO124.out).2.1); (case side5 => exact far_slice (IsS57.own_ne HI0.out HO124.out (by decide))); rintro e w11 ⟨rfl, hi, hb, hk⟩; refine ⟨_, rfl, ?_⟩; replace BK121 := am (KeepBut.blk hk (zk BK121) NB121_0.out (by simp)); replace HO124 := am (Kd.R_mono (Kd.R_keep (IsS57.apart (zi HI0) (zr HO124) (by decide)) hk (fun _ h => h.2)) (fun _ h => h.1)); replace HK := am (KeepBut.trans (zh HK) hk (.inl rfl)); replace HB := am (hb); replace HI0 := am (hi); (try clear hb); (try clear hb2); (try clear hk); (try clear hi)) | ((with_reducible refine gate_callee (f := 30) rfl ?_); refine goesL_ (some 8) rfl rfl Tryd.func30 (by kernel_rfl) rfl #[.pointer (some ⟨g, 0, none⟩), .int .i64 3] rfl (by (try simp only [List.map_toArray, List.map_cons, List.map_nil]); first | done | rfl | (simp only [List.length_drop, List.length_take]; rfl)) ?_; (with_reducible refine (spec_l6Rd_pick.calls k g s0_0 t126 3 t127 t128 w0 _ ?side1 ?side2 A3.out).mono ?_); (case side1 => exact zi HI0); (case side2 => exact zb HB); rintro e w12 ⟨rfl, hi, hb, hk⟩; refine ⟨_, rfl, ?_⟩; replace BK121 := am (KeepBut.blk hk (zk BK121) NB121_0.out (by simp)); replace HO124 := am (Kd.R_mono (Kd.R_keep (IsS57.apart (zi HI0) (zr HO124) (by decide)) hk (fun _ h => h.2)) (fun _ h => h.1)); replace HK := am (KeepBut.trans (zh HK) hk (.inl rfl)); replace HB := am (hb); replace HI0 := am (hi); (try clear hb); (try clear hb2); (try clear hk); (try clear hi)) | ((with_reducible refine gate_callee (f := 35) rfl ?_); refine goesL_ (some 10) rfl rfl Tryd.func35 (by kernel_rfl) rfl #[.pointer (some ⟨g, 0, none⟩)] rfl (by (try simp only [List.map_toArray, List.map_cons, List.map_nil]); first | done | rfl | (simp only [List.length_drop, List.length_take]; rfl)) ?_; (with_reducible refine (spec_l71Text.calls k g s0_0 t128 t129 t130 w0 _ ?side1 ?side2 A4.out).mono ?_); (case side1 => exact zi HI0); (case side2 => exact zb HB); rintro e w13 ⟨rfl, hi, hb, hk⟩; refine ⟨_, rfl, ?_⟩; replace BK121 := am (KeepBut.blk hk (zk BK121) NB121_0.out (by simp)); replace HO124 := am (Kd.R_mono (Kd.R_keep (IsS57.apart (zi HI0) (zr HO124) (by decide)) hk (fun _ h => h.2)) (fun _ h => h.1)); replace HK := am (KeepBut.trans (zh HK) hk (.inl rfl)); replace HB := am (hb); replace HI0 := am (hi); (try clear hb); (try clear hb2); (try clear hk); (try clear hi)) | ((with_reducible refine gate_dst (N := 3) rfl ?_); refine bx 24 #[.int .i64 0, .string (⟨#[]⟩ : ByteArray), .string (⟨#[]⟩ : ByteArray), .int .i64 0, .string (⟨#[]⟩ : ByteArray)] ?_; intro gb131 hg w14 hbox hb; replace HO124 := am (Kd.R_below (zr HO124) hb); replace HB := am (below_step (zb HB) hb); have BK131 := am (hbox); have GW131 := am (zm hg (zh HK)); have GE131 := am ((Nat.le_trans HW0.out (zm hg (zh HK)))); replace HK := am (KeepBut.trans (zh HK) (KeepBut.of_below hb g none) (.inl rfl)); have NB121_131 := am (zx hg (zk BK121)); have NB131_121 := am (zy hg (zk BK121)); replace BK121 := am (blk_below (zk BK121) hb); have NB0_131 := am (ix hg (zi HI0)); have NB131_0 := am (iy hg (zi HI0)); replace HI0 := am (IsS57.below (zi HI0) hb); clear hb hbox hg; have hnb15 := NB131_121.out; have hnc15 := NB121_131.out; have hnb16 := NB131_0.out; have hnc16 := NB0_131.out; have hcz17_0 := ce0 BK131; have hcz17_1 := ce1 BK131; have hcz17_2 := ce2 BK131; have hcz17_3 := ce3 BK131; have hcz17_4 := ce4 BK131; have hfz17_0 := bfz BK131 0; have hfz17_1 := bfz BK131 1; have hfz17_2 := bfz BK131 2; have hfz17_3 := bfz BK131 3; have hfz17_4 := bfz BK131 4) | ((with_reducible refine gate_callee (f := 30) rfl ?_); refine goesL_ (some 13) rfl rfl Tryd.func30 (by kernel_rfl) rfl #[.pointer (some ⟨g, 0, none⟩), .int .i64 12] rfl (by (try simp only [List.map_toArray, List.map_cons, List.map_nil]); first | done | rfl | (simp only [List.length_drop, List.length_take]; rfl)) ?_; (with_reducible refine (spec_l6Rd_pick.calls k g s0_0 t130 12 t132 t133 w0 _ ?side1 ?side2 A5.out).mono ?_); (case side1 => exact zi HI0); (case side2 => exact zb HB); rintro e w18 ⟨rfl, hi, hb, hk⟩; refine ⟨_, rfl, ?_⟩; replace BK121 := am (KeepBut.blk hk (zk BK121) NB121_0.out (by simp)); replace HO124 := am (Kd.R_mono (Kd.R_keep (IsS57.apart (zi HI0) (by (with_reducible repeat (first | apply Kd.R_alloc | apply Kd.R_drewN | apply Kd.R_drew)); exact (Kd.R_mono (Kd.R_far (p := ⟨gb131, 4, none⟩) (Kd.R_far (p := ⟨gb131, 3, none⟩) (Kd.R_far (p := ⟨gb131, 2, none⟩) (Kd.R_far (p := ⟨gb131, 1, none⟩) (Kd.R_far (p := ⟨gb131, 0, none⟩) (Kd.R_types HO124.out BK131.out (by decide)) (fun _ hk => hk.2) (.int .i64 2)) (fun _ hk => hk.2) (.string t125)) (fun _ hk => hk.2) (.string (⟨#[]⟩ : ByteArray))) (fun _ hk => hk.2) (.int .i64 t127)) (fun _ hk => hk.2) (.string t129)) (fun _ h_ => h_.1))) (by decide)) hk (fun _ h => h.2)) (fun _ h => h.1)); replace BK131 := am (KeepBut.blk hk (g' := gb131) (o := .cells #[.int .i64 2, .string t125, .string (⟨#[]⟩ : ByteArray), .int .i64 t127, .string t129] 24 (0, 0)) (zp BK131) NB131_0.out (by simp)); replace HK := am (KeepBut.trans (zh HK) hk (.inl rfl)); replace HB := am (hb); replace HI0 := am (hi); (try clear hb); (try clear hb2); (try clear hk); (try clear hi)))
 (try simp only [Act.put, List.setIfInBounds_toArray, List.set_cons_zero, List.set_cons_succ])
 go_cut [] (fun wc => ∃ (kq : Nat) (x1001_5 : Int) (x132000_5 : Int) (x132001_5 : ByteArray) (x132002_5 : ByteArray) (x132003_5 : Int) (x132004_5 : ByteArray), Aside0 (spec_l71Op.j1 kq s0_0 x1001_5 x132000_5 x132001_5 x132002_5 x132003_5 x132004_5 = some (r1, r2, r3, r4, r5, r6)) ∧ Aside0 (kq ≤ k) ∧ Aside0 (wc.heap[gb121]? = some (.cells #[.int .i64 0, .string (⟨#[]⟩ : ByteArray), .string (⟨#[]⟩ : ByteArray), .int .i64 0, .string (⟨#[]⟩ : ByteArray)] 24 (0, 0))) ∧ Aside0 (wc.heap[gb131]? = some (.cells #[.int .i64 x132000_5, .string x132001_5, .string x132002_5, .int .i64 x132003_5, .string x132004_5] 24 (0, 0))) ∧ Aside0 (IsS57 w0 wc g s0_0 x1001_5) ∧ Aside0 (KeepBut w wc g none) ∧ Aside0 (Below w0.heap.size w0 wc))
 case first =>
  have H := HC6.out
  clear HC6
  have HC19 := am H
  clear H
  go_upto_if 14 with (fail)
  go_cut [14] (fun v14 wc => ∃ (kq : Nat) (x14_18 : Bool), v14 = .bool x14_18 ∧ Aside0 (spec_l71Op.j0 kq t132 x14_18 s0_0 t133 2 t125 (⟨#[]⟩ : ByteArray) t127 t129 = some (r1, r2, r3, r4, r5, r6)) ∧ Aside0 (kq ≤ k) ∧ Aside0 (wc.heap[gb121]? = some (.cells #[.int .i64 0, .string (⟨#[]⟩ : ByteArray), .string (⟨#[]⟩ : ByteArray), .int .i64 0, .string (⟨#[]⟩ : ByteArray)] 24 (0, 0))) ∧ Aside0 (wc.heap[gb131]? = some (.cells #[.int .i64 2, .string t125, .string (⟨#[]⟩ : ByteArray), .int .i64 t127, .string t129] 24 (0, 0))) ∧ Aside0 (IsS57 w0 wc g s0_0 t133) ∧ Aside0 (KeepBut w wc g none) ∧ Aside0 (Below w0.heap.size w0 wc))
  case first =>
   have H := HC19.out
   clear HC19
   by_cases c20 : t132 = 0
   · rw [if_pos c20] at H
     have c20b0 : (t132 == 0) = true := beq_iff_eq.mpr c20
     have c20b1 : (t132 != 0) = false := bne_eq_false_iff_eq.mpr c20
     clear c20
     (first | rw [c20b0] | (simp only [i64_w, i32_w]; rw [c20b0]) | skip)
     have H' := am H
     clear H
     go_wp2
     go_meet
     case rel => exact ⟨_, ((t132 == 0)), ze, H', ⟨by first | omega | exact Nat.le_refl _⟩, ⟨zk BK121⟩, ⟨zk BK131⟩, ⟨zi HI0⟩, ⟨zh HK⟩, ⟨zb HB⟩⟩
   rw [if_neg c20] at H
   have c20b0 : (t132 == 0) = false := beq_eq_false_iff_ne.mpr c20
   have c20b1 : (t132 != 0) = true := bne_iff_ne.mpr c20
   (first | rw [c20b0] | (simp only [i64_w, i32_w]; rw [c20b0]) | skip)
   have H' := am H
   clear H
   go_wp2
   go_meet
   case rel => exact ⟨_, ((t132 == 1)), ze, H', ⟨by first | omega | exact Nat.le_refl _⟩, ⟨zk BK121⟩, ⟨zk BK131⟩, ⟨zi HI0⟩, ⟨zh HK⟩, ⟨zb HB⟩⟩
  clear HC19
  try clear c1
  try clear c2
  try clear p2
  try clear c3
  try clear c15
  try clear c16
  try clear c20
  try clear c20b0
  try clear c20b1
  try clear hcz17_0
  try clear hcz17_1
  try clear hcz17_2
  try clear hcz17_3
  try clear hcz17_4
  try clear hfz17_0
  try clear hfz17_1
  try clear hfz17_2
  try clear hfz17_3
  try clear hfz17_4
  obtain ⟨kq, x14_18, rfl, HA, HJ18, BK121, BK131, HI0, HK, HB⟩ := hcut
  cases kq with
  | zero => exact absurd HA.out (by simp [spec_l71Op.j0])
  | succ kj18 =>
   have H := HA.out
   clear HA
   simp only [spec_l71Op.j0] at H
   by_cases c21 : x14_18 = true
   · subst c21
     have H1 : ((spec_l6Rd_pick.f kj18 s0_0 t133 6).bind fun bt134 => (spec_l71Op.j1 kj18 s0_0 bt134.2 1 t125 (⟨#[]⟩ : ByteArray) (wrap64 (1 + bt134.1)) (⟨#[]⟩ : ByteArray))) = some (r1, r2, r3, r4, r5, r6) := by rw [if_pos rfl] at H; exact H
     clear H
     have H := H1
     clear H1
     replace H := obs H
     obtain ⟨⟨t134, t135⟩, A220, H⟩ := H
     replace H : (spec_l71Op.j1 kj18 s0_0 t135 1 t125 (⟨#[]⟩ : ByteArray) (wrap64 (1 + t134)) (⟨#[]⟩ : ByteArray)) = some (r1, r2, r3, r4, r5, r6) := H
     have A22 := am A220
     clear A220
     have H' := am H
     clear H
     try go_wp2
     replace BK121 := am (blk_drew BK121.out)
     replace BK131 := am (blk_drew BK131.out)
     replace HI0 := am (IsS57.drew HI0.out)
     replace HK := am (keep_drew HK.out)
     replace HB := am (below_drew1 HB.out)
     refine start_ (n := 7) (S := fun w' => w'.cell? ⟨gb131, 0, none⟩ = some (.int .i64 2) ∧ w'.cell? ⟨gb131, 1, none⟩ = some (.string t125) ∧ w'.cell? ⟨gb131, 2, none⟩ = some (.string (⟨#[]⟩ : ByteArray)) ∧ w'.cell? ⟨gb131, 3, none⟩ = some (.int .i64 t127) ∧ w'.cell? ⟨gb131, 4, none⟩ = some (.string t129)) (ds := [6]) (bs 7 0) (by kernel_rfl) rfl rfl ⟨ce0 BK131, ce1 BK131, ce2 BK131, ce3 BK131, ce4 BK131⟩ (fun hHeld => ?_)
     generalize wc.drew = w23 at BK121 BK131 HI0 HK HB hHeld ⊢
     refine pu 0 17 7 1 rfl rfl ?_
     refine pu 2 19 7 5 rfl rfl ?_
     refine ta5 1 18 7 7 rfl rfl hHeld ?_
     refine oz 3 7 15 rfl rfl (fun K hK => ?_)
     refine goes_ Tryd.func30 (by kernel_rfl) rfl #[.pointer (some ⟨g, 0, none⟩), .int .i64 6] (by rfl) rfl rfl (by (try simp only [List.map_toArray, List.map_cons, List.map_nil]); first | done | rfl | (simp only [List.length_drop, List.length_take]; rfl)) ?_
     with_reducible refine (spec_l6Rd_pick.calls kj18 g s0_0 t133 6 t134 t135 w0 _ ?side1 ?side2 A22.out).mono ?_
     (case side1 => exact zi HI0)
     (case side2 => exact zb HB)
     rintro e w24 ⟨rfl, hi, hb, hk⟩
     refine ⟨_, rfl, ?_⟩
     replace BK121 := am (KeepBut.blk hk (zk BK121) NB121_0.out (by simp))
     replace BK131 := am (KeepBut.blk hk (zk BK131) NB131_0.out (by simp))
     replace HK := am (KeepBut.trans (zh HK) hk (.inl rfl))
     replace HB := am (hb)
     replace HI0 := am (hi)
     (try clear hb)
     (try clear hb2)
     (try clear hk)
     (try clear hi)
     refine hK.out _ _ ⟨ce0 BK131, ce1 BK131, ce2 BK131, ce3 BK131, ce4 BK131⟩ (fun hHeld => ?_)
     clear hK K
     refine norm_ (a' := ?_) ?_ ?_
     rotate_left
     · show Act.put _ (some 20) _ = _
       simp only [Act.put, List.setIfInBounds_toArray, List.set_cons_zero, List.set_cons_succ, i64_w, i32_w]
       rfl
     refine pu 4 21 7 31 rfl rfl ?_
     refine pu 5 22 7 63 rfl rfl ?_
     refine la 6 7 127 rfl rfl (fun K hK => ?_)
     have hs25 := ce0 BK131
     have hfs25 := bfz BK131 0
     have hns25_0 := NB121_131.out
     have hms25_0 := NB131_121.out
     have hs26 := ce1 BK131
     have hfs26 := bfz BK131 1
     have hns26_0 := NB121_131.out
     have hms26_0 := NB131_121.out
     have hs27 := ce2 BK131
     have hfs27 := bfz BK131 2
     have hns27_0 := NB121_131.out
     have hms27_0 := NB131_121.out
     have hs28 := ce3 BK131
     have hfs28 := bfz BK131 3
     have hns28_0 := NB121_131.out
     have hms28_0 := NB131_121.out
     have hs29 := ce4 BK131
     have hfs29 := bfz BK131 4
     have hns29_0 := NB121_131.out
     have hms29_0 := NB131_121.out
     refine skip_ (w1 := ?_) (by rfl) rfl ?_ ?_
     rotate_left
     · go_simp
       rfl
     refine hK.out _ _ ?_
     clear hK K
     refine done_ (by kernel_rfl) ?_
     try go_wp2
     go_meet
     case rel => exact ⟨_, (t135), (1), (t125), ((⟨#[]⟩ : ByteArray)), (wrap64 (1 + t134)), ((⟨#[]⟩ : ByteArray)), H', ⟨by have := HJ18.out; first | omega | exact Nat.le_refl _⟩, ⟨zk BK121⟩, ⟨zp BK131⟩, ⟨zi HI0⟩, ⟨zh HK⟩, ⟨zb HB⟩⟩
   replace c21 := Bool.eq_false_iff.mpr c21
   subst c21
   have H1 : (if t132 = 2 then ((spec_l6Rd_of.f kj18 s0_0 t133 (([(⟨#[65]⟩ : ByteArray), (⟨#[66]⟩ : ByteArray), (⟨#[67]⟩ : ByteArray), (⟨#[68]⟩ : ByteArray)] : List ByteArray))).bind fun bt139 => (spec_l71Op.j1 kj18 s0_0 bt139.2 3 t125 bt139.1 0 (⟨#[]⟩ : ByteArray))) else (if t132 = 3 then (spec_l71Op.j1 kj18 s0_0 t133 4 t125 (⟨#[]⟩ : ByteArray) 0 (⟨#[]⟩ : ByteArray)) else (spec_l71Op.j1 kj18 s0_0 t133 2 t125 (⟨#[]⟩ : ByteArray) t127 t129))) = some (r1, r2, r3, r4, r5, r6) := by rw [if_neg (show ¬ (false = true) by decide)] at H; exact H
   clear H
   have H := H1
   clear H1
   by_cases c30 : t132 = 2
   rotate_left
   · rw [if_neg c30] at H
     have c30b0 : (t132 == 2) = false := beq_eq_false_iff_ne.mpr c30
     have c30b1 : (t132 != 2) = true := bne_iff_ne.mpr c30
     by_cases c42 : t132 = 3
     rotate_left
     · rw [if_neg c42] at H
       have c42b0 : (t132 == 3) = false := beq_eq_false_iff_ne.mpr c42
       have c42b1 : (t132 != 3) = true := bne_iff_ne.mpr c42
       have H' := am H
       clear H
       go_wp2
       go_meet
       case rel => exact ⟨_, (t133), (2), (t125), ((⟨#[]⟩ : ByteArray)), (t127), (t129), H', ⟨by have := HJ18.out; first | omega | exact Nat.le_refl _⟩, ⟨zk BK121⟩, ⟨zk BK131⟩, ⟨zi HI0⟩, ⟨zh HK⟩, ⟨zb HB⟩⟩
     rw [if_pos c42] at H
     have c42b0 : (t132 == 3) = true := beq_iff_eq.mpr c42
     have c42b1 : (t132 != 3) = false := bne_eq_false_iff_eq.mpr c42
     clear c42
     have H' := am H
     clear H
     have hnb43 := NB131_121.out
     have hnc43 := NB121_131.out
     have hnb44 := NB131_0.out
     have hnc44 := NB0_131.out
     have hcz45_0 := ce0 BK131
     have hcz45_1 := ce1 BK131
     have hcz45_2 := ce2 BK131
     have hcz45_3 := ce3 BK131
     have hcz45_4 := ce4 BK131
     have hfz45_0 := bfz BK131 0
     have hfz45_1 := bfz BK131 1
     have hfz45_2 := bfz BK131 2
     have hfz45_3 := bfz BK131 3
     have hfz45_4 := bfz BK131 4
     go_wp2
     go_meet
     case rel => exact ⟨_, (t133), (4), (t125), ((⟨#[]⟩ : ByteArray)), (0), ((⟨#[]⟩ : ByteArray)), H', ⟨by have := HJ18.out; first | omega | exact Nat.le_refl _⟩, ⟨zk BK121⟩, ⟨zp BK131⟩, ⟨zi HI0⟩, ⟨zh HK⟩, ⟨zb HB⟩⟩
   rw [if_pos c30] at H
   have c30b0 : (t132 == 2) = true := beq_iff_eq.mpr c30
   have c30b1 : (t132 != 2) = false := bne_eq_false_iff_eq.mpr c30
   clear c30
   obtain ⟨y136, hy136⟩ : ∃ y_ : List ByteArray, y_ = (([(⟨#[65]⟩ : ByteArray), (⟨#[66]⟩ : ByteArray), (⟨#[67]⟩ : ByteArray), (⟨#[68]⟩ : ByteArray)] : List ByteArray)) := ⟨_, rfl⟩
   replace H : ((spec_l6Rd_of.f kj18 s0_0 t133 y136).bind fun bt139 => (spec_l71Op.j1 kj18 s0_0 bt139.2 3 t125 bt139.1 0 (⟨#[]⟩ : ByteArray))) = some (r1, r2, r3, r4, r5, r6) := hY hy136 H
   have Ny136 := am hy136
   clear hy136
   replace H := obs H
   obtain ⟨⟨t139, t140⟩, A310, H⟩ := H
   replace H : (spec_l71Op.j1 kj18 s0_0 t140 3 t125 t139 0 (⟨#[]⟩ : ByteArray)) = some (r1, r2, r3, r4, r5, r6) := H
   have A31 := am A310
   clear A310
   have H' := am H
   clear H
   try go_wp2
   replace BK121 := am (blk_drew BK121.out)
   replace BK131 := am (blk_drew BK131.out)
   replace HI0 := am (IsS57.drew HI0.out)
   replace HK := am (keep_drew HK.out)
   replace HB := am (below_drew1 HB.out)
   refine start_ (n := 7) (S := fun w' => w'.cell? ⟨gb131, 0, none⟩ = some (.int .i64 2) ∧ w'.cell? ⟨gb131, 1, none⟩ = some (.string t125) ∧ w'.cell? ⟨gb131, 2, none⟩ = some (.string (⟨#[]⟩ : ByteArray)) ∧ w'.cell? ⟨gb131, 3, none⟩ = some (.int .i64 t127) ∧ w'.cell? ⟨gb131, 4, none⟩ = some (.string t129)) (ds := [6]) (bs 7 0) (by kernel_rfl) rfl rfl ⟨ce0 BK131, ce1 BK131, ce2 BK131, ce3 BK131, ce4 BK131⟩ (fun hHeld => ?_)
   generalize wc.drew = w32 at BK121 BK131 HI0 HK HB hHeld ⊢
   refine pu 0 25 7 1 rfl rfl ?_
   refine pu 2 27 7 5 rfl rfl ?_
   refine ta5 1 26 7 7 rfl rfl hHeld ?_
   refine oz 3 7 15 rfl rfl (fun K hK => ?_)
   refine Kd.R_lit_step Kd.string _ 9 ?hg (N := 28) ?hd (xs := ([(⟨#[65]⟩ : ByteArray), (⟨#[66]⟩ : ByteArray), (⟨#[67]⟩ : ByteArray), (⟨#[68]⟩ : ByteArray)] : List ByteArray)) (inner := [.string (⟨#[65]⟩ : ByteArray), .string (⟨#[66]⟩ : ByteArray), .string (⟨#[67]⟩ : ByteArray), .string (⟨#[68]⟩ : ByteArray)]) (ok := fun _ => True) (okp := fun _ => True) ?hr ?hp (fun _ hk => hk) trivial (Below.refl _ _) (Nat.le_refl _) (by simp) ?_; (case hd => rfl); (case hg => rfl); (case hr => first | (go_simp; done) | (go_simp; rfl)); (case hp => exact (Reps.one (show Kd.M Kd.string _ _ _ (⟨#[65]⟩ : ByteArray) [.string (⟨#[65]⟩ : ByteArray)] from rfl) (Reps.one (show Kd.M Kd.string _ _ _ (⟨#[66]⟩ : ByteArray) [.string (⟨#[66]⟩ : ByteArray)] from rfl) (Reps.one (show Kd.M Kd.string _ _ _ (⟨#[67]⟩ : ByteArray) [.string (⟨#[67]⟩ : ByteArray)] from rfl) (Reps.one (show Kd.M Kd.string _ _ _ (⟨#[68]⟩ : ByteArray) [.string (⟨#[68]⟩ : ByteArray)] from rfl) (Reps.none _ _))))))
   intro v137 w33 ho34 hb hg_ hnew_
   clear hg_ hnew_
   (first | rw [← Ny136.out] at ho34 | (simp only [Int.reduceToNat] at ho34; rw [← Ny136.out] at ho34))
   have HO138 := am (Kd.R_lower ho34 (keep_size (zh HK)))
   replace BK121 := am (blk_below (zk BK121) hb)
   replace BK131 := am (blk_below (zk BK131) hb)
   replace HI0 := am (IsS57.below (zi HI0) hb)
   replace HK := am (KeepBut.trans (zh HK) (KeepBut.of_below hb g none) (.inl rfl))
   replace HB := am (below_step (zb HB) hb)
   clear hb ho34
   obtain ⟨Ao35, co35, eo35⟩ := Kd.R_slice HO138.out
   (first | subst eo35 | (injection eo35 with f1_ f2_ f3_; have f4_ := f1_.symm; have f5_ := f3_.symm; clear f1_ f2_ f3_; subst f4_; subst f5_))
   refine hK.out _ _ ⟨ce0 BK131, ce1 BK131, ce2 BK131, ce3 BK131, ce4 BK131⟩ (fun hHeld => ?_)
   clear hK K
   refine norm_ (a' := ?_) ?_ ?_
   rotate_left
   · show Act.put _ (some 28) _ = _
     simp only [Act.put, List.setIfInBounds_toArray, List.set_cons_zero, List.set_cons_succ, i64_w, i32_w]
     rfl
   refine oz 4 7 31 rfl rfl (fun K hK => ?_)
   refine goes_ Tryd.func31 (by kernel_rfl) rfl #[.pointer (some ⟨g, 0, none⟩), .slice Ao35 y136.length co35] (by rfl) rfl rfl (by (try simp only [List.map_toArray, List.map_cons, List.map_nil]); first | done | rfl | (simp only [List.length_drop, List.length_take]; rfl)) ?_
   with_reducible refine (spec_l6Rd_of.calls kj18 g s0_0 t133 _ _ y136 t139 t140 w0 _ ?side1 ?side2 ?side3 ?side4 ?side5 A31.out).mono ?_
   (case side1 => exact zi HI0)
   (case side2 => exact zb HB)
   (case side3 => exact zc (Kd.R_reads' HO138.out).2.2)
   (case side4 => exact (Kd.R_reads' HO138.out).2.1)
   (case side5 => exact far_slice (IsS57.own_ne HI0.out HO138.out (by decide)))
   rintro e w36 ⟨rfl, hi, hb, hk⟩
   refine ⟨_, rfl, ?_⟩
   replace BK121 := am (KeepBut.blk hk (zk BK121) NB121_0.out (by simp))
   replace BK131 := am (KeepBut.blk hk (zk BK131) NB131_0.out (by simp))
   replace HO138 := am (Kd.R_mono (Kd.R_keep (IsS57.apart (zi HI0) (zr HO138) (by decide)) hk (fun _ h => h.2)) (fun _ h => h.1))
   replace HK := am (KeepBut.trans (zh HK) hk (.inl rfl))
   replace HB := am (hb)
   replace HI0 := am (hi)
   (try clear hb)
   (try clear hb2)
   (try clear hk)
   (try clear hi)
   refine hK.out _ _ ⟨ce0 BK131, ce1 BK131, ce2 BK131, ce3 BK131, ce4 BK131⟩ (fun hHeld => ?_)
   clear hK K
   refine norm_ (a' := ?_) ?_ ?_
   rotate_left
   · show Act.put _ (some 29) _ = _
     simp only [Act.put, List.setIfInBounds_toArray, List.set_cons_zero, List.set_cons_succ, i64_w, i32_w]
     rfl
   refine pu 5 30 7 63 rfl rfl ?_
   refine la 6 7 127 rfl rfl (fun K hK => ?_)
   have hs37 := ce0 BK131
   have hfs37 := bfz BK131 0
   have hns37_0 := NB121_131.out
   have hms37_0 := NB131_121.out
   have hs38 := ce1 BK131
   have hfs38 := bfz BK131 1
   have hns38_0 := NB121_131.out
   have hms38_0 := NB131_121.out
   have hs39 := ce2 BK131
   have hfs39 := bfz BK131 2
   have hns39_0 := NB121_131.out
   have hms39_0 := NB131_121.out
   have hs40 := ce3 BK131
   have hfs40 := bfz BK131 3
   have hns40_0 := NB121_131.out
   have hms40_0 := NB131_121.out
   have hs41 := ce4 BK131
   have hfs41 := bfz BK131 4
   have hns41_0 := NB121_131.out
   have hms41_0 := NB131_121.out
   refine skip_ (w1 := ?_) (by rfl) rfl ?_ ?_
   rotate_left
   · go_simp
     rfl
   refine hK.out _ _ ?_
   clear hK K
   refine done_ (by kernel_rfl) ?_
   try go_wp2
   go_meet
   case rel => exact ⟨_, (t140), (3), (t125), (t139), (0), ((⟨#[]⟩ : ByteArray)), H', ⟨by have := HJ18.out; first | omega | exact Nat.le_refl _⟩, ⟨zk BK121⟩, ⟨zp BK131⟩, ⟨zi HI0⟩, ⟨zh HK⟩, ⟨zb HB⟩⟩
 clear HC6
 try clear c1
 try clear c2
 try clear p2
 try clear c3
 try clear c4
 try clear p6
 try clear c15
 try clear c16
 try clear c20
 try clear c20b0
 try clear c20b1
 try clear c21
 try clear c30
 try clear c30b0
 try clear c30b1
 try clear c31
 try clear c35
 try clear c42
 try clear c42b0
 try clear c42b1
 try clear c43
 try clear c44
 try clear hcz17_0
 try clear hcz17_1
 try clear hcz17_2
 try clear hcz17_3
 try clear hcz17_4
 try clear hcz45_0
 try clear hcz45_1
 try clear hcz45_2
 try clear hcz45_3
 try clear hcz45_4
 try clear hfz17_0
 try clear hfz17_1
 try clear hfz17_2
 try clear hfz17_3
 try clear hfz17_4
 try clear hfz45_0
 try clear hfz45_1
 try clear hfz45_2
 try clear hfz45_3
 try clear hfz45_4
 try clear p2
 obtain ⟨kq, x1001_5, x132000_5, x132001_5, x132002_5, x132003_5, x132004_5, HA, HJ5, BK121, BK131, HI0, HK, HB⟩ := hcut
 cases kq with
 | zero => exact absurd HA.out (by simp [spec_l71Op.j1])
 | succ kj5 =>
  have H := HA.out
  clear HA
  simp only [spec_l71Op.j1] at H
  replace H := obs H
  obtain ⟨⟨t141, t142⟩, A460, H⟩ := H
  replace H : (if t141 = 0 then ((spec_l6Rd_of.f kj5 s0_0 t142 (([(⟨#[]⟩ : ByteArray), (⟨#[69]⟩ : ByteArray), (⟨#[65, 65]⟩ : ByteArray)] : List ByteArray))).bind fun bt146 => (some (x132000_5, bt146.1, x132002_5, x132003_5, x132004_5, bt146.2))) else (if t141 = 1 then ((spec_l6Rd_pick.f kj5 s0_0 t142 9).bind fun bt148 => (some (x132000_5, x132001_5, x132002_5, wrap64 (bt148.1 - 1), x132004_5, bt148.2))) else (if t141 = 2 then ((spec_l6Rd_pick.f kj5 s0_0 t142 6).bind fun bt150 => (some (bt150.1, x132001_5, x132002_5, x132003_5, x132004_5, bt150.2))) else (some (x132000_5, x132001_5, x132002_5, x132003_5, x132004_5, t142))))) = some (r1, r2, r3, r4, r5, r6) := H
  have A46 := am A460
  clear A460
  by_cases c47 : t141 = 0
  · rw [if_pos c47] at H
    have c47b0 : (t141 == 0) = true := beq_iff_eq.mpr c47
    have c47b1 : (t141 != 0) = false := bne_eq_false_iff_eq.mpr c47
    clear c47
    obtain ⟨y143, hy143⟩ : ∃ y_ : List ByteArray, y_ = (([(⟨#[]⟩ : ByteArray), (⟨#[69]⟩ : ByteArray), (⟨#[65, 65]⟩ : ByteArray)] : List ByteArray)) := ⟨_, rfl⟩
    replace H : ((spec_l6Rd_of.f kj5 s0_0 t142 y143).bind fun bt146 => (some (x132000_5, bt146.1, x132002_5, x132003_5, x132004_5, bt146.2))) = some (r1, r2, r3, r4, r5, r6) := hY hy143 H
    have Ny143 := am hy143
    clear hy143
    replace H := obs H
    obtain ⟨⟨t146, t147⟩, A480, H⟩ := H
    replace H : (some (x132000_5, t146, x132002_5, x132003_5, x132004_5, t147)) = some (r1, r2, r3, r4, r5, r6) := H
    have A48 := am A480
    clear A480
    simp only [Option.some.injEq, Prod.mk.injEq] at H
    obtain ⟨rfl, rfl, rfl, rfl, rfl, rfl⟩ := H
    go_wp2_with (first | ((with_reducible refine gate_callee (f := 30) rfl ?_); refine goesL_ (some 37) rfl rfl Tryd.func30 (by kernel_rfl) rfl #[.pointer (some ⟨g, 0, none⟩), .int .i64 30] rfl (by (try simp only [List.map_toArray, List.map_cons, List.map_nil]); first | done | rfl | (simp only [List.length_drop, List.length_take]; rfl)) ?_; (with_reducible refine (spec_l6Rd_pick.calls kj5 g s0_0 x1001_5 30 t141 t142 w0 _ ?side1 ?side2 A46.out).mono ?_); (case side1 => exact zi HI0); (case side2 => exact zb HB); rintro e w49 ⟨rfl, hi, hb, hk⟩; refine ⟨_, rfl, ?_⟩; replace BK121 := am (KeepBut.blk hk (zk BK121) NB121_0.out (by simp)); replace BK131 := am (KeepBut.blk hk (zk BK131) NB131_0.out (by simp)); replace HK := am (KeepBut.trans (zh HK) hk (.inl rfl)); replace HB := am (hb); replace HI0 := am (hi); (try clear hb); (try clear hb2); (try clear hk); (try clear hi)) | ((with_reducible refine gate_dst (N := 41) rfl ?_); refine Kd.R_lit Kd.string _ 9 ?hg (N := 41) ?hd (xs := ([(⟨#[]⟩ : ByteArray), (⟨#[69]⟩ : ByteArray), (⟨#[65, 65]⟩ : ByteArray)] : List ByteArray)) (inner := [.string (⟨#[]⟩ : ByteArray), .string (⟨#[69]⟩ : ByteArray), .string (⟨#[65, 65]⟩ : ByteArray)]) (ok := fun _ => True) (okp := fun _ => True) ?hr ?hp (fun _ hk => hk) trivial (Below.refl _ _) (Nat.le_refl _) (by simp) ?_; (case hd => rfl); (case hg => rfl); (case hr => first | (go_simp; done) | (go_simp; rfl)); (case hp => exact (Reps.one (show Kd.M Kd.string _ _ _ (⟨#[]⟩ : ByteArray) [.string (⟨#[]⟩ : ByteArray)] from rfl) (Reps.one (show Kd.M Kd.string _ _ _ (⟨#[69]⟩ : ByteArray) [.string (⟨#[69]⟩ : ByteArray)] from rfl) (Reps.one (show Kd.M Kd.string _ _ _ (⟨#[65, 65]⟩ : ByteArray) [.string (⟨#[65, 65]⟩ : ByteArray)] from rfl) (Reps.none _ _))))); intro v144 w50 ho51 hb hg_ hnew_; clear hg_ hnew_; (first | rw [← Ny143.out] at ho51 | (simp only [Int.reduceToNat] at ho51; rw [← Ny143.out] at ho51)); have HO145 := am (Kd.R_lower ho51 (keep_size (zh HK))); replace BK121 := am (blk_below (zk BK121) hb); replace BK131 := am (blk_below (zk BK131) hb); replace HI0 := am (IsS57.below (zi HI0) hb); replace HK := am (KeepBut.trans (zh HK) (KeepBut.of_below hb g none) (.inl rfl)); replace HB := am (below_step (zb HB) hb); clear hb ho51; obtain ⟨Ao52, co52, eo52⟩ := Kd.R_slice HO145.out; subst eo52) | ((with_reducible refine gate_callee (f := 31) rfl ?_); refine goesL_ (some 42) rfl rfl Tryd.func31 (by kernel_rfl) rfl #[.pointer (some ⟨g, 0, none⟩), .slice Ao52 y143.length co52] rfl (by (try simp only [List.map_toArray, List.map_cons, List.map_nil]); first | done | rfl | (simp only [List.length_drop, List.length_take]; rfl)) ?_; (with_reducible refine (spec_l6Rd_of.calls kj5 g s0_0 t142 _ _ y143 t146 t147 w0 _ ?side1 ?side2 ?side3 ?side4 ?side5 A48.out).mono ?_); (case side1 => exact zi HI0); (case side2 => exact zb HB); (case side3 => exact zc (Kd.R_reads' HO145.out).2.2); (case side4 => exact (Kd.R_reads' HO145.out).2.1); (case side5 => exact far_slice (IsS57.own_ne HI0.out HO145.out (by decide))); rintro e w53 ⟨rfl, hi, hb, hk⟩; refine ⟨_, rfl, ?_⟩; replace BK121 := am (KeepBut.blk hk (zk BK121) NB121_0.out (by simp)); replace BK131 := am (KeepBut.blk hk (zk BK131) NB131_0.out (by simp)); replace HO145 := am (Kd.R_mono (Kd.R_keep (IsS57.apart (zi HI0) (zr HO145) (by decide)) hk (fun _ h => h.2)) (fun _ h => h.1)); replace HK := am (KeepBut.trans (zh HK) hk (.inl rfl)); replace HB := am (hb); replace HI0 := am (hi); (try clear hb); (try clear hb2); (try clear hk); (try clear hi); have hnb54 := NB131_121.out; have hnc54 := NB121_131.out; have hnb55 := NB131_0.out; have hnc55 := NB0_131.out; have hcz56_0 := ce0 BK131; have hcz56_1 := ce1 BK131; have hcz56_2 := ce2 BK131; have hcz56_3 := ce3 BK131; have hcz56_4 := ce4 BK131; have hfz56_0 := bfz BK131 0; have hfz56_1 := bfz BK131 1; have hfz56_2 := bfz BK131 2; have hfz56_3 := bfz BK131 3; have hfz56_4 := bfz BK131 4; have hnb57 := NB121_0.out; have hnc57 := NB0_121.out; have hcz58_0 := ce0 BK121; have hcz58_1 := ce1 BK121; have hcz58_2 := ce2 BK121; have hcz58_3 := ce3 BK121; have hcz58_4 := ce4 BK121; have hfz58_0 := bfz BK121 0; have hfz58_1 := bfz BK121 1; have hfz58_2 := bfz BK121 2; have hfz58_3 := bfz BK121 3; have hfz58_4 := bfz BK121 4))
    refine bodyPost_ret (results_cell_row rfl _ _ gb121 24 #[.int .i64 x132000_5, .string t146, .string x132002_5, .int .i64 x132003_5, .string x132004_5] (0, 0) _ rfl (zp BK121) Tryd.underlying24 rfl (by kernel_rfl)) rfl ?_
    exact ⟨zv, (zi HI0), (zb HB), (zh HK)⟩
  rw [if_neg c47] at H
  have c47b0 : (t141 == 0) = false := beq_eq_false_iff_ne.mpr c47
  have c47b1 : (t141 != 0) = true := bne_iff_ne.mpr c47
  by_cases c59 : t141 = 1
  · rw [if_pos c59] at H
    have c59b0 : (t141 == 1) = true := beq_iff_eq.mpr c59
    have c59b1 : (t141 != 1) = false := bne_eq_false_iff_eq.mpr c59
    clear c59
    replace H := obs H
    obtain ⟨⟨t148, t149⟩, A600, H⟩ := H
    replace H : (some (x132000_5, x132001_5, x132002_5, wrap64 (t148 - 1), x132004_5, t149)) = some (r1, r2, r3, r4, r5, r6) := H
    have A60 := am A600
    clear A600
    simp only [Option.some.injEq, Prod.mk.injEq] at H
    obtain ⟨rfl, rfl, rfl, rfl, rfl, rfl⟩ := H
    go_wp2_with (first | ((with_reducible refine gate_callee (f := 30) rfl ?_); refine goesL_ (some 37) rfl rfl Tryd.func30 (by kernel_rfl) rfl #[.pointer (some ⟨g, 0, none⟩), .int .i64 30] rfl (by (try simp only [List.map_toArray, List.map_cons, List.map_nil]); first | done | rfl | (simp only [List.length_drop, List.length_take]; rfl)) ?_; (with_reducible refine (spec_l6Rd_pick.calls kj5 g s0_0 x1001_5 30 t141 t142 w0 _ ?side1 ?side2 A46.out).mono ?_); (case side1 => exact zi HI0); (case side2 => exact zb HB); rintro e w61 ⟨rfl, hi, hb, hk⟩; refine ⟨_, rfl, ?_⟩; replace BK121 := am (KeepBut.blk hk (zk BK121) NB121_0.out (by simp)); replace BK131 := am (KeepBut.blk hk (zk BK131) NB131_0.out (by simp)); replace HK := am (KeepBut.trans (zh HK) hk (.inl rfl)); replace HB := am (hb); replace HI0 := am (hi); (try clear hb); (try clear hb2); (try clear hk); (try clear hi)) | ((with_reducible refine gate_callee (f := 30) rfl ?_); refine goesL_ (some 47) rfl rfl Tryd.func30 (by kernel_rfl) rfl #[.pointer (some ⟨g, 0, none⟩), .int .i64 9] rfl (by (try simp only [List.map_toArray, List.map_cons, List.map_nil]); first | done | rfl | (simp only [List.length_drop, List.length_take]; rfl)) ?_; (with_reducible refine (spec_l6Rd_pick.calls kj5 g s0_0 t142 9 t148 t149 w0 _ ?side1 ?side2 A60.out).mono ?_); (case side1 => exact zi HI0); (case side2 => exact zb HB); rintro e w62 ⟨rfl, hi, hb, hk⟩; refine ⟨_, rfl, ?_⟩; replace BK121 := am (KeepBut.blk hk (zk BK121) NB121_0.out (by simp)); replace BK131 := am (KeepBut.blk hk (zk BK131) NB131_0.out (by simp)); replace HK := am (KeepBut.trans (zh HK) hk (.inl rfl)); replace HB := am (hb); replace HI0 := am (hi); (try clear hb); (try clear hb2); (try clear hk); (try clear hi); have hnb63 := NB131_121.out; have hnc63 := NB121_131.out; have hnb64 := NB131_0.out; have hnc64 := NB0_131.out; have hcz65_0 := ce0 BK131; have hcz65_1 := ce1 BK131; have hcz65_2 := ce2 BK131; have hcz65_3 := ce3 BK131; have hcz65_4 := ce4 BK131; have hfz65_0 := bfz BK131 0; have hfz65_1 := bfz BK131 1; have hfz65_2 := bfz BK131 2; have hfz65_3 := bfz BK131 3; have hfz65_4 := bfz BK131 4; have hnb66 := NB121_0.out; have hnc66 := NB0_121.out; have hcz67_0 := ce0 BK121; have hcz67_1 := ce1 BK121; have hcz67_2 := ce2 BK121; have hcz67_3 := ce3 BK121; have hcz67_4 := ce4 BK121; have hfz67_0 := bfz BK121 0; have hfz67_1 := bfz BK121 1; have hfz67_2 := bfz BK121 2; have hfz67_3 := bfz BK121 3; have hfz67_4 := bfz BK121 4))
    refine bodyPost_ret (results_cell_row rfl _ _ gb121 24 #[.int .i64 x132000_5, .string x132001_5, .string x132002_5, .int .i64 (wrap64 (t148 - 1)), .string x132004_5] (0, 0) _ rfl (zp BK121) Tryd.underlying24 rfl (by kernel_rfl)) rfl ?_
    exact ⟨zv, (zi HI0), (zb HB), (zh HK)⟩
  rw [if_neg c59] at H
  have c59b0 : (t141 == 1) = false := beq_eq_false_iff_ne.mpr c59
  have c59b1 : (t141 != 1) = true := bne_iff_ne.mpr c59
  by_cases c68 : t141 = 2
  rotate_left
  · rw [if_neg c68] at H
    have c68b0 : (t141 == 2) = false := beq_eq_false_iff_ne.mpr c68
    have c68b1 : (t141 != 2) = true := bne_iff_ne.mpr c68
    simp only [Option.some.injEq, Prod.mk.injEq] at H
    obtain ⟨rfl, rfl, rfl, rfl, rfl, rfl⟩ := H
    go_wp2_with (first | ((with_reducible refine gate_callee (f := 30) rfl ?_); refine goesL_ (some 37) rfl rfl Tryd.func30 (by kernel_rfl) rfl #[.pointer (some ⟨g, 0, none⟩), .int .i64 30] rfl (by (try simp only [List.map_toArray, List.map_cons, List.map_nil]); first | done | rfl | (simp only [List.length_drop, List.length_take]; rfl)) ?_; (with_reducible refine (spec_l6Rd_pick.calls kj5 g s0_0 x1001_5 30 t141 t142 w0 _ ?side1 ?side2 A46.out).mono ?_); (case side1 => exact zi HI0); (case side2 => exact zb HB); rintro e w77 ⟨rfl, hi, hb, hk⟩; refine ⟨_, rfl, ?_⟩; replace BK121 := am (KeepBut.blk hk (zk BK121) NB121_0.out (by simp)); replace BK131 := am (KeepBut.blk hk (zk BK131) NB131_0.out (by simp)); replace HK := am (KeepBut.trans (zh HK) hk (.inl rfl)); replace HB := am (hb); replace HI0 := am (hi); (try clear hb); (try clear hb2); (try clear hk); (try clear hi); have hnb78 := NB131_121.out; have hnc78 := NB121_131.out; have hnb79 := NB131_0.out; have hnc79 := NB0_131.out; have hcz80_0 := ce0 BK131; have hcz80_1 := ce1 BK131; have hcz80_2 := ce2 BK131; have hcz80_3 := ce3 BK131; have hcz80_4 := ce4 BK131; have hfz80_0 := bfz BK131 0; have hfz80_1 := bfz BK131 1; have hfz80_2 := bfz BK131 2; have hfz80_3 := bfz BK131 3; have hfz80_4 := bfz BK131 4; have hnb81 := NB121_0.out; have hnc81 := NB0_121.out; have hcz82_0 := ce0 BK121; have hcz82_1 := ce1 BK121; have hcz82_2 := ce2 BK121; have hcz82_3 := ce3 BK121; have hcz82_4 := ce4 BK121; have hfz82_0 := bfz BK121 0; have hfz82_1 := bfz BK121 1; have hfz82_2 := bfz BK121 2; have hfz82_3 := bfz BK121 3; have hfz82_4 := bfz BK121 4))
    refine bodyPost_ret (results_cell_row rfl _ _ gb121 24 #[.int .i64 x132000_5, .string x132001_5, .string x132002_5, .int .i64 x132003_5, .string x132004_5] (0, 0) _ rfl (zp BK121) Tryd.underlying24 rfl (by kernel_rfl)) rfl ?_
    exact ⟨zv, (zi HI0), (zb HB), (zh HK)⟩
  rw [if_pos c68] at H
  have c68b0 : (t141 == 2) = true := beq_iff_eq.mpr c68
  have c68b1 : (t141 != 2) = false := bne_eq_false_iff_eq.mpr c68
  clear c68
  replace H := obs H
  obtain ⟨⟨t150, t151⟩, A690, H⟩ := H
  replace H : (some (t150, x132001_5, x132002_5, x132003_5, x132004_5, t151)) = some (r1, r2, r3, r4, r5, r6) := H
  have A69 := am A690
  clear A690
  simp only [Option.some.injEq, Prod.mk.injEq] at H
  obtain ⟨rfl, rfl, rfl, rfl, rfl, rfl⟩ := H
  go_wp2_with (first | ((with_reducible refine gate_callee (f := 30) rfl ?_); refine goesL_ (some 37) rfl rfl Tryd.func30 (by kernel_rfl) rfl #[.pointer (some ⟨g, 0, none⟩), .int .i64 30] rfl (by (try simp only [List.map_toArray, List.map_cons, List.map_nil]); first | done | rfl | (simp only [List.length_drop, List.length_take]; rfl)) ?_; (with_reducible refine (spec_l6Rd_pick.calls kj5 g s0_0 x1001_5 30 t141 t142 w0 _ ?side1 ?side2 A46.out).mono ?_); (case side1 => exact zi HI0); (case side2 => exact zb HB); rintro e w70 ⟨rfl, hi, hb, hk⟩; refine ⟨_, rfl, ?_⟩; replace BK121 := am (KeepBut.blk hk (zk BK121) NB121_0.out (by simp)); replace BK131 := am (KeepBut.blk hk (zk BK131) NB131_0.out (by simp)); replace HK := am (KeepBut.trans (zh HK) hk (.inl rfl)); replace HB := am (hb); replace HI0 := am (hi); (try clear hb); (try clear hb2); (try clear hk); (try clear hi)) | ((with_reducible refine gate_callee (f := 30) rfl ?_); refine goesL_ (some 53) rfl rfl Tryd.func30 (by kernel_rfl) rfl #[.pointer (some ⟨g, 0, none⟩), .int .i64 6] rfl (by (try simp only [List.map_toArray, List.map_cons, List.map_nil]); first | done | rfl | (simp only [List.length_drop, List.length_take]; rfl)) ?_; (with_reducible refine (spec_l6Rd_pick.calls kj5 g s0_0 t142 6 t150 t151 w0 _ ?side1 ?side2 A69.out).mono ?_); (case side1 => exact zi HI0); (case side2 => exact zb HB); rintro e w71 ⟨rfl, hi, hb, hk⟩; refine ⟨_, rfl, ?_⟩; replace BK121 := am (KeepBut.blk hk (zk BK121) NB121_0.out (by simp)); replace BK131 := am (KeepBut.blk hk (zk BK131) NB131_0.out (by simp)); replace HK := am (KeepBut.trans (zh HK) hk (.inl rfl)); replace HB := am (hb); replace HI0 := am (hi); (try clear hb); (try clear hb2); (try clear hk); (try clear hi); have hnb72 := NB131_121.out; have hnc72 := NB121_131.out; have hnb73 := NB131_0.out; have hnc73 := NB0_131.out; have hcz74_0 := ce0 BK131; have hcz74_1 := ce1 BK131; have hcz74_2 := ce2 BK131; have hcz74_3 := ce3 BK131; have hcz74_4 := ce4 BK131; have hfz74_0 := bfz BK131 0; have hfz74_1 := bfz BK131 1; have hfz74_2 := bfz BK131 2; have hfz74_3 := bfz BK131 3; have hfz74_4 := bfz BK131 4; have hnb75 := NB121_0.out; have hnc75 := NB0_121.out; have hcz76_0 := ce0 BK121; have hcz76_1 := ce1 BK121; have hcz76_2 := ce2 BK121; have hcz76_3 := ce3 BK121; have hcz76_4 := ce4 BK121; have hfz76_0 := bfz BK121 0; have hfz76_1 := bfz BK121 1; have hfz76_2 := bfz BK121 2; have hfz76_3 := bfz BK121 3; have hfz76_4 := bfz BK121 4))
  refine bodyPost_ret (results_cell_row rfl _ _ gb121 24 #[.int .i64 t150, .string x132001_5, .string x132002_5, .int .i64 x132003_5, .string x132004_5] (0, 0) _ rfl (zp BK121) Tryd.underlying24 rfl (by kernel_rfl)) rfl ?_
  exact ⟨zv, (zi HI0), (zb HB), (zh HK)⟩
/-! ### spec_l6Open: function 21 -/
def spec_l6Open.f (l0 : List Int) : Option (List Int × Int) := if (l0.length : Int) > 2000 then (if 2000 ≤ (l0.length : Int) then (some (l0.take 2000, 0)) else (none)) else (some (l0, 0))
set_option maxHeartbeats 8000000 in
set_option maxRecDepth 100000 in
theorem spec_l6Open.calls (A0 : Option Addr) (c0 : Nat) (l0 : List Int) (r1 : List Int) (r2 : Int) (w0 w : World) (hB : Below w0.heap.size w0 w) (hr0 : Kd.C (Kd.int .u8) w0 A0 l0.length l0) (hc0 : l0.length ≤ c0) (h : spec_l6Open.f l0 = some (r1, r2)) :
 Calls Tryd.prog 21 #[.slice A0 l0.length c0] w fun e w' => ∃ g_ : Nat, e = .returned (.pointer (some ⟨g_, 0, none⟩)) ∧ IsS57 w0 w' g_ r1 r2 ∧ Below w0.heap.size w0 w' ∧ Below w.heap.size w w' := by
 have hu57 := Tryd.underlying57
 have HR0 := am hr0
 have HC0 := am hc0
 clear hr0 hc0
 have HBW := am (Below.refl w.heap.size w)
 have HW0 := am hB.size
 have HB := am hB
 clear hB
 have H : (if (l0.length : Int) > 2000 then (if 2000 ≤ (l0.length : Int) then (some (l0.take 2000, 0)) else (none)) else (some (l0, 0))) = some (r1, r2) := h
 clear h
 by_cases c2 : (l0.length : Int) > 2000
 rotate_left
 · rw [if_neg c2] at H
   have c2b0 : decide (2000 < (l0.length : Int)) = false := decide_eq_false c2
   have c2b1 : decide (2000 < l0.length) = false := decide_eq_false (by omega)
   clear c2
   simp only [Option.some.injEq, Prod.mk.injEq] at H
   obtain ⟨rfl, rfl⟩ := H
   go_enter Tryd.func21, Tryd.ntmps21
   go_wp2_with (first | ((with_reducible refine gate_dst (N := 10) rfl ?_); refine bx 57 #[.slice A0 l0.length c0, .int .i64 0] ?_; intro gb154 hg w6 hbox hb; replace HB := am (below_step (zb HB) hb); have BK154 := am (hbox); have GW154 := am (zn hg (zb HBW)); have GE154 := am ((Nat.le_trans HW0.out (zn hg (zb HBW)) : w0.heap.size ≤ gb154)); replace HBW := am (below_step HBW.out hb); clear hb hbox hg))
   go_ret
   exact ⟨_, rfl, (show IsS57 w0 _ gb154 l0 0 from ⟨_, _, (zk BK154), GE154.out, HR0.out⟩), (zb HB), (zb HBW)⟩
 rw [if_pos c2] at H
 have c2b0 : decide (2000 < (l0.length : Int)) = true := decide_eq_true c2
 have c2b1 : decide (2000 < l0.length) = true := decide_eq_true (by omega)
 clear c2
 by_cases c3 : 2000 ≤ (l0.length : Int)
 rotate_left
 · rw [if_neg c3] at H
   exact absurd H (by simp)
 rw [if_pos c3] at H
 have c3b0 := eq_true c3
 have c3b1 : decide (2000 ≤ (l0.length : Int)) = true := decide_eq_true c3
 clear c3
 simp only [Option.some.injEq, Prod.mk.injEq] at H
 obtain ⟨rfl, rfl⟩ := H
 obtain ⟨i04, hi04, _, hsz4, _⟩ := info_parts info5
 obtain ⟨hcut4, hA4, hC4⟩ := print_take_of (P := Tryd.prog) (Value.int .u8) 0 22 5 .i64 Tryd.underlying22 hi04 hsz4 A0 c0 l0 2000 (by omega) (of_decide_eq_true zl) HC0.out
 have HR152 := am (Kd.C_of_reads (h1 := fun _ => rfl) (hA4 _ (Kd.reads_of_C HR0.out)))
 have HC152 := am hC4
 clear hA4 hC4 hi04 hsz4
 go_enter Tryd.func21, Tryd.ntmps21
 go_wp2_with (first | ((with_reducible refine gate_dst (N := 10) rfl ?_); refine bx 57 #[.slice A0 (l0.take 2000).length c0, .int .i64 0] ?_; intro gb153 hg w5 hbox hb; replace HB := am (below_step (zb HB) hb); have BK153 := am (hbox); have GW153 := am (zn hg (zb HBW)); have GE153 := am ((Nat.le_trans HW0.out (zn hg (zb HBW)) : w0.heap.size ≤ gb153)); replace HBW := am (below_step HBW.out hb); clear hb hbox hg))
 go_ret
 exact ⟨_, rfl, (show IsS57 w0 _ gb153 (l0.take 2000) 0 from ⟨_, _, (zk BK153), GE153.out, HR152.out⟩), (zb HB), (zb HBW)⟩
/-! ### spec_DrawOpText: function 9 -/
def spec_DrawOpText.f (k : Nat) (l0 : List Int) : Option (Int × ByteArray × ByteArray × Int × ByteArray) := (spec_l6Open.f l0).bind fun bt156 => ((spec_l71Op.f k bt156.1 bt156.2).bind fun bt159 => (some (bt159.1, bt159.2.1, bt159.2.2.1, bt159.2.2.2.1, bt159.2.2.2.2.1)))
theorem spec_DrawOpText.mono : ∀ a0 k, LeO (spec_DrawOpText.f k a0) (spec_DrawOpText.f (k + 1) a0) := by
 intro a0 k
 unfold spec_DrawOpText.f
 exact mo1 @spec_l71Op.mono
set_option maxHeartbeats 8000000 in
set_option maxRecDepth 100000 in
theorem spec_DrawOpText.calls (k : Nat) (A0 : Option Addr) (c0 : Nat) (l0 : List Int) (r1 : Int) (r2 : ByteArray) (r3 : ByteArray) (r4 : Int) (r5 : ByteArray) (w : World) (hr0 : Kd.C (Kd.int .u8) w A0 l0.length l0) (hc0 : l0.length ≤ c0) (h : spec_DrawOpText.f k l0 = some (r1, r2, r3, r4, r5)) :
 Calls Tryd.prog 9 #[.slice A0 l0.length c0] w fun e w' => e = .returned (.agg #[.int .i64 r1, .string r2, .string r3, .int .i64 r4, .string r5]) ∧ Below w.heap.size w w' := by
 have hu24 := Tryd.underlying24
 have HR0 := am hr0
 have HC0 := am hc0
 clear hr0 hc0
 have HB := am (Below.refl w.heap.size w)
 have H : ((spec_l6Open.f l0).bind fun bt156 => ((spec_l71Op.f k bt156.1 bt156.2).bind fun bt159 => (some (bt159.1, bt159.2.1, bt159.2.2.1, bt159.2.2.2.1, bt159.2.2.2.2.1)))) = some (r1, r2, r3, r4, r5) := h
 clear h
 replace H := obs H
 obtain ⟨⟨t156, t157⟩, A20, H⟩ := H
 replace H : ((spec_l71Op.f k t156 t157).bind fun bt159 => (some (bt159.1, bt159.2.1, bt159.2.2.1, bt159.2.2.2.1, bt159.2.2.2.2.1))) = some (r1, r2, r3, r4, r5) := H
 have A2 := am A20
 clear A20
 replace H := obs H
 obtain ⟨⟨t159, t160, t161, t162, t163, t164⟩, A30, H⟩ := H
 replace H : (some (t159, t160, t161, t162, t163)) = some (r1, r2, r3, r4, r5) := H
 have A3 := am A30
 clear A30
 simp only [Option.some.injEq, Prod.mk.injEq] at H
 obtain ⟨rfl, rfl, rfl, rfl, rfl⟩ := H
 go_enter Tryd.func9, Tryd.ntmps9
 go_wp2_with (first | ((with_reducible refine gate_dst (N := 2) rfl ?_); refine bx 24 #[.int .i64 0, .string (⟨#[]⟩ : ByteArray), .string (⟨#[]⟩ : ByteArray), .int .i64 0, .string (⟨#[]⟩ : ByteArray)] ?_; intro gb155 hg w4 hbox hb; have BK155 := am (hbox); have GW155 := am (zn hg (zb HB)); have GE155 := am (zn hg (zb HB)); replace HB := am (below_step (zb HB) hb); clear hb hbox hg) | ((with_reducible refine gate_callee (f := 21) rfl ?_); refine goesL_ (some 4) rfl rfl Tryd.func21 (by kernel_rfl) rfl #[.slice A0 l0.length c0] rfl (by (try simp only [List.map_toArray, List.map_cons, List.map_nil]); first | done | rfl | (simp only [List.length_drop, List.length_take]; rfl)) ?_; (with_reducible refine (spec_l6Open.calls _ _ l0 t156 t157 w _ ?side1 ?side2 ?side3 A2.out).mono ?_); (case side1 => exact zb HB); (case side2 => exact HR0.out); (case side3 => exact HC0.out); rintro e w5 ⟨g158, rfl, hi, hb, hb2⟩; refine ⟨_, rfl, ?_⟩; replace HB := am (hb); have HI158 := am (hi); have NB158_155 := am (IsS57.ne_blk hi (blk_below (zk BK155) hb2) (by decide)); have NB155_158 := am (Ne.symm (IsS57.ne_blk hi (blk_below (zk BK155) hb2) (by decide))); replace BK155 := am (blk_below (zk BK155) hb2); (try clear hb); (try clear hb2); (try clear hk); (try clear hi)) | ((with_reducible refine gate_callee (f := 20) rfl ?_); refine goesL_ (some 5) rfl rfl Tryd.func20 (by kernel_rfl) rfl #[.pointer (some ⟨g158, 0, none⟩)] rfl (by (try simp only [List.map_toArray, List.map_cons, List.map_nil]); first | done | rfl | (simp only [List.length_drop, List.length_take]; rfl)) ?_; (with_reducible refine (spec_l71Op.calls k g158 t156 t157 t159 t160 t161 t162 t163 t164 w _ ?side1 ?side2 A3.out).mono ?_); (case side1 => exact zi HI158); (case side2 => exact zb HB); rintro e w6 ⟨rfl, hi, hb, hk⟩; refine ⟨_, rfl, ?_⟩; replace BK155 := am (KeepBut.blk hk (zk BK155) NB155_158.out (by simp)); replace HB := am (hb); replace HI158 := am (hi); (try clear hb); (try clear hb2); (try clear hk); (try clear hi); have hnb7 := NB155_158.out; have hnc7 := NB158_155.out; have hcz8_0 := ce0 BK155; have hcz8_1 := ce1 BK155; have hcz8_2 := ce2 BK155; have hcz8_3 := ce3 BK155; have hcz8_4 := ce4 BK155; have hfz8_0 := bfz BK155 0; have hfz8_1 := bfz BK155 1; have hfz8_2 := bfz BK155 2; have hfz8_3 := bfz BK155 3; have hfz8_4 := bfz BK155 4))
 refine bodyPost_ret (results_cell_row rfl _ _ gb155 24 #[.int .i64 t159, .string t160, .string t161, .int .i64 t162, .string t163] (0, 0) _ rfl (zp BK155) Tryd.underlying24 rfl (by kernel_rfl)) rfl ?_
 exact ⟨zv, (zb HB)⟩
/-! ### impl_within: function 32 -/
def impl_within.f (a0 : Int) (a1 : Int) (a2 : Int) : Option (Bool) := if a0 ≥ a1 then (some (decide (a0 ≤ a2))) else (some false)
set_option maxHeartbeats 8000000 in
set_option maxRecDepth 100000 in
theorem impl_within.calls (a0 : Int) (a1 : Int) (a2 : Int) (r : Bool) (w : World) (h : impl_within.f a0 a1 a2 = some r) :
 Calls Tryd.prog 32 #[.int .i64 a0, .int .i64 a1, .int .i64 a2] w fun e w' => e = .returned (.bool r) ∧ Drawn0 w w' := by
 have H : (if a0 ≥ a1 then (some (decide (a0 ≤ a2))) else (some false)) = some r := h
 clear h
 by_cases c4 : a0 ≥ a1
 · rw [if_pos c4] at H
   have c4b0 : decide (a1 ≤ a0) = true := decide_eq_true c4
   clear c4
   obtain rfl := Option.some.inj H
   go_enter Tryd.func32, Tryd.ntmps32
   go_wp2
   go_ret
   exact ⟨by first | rfl | (simp; done) | (simp [*]; done), by repeat (first | exact Drawn0.refl _ | apply Drawn0.step)⟩
 rw [if_neg c4] at H
 have c4b0 : decide (a1 ≤ a0) = false := decide_eq_false c4
 clear c4
 obtain rfl := Option.some.inj H
 go_enter Tryd.func32, Tryd.ntmps32
 go_wp2
 go_ret
 exact ⟨by first | rfl | (simp; done) | (simp [*]; done), by repeat (first | exact Drawn0.refl _ | apply Drawn0.step)⟩
/-! ### impl_TextOk: function 33 -/
def impl_TextOk.l0 : Nat → ByteArray → Int → Int → Option (Bool)
 | 0, _, _, _ => none
 | k + 1, x0, x5, x6 => if x6 < x5 then (if 0 ≤ x6 then (if x6 < (x0.size : Int) then ((impl_within.f (wrap64 (bt x0 x6)) 97 100).bind fun t165 => (if t165 = true then (impl_TextOk.l0 k x0 x5 (wrap64 (x6 + 1))) else (some false))) else (none)) else (none)) else (some (decide ((x0.size : Int) ≤ 4)))
def impl_TextOk.f (k : Nat) (a0 : ByteArray) : Option (Bool) := impl_TextOk.l0 k a0 (a0.size : Int) 0
theorem impl_TextOk.mono_l : ∀ k, (∀ y0 y1 y2, LeO (impl_TextOk.l0 k y0 y1 y2) (impl_TextOk.l0 (k + 1) y0 y1 y2))
 | 0 => fun _ _ _ r h => by simp [impl_TextOk.l0] at h
 | k + 1 => by
  have ih0 := impl_TextOk.mono_l k
  intro y0 y1 y2
  unfold impl_TextOk.l0
  exact mo1 ih0
theorem impl_TextOk.mono : ∀ a0 k, LeO (impl_TextOk.f k a0) (impl_TextOk.f (k + 1) a0) := by
 intro a0 k
 have ih0 := impl_TextOk.mono_l k
 unfold impl_TextOk.f
 exact mo1 ih0
set_option maxHeartbeats 8000000 in
set_option maxRecDepth 100000 in
theorem impl_TextOk.calls (k : Nat) (a0 : ByteArray) (r : Bool) (w : World) (h : impl_TextOk.f k a0 = some r) :
 Calls Tryd.prog 33 #[.string a0] w fun e w' => e = .returned (.bool r) ∧ Drawn0 w w' := by
 have H : (impl_TextOk.l0 k a0 (a0.size : Int) 0) = some r := h
 clear h
 have H' := am H
 clear H
 go_enter Tryd.func33, Tryd.ntmps33
 go_wp2
 go_loopg [6] k (fun kq v6 w' => ∃ (x6_1 : Int), v6 = .int .i64 x6_1 ∧ Aside0 (impl_TextOk.l0 kq a0 (a0.size : Int) x6_1 = some r) ∧ Aside0 (kq ≤ k) ∧ Drawn0 w w')
 case atStart => exact ⟨(0), ze, H', ⟨Nat.le_refl _⟩, by repeat (first | exact Drawn0.refl _ | apply Drawn0.step)⟩
 case round =>
  clear H'
  obtain ⟨x6_1, rfl, HA, HK1, ⟨m1, rfl⟩⟩ := hrel
  cases gk with
  | zero => exact absurd HA.out (by simp [impl_TextOk.l0])
  | succ k1 =>
   have H := HA.out
   clear HA
   simp only [impl_TextOk.l0] at H
   by_cases c2 : x6_1 < (a0.size : Int)
   rotate_left
   · rw [if_neg c2] at H
     have c2b0 : decide (x6_1 < (a0.size : Int)) = false := decide_eq_false c2
     clear c2
     obtain rfl := Option.some.inj H
     go_wp2
     go_ret
     exact ⟨by first | rfl | (simp; done) | (simp [*]; done), by repeat (first | exact Drawn0.refl _ | apply Drawn0.step)⟩
   rw [if_pos c2] at H
   have c2b0 : decide (x6_1 < (a0.size : Int)) = true := decide_eq_true c2
   clear c2
   by_cases c3 : 0 ≤ x6_1
   rotate_left
   · rw [if_neg c3] at H
     exact absurd H (by simp)
   rw [if_pos c3] at H
   have c3b0 : decide (0 ≤ x6_1) = true := decide_eq_true c3
   clear c3
   by_cases c4 : x6_1 < (a0.size : Int)
   rotate_left
   · rw [if_neg c4] at H
     exact absurd H (by simp)
   rw [if_pos c4] at H
   have c4b0 : decide (x6_1 < (a0.size : Int)) = true := decide_eq_true c4
   clear c4
   replace H := obs H
   obtain ⟨t165, A60, H⟩ := H
   replace H : (if t165 = true then (impl_TextOk.l0 k1 a0 (a0.size : Int) (wrap64 (x6_1 + 1))) else (some false)) = some r := H
   have A6 := am A60
   clear A60
   by_cases c7 : t165 = true
   · subst c7
     have H1 : (impl_TextOk.l0 k1 a0 (a0.size : Int) (wrap64 (x6_1 + 1))) = some r := by rw [if_pos rfl] at H; exact H
     clear H
     have H := H1
     clear H1
     have H' := am H
     clear H
     have p5 : 0 ≤ (x6_1 : Int) := of_decide_eq_true zl
     have q5 : x6_1 < (a0.size : Int) := of_decide_eq_true zl
     have hx5 := bt_at a0 x6_1
     replace p5 := eq_true p5
     replace q5 := eq_true q5
     go_wp2_with (first | ((with_reducible refine gate_callee (f := 32) rfl ?_); refine goesL_ (some 13) rfl rfl Tryd.func32 (by kernel_rfl) rfl #[.int .i64 (wrap64 (bt a0 x6_1)), .int .i64 97, .int .i64 100] rfl (by (try simp only [List.map_toArray, List.map_cons, List.map_nil]); first | done | rfl | (simp only [List.length_drop, List.length_take]; rfl)) ?_; (with_reducible refine (impl_within.calls (wrap64 (bt a0 x6_1)) 97 100 true _ A6.out).mono ?_); rintro e w' ⟨rfl, ⟨nd, rfl⟩⟩; refine ⟨_, rfl, ?_⟩))
     go_roundg k1
     case measure => have := HK1.out; omega
     case rel => exact ⟨(wrap64 (x6_1 + 1)), ze, H', ⟨by have := HK1.out; omega⟩, by repeat (first | exact Drawn0.refl _ | apply Drawn0.step)⟩
   replace c7 := Bool.eq_false_iff.mpr c7
   subst c7
   have H1 : (some false) = some r := by rw [if_neg (show ¬ (false = true) by decide)] at H; exact H
   clear H
   have H := H1
   clear H1
   obtain rfl := Option.some.inj H
   have p5 : 0 ≤ (x6_1 : Int) := of_decide_eq_true zl
   have q5 : x6_1 < (a0.size : Int) := of_decide_eq_true zl
   have hx5 := bt_at a0 x6_1
   replace p5 := eq_true p5
   replace q5 := eq_true q5
   go_wp2_with (first | ((with_reducible refine gate_callee (f := 32) rfl ?_); refine goesL_ (some 13) rfl rfl Tryd.func32 (by kernel_rfl) rfl #[.int .i64 (wrap64 (bt a0 x6_1)), .int .i64 97, .int .i64 100] rfl (by (try simp only [List.map_toArray, List.map_cons, List.map_nil]); first | done | rfl | (simp only [List.length_drop, List.length_take]; rfl)) ?_; (with_reducible refine (impl_within.calls (wrap64 (bt a0 x6_1)) 97 100 false _ A6.out).mono ?_); rintro e w' ⟨rfl, ⟨nd, rfl⟩⟩; refine ⟨_, rfl, ?_⟩))
   go_ret
   exact ⟨by first | rfl | (simp; done) | (simp [*]; done), by repeat (first | exact Drawn0.refl _ | apply Drawn0.step)⟩
end Go.Proofs.YtagfiehoodepbaaDoor.PFnOpCut
