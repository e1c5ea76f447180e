/- The walk: each function that the law comes to as a plain Lean function, and a proof that the Go code answers so. Written by this session's program over the kit's printer. -/
import Derived.Test.YtagfiehoodepbaaDoorZ
import Derived.Test.YtagfiehoodepbaaDoorQFnOpStrict0
import Derived.Test.YtagfiehoodepbaaDoorQFnOpStrict8
namespace Go.Proofs.YtagfiehoodepbaaDoor.PFnOpStrict
open Go.RowKit Go.Proofs.YtagfiehoodepbaaDoorW.PrintWords Go.Proofs.YtagfiehoodepbaaDoorW.PrintLast Go.Proofs.YtagfiehoodepbaaDoorW.PrintMore
attribute [local go_sem] max2_int min2_int max_two min_two max_three min_three max_four min_four   -- for this text's walks alone
set_option linter.unusedVariables false
set_option linter.unusedSimpArgs false
/-! ### spec_l71Op: function 20 -/
mutual
def spec_l71Op.j1 : Nat → List Int → Int → Int → ByteArray → ByteArray → Int → ByteArray → Option (Int × ByteArray × ByteArray × Int × ByteArray × Int)
 | 0, _, _, _, _, _, _, _ => none
 | k + 1, x1000, x1001, x212000, x212001, x212002, x212003, x212004 => (spec_l6Rd_pick.f k x1000 x1001 30).bind fun bt221 => (if bt221.1 = 0 then ((spec_l6Rd_of.f k x1000 bt221.2 (([(⟨#[]⟩ : ByteArray), (⟨#[69]⟩ : ByteArray), (⟨#[65, 65]⟩ : ByteArray)] : List ByteArray))).bind fun bt226 => (some (x212000, bt226.1, x212002, x212003, x212004, bt226.2))) else (if bt221.1 = 1 then ((spec_l6Rd_pick.f k x1000 bt221.2 9).bind fun bt228 => (some (x212000, x212001, x212002, wrap64 (bt228.1 - 1), x212004, bt228.2))) else (if bt221.1 = 2 then ((spec_l6Rd_pick.f k x1000 bt221.2 6).bind fun bt230 => (some (bt230.1, x212001, x212002, x212003, x212004, bt230.2))) else (some (x212000, x212001, x212002, x212003, x212004, bt221.2)))))
def spec_l71Op.j0 : Nat → Int → Bool → List Int → Int → Int → ByteArray → ByteArray → Int → ByteArray → Option (Int × ByteArray × ByteArray × Int × ByteArray × Int)
 | 0, _, _, _, _, _, _, _, _, _ => none
 | k + 1, x13, x14, x1000, x1001, x212000, x212001, x212002, x212003, x212004 => if x14 = true then ((spec_l6Rd_pick.f k x1000 x1001 6).bind fun bt214 => (spec_l71Op.j1 k x1000 bt214.2 1 x212001 (⟨#[]⟩ : ByteArray) (wrap64 (1 + bt214.1)) (⟨#[]⟩ : ByteArray))) else (if x13 = 2 then ((spec_l6Rd_of.f k x1000 x1001 (([(⟨#[65]⟩ : ByteArray), (⟨#[66]⟩ : ByteArray), (⟨#[67]⟩ : ByteArray), (⟨#[68]⟩ : ByteArray)] : List ByteArray))).bind fun bt219 => (spec_l71Op.j1 k x1000 bt219.2 3 x212001 bt219.1 0 (⟨#[]⟩ : ByteArray))) else (if x13 = 3 then (spec_l71Op.j1 k x1000 x1001 4 x212001 (⟨#[]⟩ : ByteArray) 0 (⟨#[]⟩ : ByteArray)) else (spec_l71Op.j1 k x1000 x1001 x212000 x212001 x212002 x212003 x212004)))
end
def spec_l71Op.f (k : Nat) (s0_0 : List Int) (s0_1 : Int) : Option (Int × ByteArray × ByteArray × Int × ByteArray × Int) := (spec_l6Rd_of.f k s0_0 s0_1 (([(⟨#[65]⟩ : ByteArray), (⟨#[66]⟩ : ByteArray), (⟨#[67]⟩ : ByteArray), (⟨#[68]⟩ : ByteArray)] : List ByteArray))).bind fun bt205 => ((spec_l6Rd_pick.f k s0_0 bt205.2 3).bind fun bt207 => ((spec_l71Text.f k s0_0 bt207.2).bind fun bt209 => ((spec_l6Rd_pick.f k s0_0 bt209.2 12).bind fun bt212 => (if bt212.1 = 0 then (spec_l71Op.j0 k bt212.1 (bt212.1 == 0) s0_0 bt212.2 2 bt205.1 (⟨#[]⟩ : ByteArray) bt207.1 bt209.1) else (spec_l71Op.j0 k bt212.1 (bt212.1 == 1) s0_0 bt212.2 2 bt205.1 (⟨#[]⟩ : ByteArray) bt207.1 bt209.1)))))
theorem spec_l71Op.mono_l : ∀ k, (∀ y0 y1 y2 y3 y4 y5 y6, LeO (spec_l71Op.j1 k y0 y1 y2 y3 y4 y5 y6) (spec_l71Op.j1 (k + 1) y0 y1 y2 y3 y4 y5 y6)) ∧ (∀ y0 y1 y2 y3 y4 y5 y6 y7 y8, LeO (spec_l71Op.j0 k y0 y1 y2 y3 y4 y5 y6 y7 y8) (spec_l71Op.j0 (k + 1) y0 y1 y2 y3 y4 y5 y6 y7 y8))
 | 0 => ⟨fun _ _ _ _ _ _ _ r h => by simp [spec_l71Op.j1] at h, fun _ _ _ _ _ _ _ _ _ r h => by simp [spec_l71Op.j0] at h⟩
 | k + 1 => by
  obtain ⟨ih0, ih1⟩ := spec_l71Op.mono_l k
  refine ⟨?_, ?_⟩
  · intro y0 y1 y2 y3 y4 y5 y6
    unfold spec_l71Op.j1
    exact mo5 ih0 ih1 @spec_l6Rd_of.mono @spec_l6Rd_pick.mono @spec_l71Text.mono
  intro y0 y1 y2 y3 y4 y5 y6 y7 y8
  unfold spec_l71Op.j0
  exact mo5 ih0 ih1 @spec_l6Rd_of.mono @spec_l6Rd_pick.mono @spec_l71Text.mono
theorem spec_l71Op.mono : ∀ a0 a1 k, LeO (spec_l71Op.f k a0 a1) (spec_l71Op.f (k + 1) a0 a1) := by
 intro a0 a1 k
 obtain ⟨ih0, ih1⟩ := spec_l71Op.mono_l k
 unfold spec_l71Op.f
 exact mo5 ih0 ih1 @spec_l6Rd_of.mono @spec_l6Rd_pick.mono @spec_l71Text.mono
set_option maxHeartbeats 8000000 in
set_option maxRecDepth 100000 in
theorem spec_l71Op.calls (k : Nat) (g : Nat) (s0_0 : List Int) (s0_1 : Int) (r1 : Int) (r2 : ByteArray) (r3 : ByteArray) (r4 : Int) (r5 : ByteArray) (r6 : Int) (w0 w : World) (hI : IsS57 w0 w g s0_0 s0_1) (hB : Below w0.heap.size w0 w) (h : spec_l71Op.f k s0_0 s0_1 = some (r1, r2, r3, r4, r5, r6)) :
 Calls Tryd.prog 20 #[.pointer (some ⟨g, 0, none⟩)] w fun e w' => e = .returned (.agg #[.int .i64 r1, .string r2, .string r3, .int .i64 r4, .string r5]) ∧ IsS57 w0 w' g s0_0 r6 ∧ Below w0.heap.size w0 w' ∧ KeepBut w w' g none := by
 have hu24 := Tryd.underlying24
 have HI0 := am hI
 have HK := am (KeepBut.refl w g none)
 have HL := am hB.size
 clear hI
 have HW0 := am hB.size
 have HB := am hB
 clear hB
 have H : ((spec_l6Rd_of.f k s0_0 s0_1 (([(⟨#[65]⟩ : ByteArray), (⟨#[66]⟩ : ByteArray), (⟨#[67]⟩ : ByteArray), (⟨#[68]⟩ : ByteArray)] : List ByteArray))).bind fun bt205 => ((spec_l6Rd_pick.f k s0_0 bt205.2 3).bind fun bt207 => ((spec_l71Text.f k s0_0 bt207.2).bind fun bt209 => ((spec_l6Rd_pick.f k s0_0 bt209.2 12).bind fun bt212 => (if bt212.1 = 0 then (spec_l71Op.j0 k bt212.1 (bt212.1 == 0) s0_0 bt212.2 2 bt205.1 (⟨#[]⟩ : ByteArray) bt207.1 bt209.1) else (spec_l71Op.j0 k bt212.1 (bt212.1 == 1) s0_0 bt212.2 2 bt205.1 (⟨#[]⟩ : ByteArray) bt207.1 bt209.1)))))) = some (r1, r2, r3, r4, r5, r6) := h
 clear h
 obtain ⟨y202, hy202⟩ : ∃ y_ : List ByteArray, y_ = (([(⟨#[65]⟩ : ByteArray), (⟨#[66]⟩ : ByteArray), (⟨#[67]⟩ : ByteArray), (⟨#[68]⟩ : ByteArray)] : List ByteArray)) := ⟨_, rfl⟩
 replace H : ((spec_l6Rd_of.f k s0_0 s0_1 y202).bind fun bt205 => ((spec_l6Rd_pick.f k s0_0 bt205.2 3).bind fun bt207 => ((spec_l71Text.f k s0_0 bt207.2).bind fun bt209 => ((spec_l6Rd_pick.f k s0_0 bt209.2 12).bind fun bt212 => (if bt212.1 = 0 then (spec_l71Op.j0 k bt212.1 (bt212.1 == 0) s0_0 bt212.2 2 bt205.1 (⟨#[]⟩ : ByteArray) bt207.1 bt209.1) else (spec_l71Op.j0 k bt212.1 (bt212.1 == 1) s0_0 bt212.2 2 bt205.1 (⟨#[]⟩ : ByteArray) bt207.1 bt209.1)))))) = some (r1, r2, r3, r4, r5, r6) := hY hy202 H
 have Ny202 := am hy202
 clear hy202
 replace H := obs H
 obtain ⟨⟨t205, t206⟩, A20, H⟩ := H
 replace H : ((spec_l6Rd_pick.f k s0_0 t206 3).bind fun bt207 => ((spec_l71Text.f k s0_0 bt207.2).bind fun bt209 => ((spec_l6Rd_pick.f k s0_0 bt209.2 12).bind fun bt212 => (if bt212.1 = 0 then (spec_l71Op.j0 k bt212.1 (bt212.1 == 0) s0_0 bt212.2 2 t205 (⟨#[]⟩ : ByteArray) bt207.1 bt209.1) else (spec_l71Op.j0 k bt212.1 (bt212.1 == 1) s0_0 bt212.2 2 t205 (⟨#[]⟩ : ByteArray) bt207.1 bt209.1))))) = some (r1, r2, r3, r4, r5, r6) := H
 have A2 := am A20
 clear A20
 replace H := obs H
 obtain ⟨⟨t207, t208⟩, A30, H⟩ := H
 replace H : ((spec_l71Text.f k s0_0 t208).bind fun bt209 => ((spec_l6Rd_pick.f k s0_0 bt209.2 12).bind fun bt212 => (if bt212.1 = 0 then (spec_l71Op.j0 k bt212.1 (bt212.1 == 0) s0_0 bt212.2 2 t205 (⟨#[]⟩ : ByteArray) t207 bt209.1) else (spec_l71Op.j0 k bt212.1 (bt212.1 == 1) s0_0 bt212.2 2 t205 (⟨#[]⟩ : ByteArray) t207 bt209.1)))) = some (r1, r2, r3, r4, r5, r6) := H
 have A3 := am A30
 clear A30
 replace H := obs H
 obtain ⟨⟨t209, t210⟩, A40, H⟩ := H
 replace H : ((spec_l6Rd_pick.f k s0_0 t210 12).bind fun bt212 => (if bt212.1 = 0 then (spec_l71Op.j0 k bt212.1 (bt212.1 == 0) s0_0 bt212.2 2 t205 (⟨#[]⟩ : ByteArray) t207 t209) else (spec_l71Op.j0 k bt212.1 (bt212.1 == 1) s0_0 bt212.2 2 t205 (⟨#[]⟩ : ByteArray) t207 t209))) = some (r1, r2, r3, r4, r5, r6) := H
 have A4 := am A40
 clear A40
 replace H := obs H
 obtain ⟨⟨t212, t213⟩, A50, H⟩ := H
 replace H : (if t212 = 0 then (spec_l71Op.j0 k t212 (t212 == 0) s0_0 t213 2 t205 (⟨#[]⟩ : ByteArray) t207 t209) else (spec_l71Op.j0 k t212 (t212 == 1) s0_0 t213 2 t205 (⟨#[]⟩ : ByteArray) t207 t209)) = some (r1, r2, r3, r4, r5, r6) := H
 have A5 := am A50
 clear A50
 have HC6 := am H
 clear H
 go_enter Tryd.func20, Tryd.ntmps20
 go_upto_block 0 with (first | ((with_reducible refine gate_dst (N := 2) rfl ?_); refine bx 24 #[.int .i64 0, .string (⟨#[]⟩ : ByteArray), .string (⟨#[]⟩ : ByteArray), .int .i64 0, .string (⟨#[]⟩ : ByteArray)] ?_; intro gb201 hg w7 hbox hb; replace HB := am (below_step (zb HB) hb); have BK201 := am (hbox); have GW201 := am (zm hg (zh HK)); have GE201 := am ((Nat.le_trans HW0.out (zm hg (zh HK)))); replace HK := am (KeepBut.trans (zh HK) (KeepBut.of_below hb g none) (.inl rfl)); have NB0_201 := am (ix hg (zi HI0)); have NB201_0 := am (iy hg (zi HI0)); replace HI0 := am (IsS57.below (zi HI0) hb); clear hb hbox hg) | ((with_reducible refine gate_dst (N := 5) rfl ?_); refine Kd.R_lit Kd.string _ 9 ?hg (N := 5) ?hd (xs := ([(⟨#[65]⟩ : ByteArray), (⟨#[66]⟩ : ByteArray), (⟨#[67]⟩ : ByteArray), (⟨#[68]⟩ : ByteArray)] : List ByteArray)) (inner := [.string (⟨#[65]⟩ : ByteArray), .string (⟨#[66]⟩ : ByteArray), .string (⟨#[67]⟩ : ByteArray), .string (⟨#[68]⟩ : ByteArray)]) (ok := fun _ => True) (okp := fun _ => True) ?hr ?hp (fun _ hk => hk) trivial (Below.refl _ _) (Nat.le_refl _) (by simp) ?_; (case hd => rfl); (case hg => rfl); (case hr => first | (go_simp; done) | (go_simp; rfl)); (case hp => exact (Reps.one (show Kd.M Kd.string _ _ _ (⟨#[65]⟩ : ByteArray) [.string (⟨#[65]⟩ : ByteArray)] from rfl) (Reps.one (show Kd.M Kd.string _ _ _ (⟨#[66]⟩ : ByteArray) [.string (⟨#[66]⟩ : ByteArray)] from rfl) (Reps.one (show Kd.M Kd.string _ _ _ (⟨#[67]⟩ : ByteArray) [.string (⟨#[67]⟩ : ByteArray)] from rfl) (Reps.one (show Kd.M Kd.string _ _ _ (⟨#[68]⟩ : ByteArray) [.string (⟨#[68]⟩ : ByteArray)] from rfl) (Reps.none _ _)))))); intro v203 w8 ho9 hb hg_ hnew_; clear hg_ hnew_; (first | rw [← Ny202.out] at ho9 | (simp only [Int.reduceToNat] at ho9; rw [← Ny202.out] at ho9)); have HO204 := am (Kd.R_lower ho9 (keep_size (zh HK))); replace HI0 := am (IsS57.below (zi HI0) hb); replace BK201 := am (blk_below (zk BK201) hb); replace HK := am (KeepBut.trans (zh HK) (KeepBut.of_below hb g none) (.inl rfl)); replace HB := am (below_step (zb HB) hb); clear hb ho9; obtain ⟨Ao10, co10, eo10⟩ := Kd.R_slice HO204.out; subst eo10) | ((with_reducible refine gate_callee (f := 31) rfl ?_); refine goesL_ (some 6) rfl rfl Tryd.func31 (by kernel_rfl) rfl #[.pointer (some ⟨g, 0, none⟩), .slice Ao10 y202.length co10] rfl (by (try simp only [List.map_toArray, List.map_cons, List.map_nil]); first | done | rfl | (simp only [List.length_drop, List.length_take]; rfl)) ?_; (with_reducible refine (spec_l6Rd_of.calls k g s0_0 s0_1 _ _ y202 t205 t206 w0 _ ?side1 ?side2 ?side3 ?side4 ?side5 A2.out).mono ?_); (case side1 => exact zi HI0); (case side2 => exact zb HB); (case side3 => exact zc (Kd.R_reads' HO204.out).2.2); (case side4 => exact (Kd.R_reads' HO204.out).2.1); (case side5 => exact far_slice (IsS57.own_ne HI0.out HO204.out (by decide))); rintro e w11 ⟨rfl, hi, hb, hk⟩; refine ⟨_, rfl, ?_⟩; replace BK201 := am (KeepBut.blk hk (zk BK201) NB201_0.out (by simp)); replace HO204 := am (Kd.R_mono (Kd.R_keep (IsS57.apart (zi HI0) (zr HO204) (by decide)) hk (fun _ h => h.2)) (fun _ h => h.1)); replace HK := am (KeepBut.trans (zh HK) hk (.inl rfl)); replace HB := am (hb); replace HI0 := am (hi); (try clear hb); (try clear hb2); (try clear hk); (try clear hi)) | ((with_reducible refine gate_callee (f := 30) rfl ?_); refine goesL_ (some 8) rfl rfl Tryd.func30 (by kernel_rfl) rfl #[.pointer (some ⟨g, 0, none⟩), .int .i64 3] rfl (by (try simp only [List.map_toArray, List.map_cons, List.map_nil]); first | done | rfl | (simp only [List.length_drop, List.length_take]; rfl)) ?_; (with_reducible refine (spec_l6Rd_pick.calls k g s0_0 t206 3 t207 t208 w0 _ ?side1 ?side2 A3.out).mono ?_); (case side1 => exact zi HI0); (case side2 => exact zb HB); rintro e w12 ⟨rfl, hi, hb, hk⟩; refine ⟨_, rfl, ?_⟩; replace BK201 := am (KeepBut.blk hk (zk BK201) NB201_0.out (by simp)); replace HO204 := am (Kd.R_mono (Kd.R_keep (IsS57.apart (zi HI0) (zr HO204) (by decide)) hk (fun _ h => h.2)) (fun _ h => h.1)); replace HK := am (KeepBut.trans (zh HK) hk (.inl rfl)); replace HB := am (hb); replace HI0 := am (hi); (try clear hb); (try clear hb2); (try clear hk); (try clear hi)) | ((with_reducible refine gate_callee (f := 35) rfl ?_); refine goesL_ (some 10) rfl rfl Tryd.func35 (by kernel_rfl) rfl #[.pointer (some ⟨g, 0, none⟩)] rfl (by (try simp only [List.map_toArray, List.map_cons, List.map_nil]); first | done | rfl | (simp only [List.length_drop, List.length_take]; rfl)) ?_; (with_reducible refine (spec_l71Text.calls k g s0_0 t208 t209 t210 w0 _ ?side1 ?side2 A4.out).mono ?_); (case side1 => exact zi HI0); (case side2 => exact zb HB); rintro e w13 ⟨rfl, hi, hb, hk⟩; refine ⟨_, rfl, ?_⟩; replace BK201 := am (KeepBut.blk hk (zk BK201) NB201_0.out (by simp)); replace HO204 := am (Kd.R_mono (Kd.R_keep (IsS57.apart (zi HI0) (zr HO204) (by decide)) hk (fun _ h => h.2)) (fun _ h => h.1)); replace HK := am (KeepBut.trans (zh HK) hk (.inl rfl)); replace HB := am (hb); replace HI0 := am (hi); (try clear hb); (try clear hb2); (try clear hk); (try clear hi)) | ((with_reducible refine gate_dst (N := 3) rfl ?_); refine bx 24 #[.int .i64 0, .string (⟨#[]⟩ : ByteArray), .string (⟨#[]⟩ : ByteArray), .int .i64 0, .string (⟨#[]⟩ : ByteArray)] ?_; intro gb211 hg w14 hbox hb; replace HO204 := am (Kd.R_below (zr HO204) hb); replace HB := am (below_step (zb HB) hb); have BK211 := am (hbox); have GW211 := am (zm hg (zh HK)); have GE211 := am ((Nat.le_trans HW0.out (zm hg (zh HK)))); replace HK := am (KeepBut.trans (zh HK) (KeepBut.of_below hb g none) (.inl rfl)); have NB201_211 := am (zx hg (zk BK201)); have NB211_201 := am (zy hg (zk BK201)); replace BK201 := am (blk_below (zk BK201) hb); have NB0_211 := am (ix hg (zi HI0)); have NB211_0 := am (iy hg (zi HI0)); replace HI0 := am (IsS57.below (zi HI0) hb); clear hb hbox hg; have hnb15 := NB211_201.out; have hnc15 := NB201_211.out; have hnb16 := NB211_0.out; have hnc16 := NB0_211.out; have hcz17_0 := ce0 BK211; have hcz17_1 := ce1 BK211; have hcz17_2 := ce2 BK211; have hcz17_3 := ce3 BK211; have hcz17_4 := ce4 BK211; have hfz17_0 := bfz BK211 0; have hfz17_1 := bfz BK211 1; have hfz17_2 := bfz BK211 2; have hfz17_3 := bfz BK211 3; have hfz17_4 := bfz BK211 4) | ((with_reducible refine gate_callee (f := 30) rfl ?_); refine goesL_ (some 13) rfl rfl Tryd.func30 (by kernel_rfl) rfl #[.pointer (some ⟨g, 0, none⟩), .int .i64 12] rfl (by (try simp only [List.map_toArray, List.map_cons, List.map_nil]); first | done | rfl | (simp only [List.length_drop, List.length_take]; rfl)) ?_; (with_reducible refine (spec_l6Rd_pick.calls k g s0_0 t210 12 t212 t213 w0 _ ?side1 ?side2 A5.out).mono ?_); (case side1 => exact zi HI0); (case side2 => exact zb HB); rintro e w18 ⟨rfl, hi, hb, hk⟩; refine ⟨_, rfl, ?_⟩; replace BK201 := am (KeepBut.blk hk (zk BK201) NB201_0.out (by simp)); replace HO204 := am (Kd.R_mono (Kd.R_keep (IsS57.apart (zi HI0) (by (with_reducible repeat (first | apply Kd.R_alloc | apply Kd.R_drewN | apply Kd.R_drew)); exact (Kd.R_mono (Kd.R_far (p := ⟨gb211, 4, none⟩) (Kd.R_far (p := ⟨gb211, 3, none⟩) (Kd.R_far (p := ⟨gb211, 2, none⟩) (Kd.R_far (p := ⟨gb211, 1, none⟩) (Kd.R_far (p := ⟨gb211, 0, none⟩) (Kd.R_types HO204.out BK211.out (by decide)) (fun _ hk => hk.2) (.int .i64 2)) (fun _ hk => hk.2) (.string t205)) (fun _ hk => hk.2) (.string (⟨#[]⟩ : ByteArray))) (fun _ hk => hk.2) (.int .i64 t207)) (fun _ hk => hk.2) (.string t209)) (fun _ h_ => h_.1))) (by decide)) hk (fun _ h => h.2)) (fun _ h => h.1)); replace BK211 := am (KeepBut.blk hk (g' := gb211) (o := .cells #[.int .i64 2, .string t205, .string (⟨#[]⟩ : ByteArray), .int .i64 t207, .string t209] 24 (0, 0)) (zp BK211) NB211_0.out (by simp)); replace HK := am (KeepBut.trans (zh HK) hk (.inl rfl)); replace HB := am (hb); replace HI0 := am (hi); (try clear hb); (try clear hb2); (try clear hk); (try clear hi)))
 (try simp only [Act.put, List.setIfInBounds_toArray, List.set_cons_zero, List.set_cons_succ])
 go_cut [] (fun wc => ∃ (kq : Nat) (x1001_5 : Int) (x212000_5 : Int) (x212001_5 : ByteArray) (x212002_5 : ByteArray) (x212003_5 : Int) (x212004_5 : ByteArray), Aside0 (spec_l71Op.j1 kq s0_0 x1001_5 x212000_5 x212001_5 x212002_5 x212003_5 x212004_5 = some (r1, r2, r3, r4, r5, r6)) ∧ Aside0 (kq ≤ k) ∧ Aside0 (wc.heap[gb201]? = some (.cells #[.int .i64 0, .string (⟨#[]⟩ : ByteArray), .string (⟨#[]⟩ : ByteArray), .int .i64 0, .string (⟨#[]⟩ : ByteArray)] 24 (0, 0))) ∧ Aside0 (wc.heap[gb211]? = some (.cells #[.int .i64 x212000_5, .string x212001_5, .string x212002_5, .int .i64 x212003_5, .string x212004_5] 24 (0, 0))) ∧ Aside0 (IsS57 w0 wc g s0_0 x1001_5) ∧ Aside0 (KeepBut w wc g none) ∧ Aside0 (Below w0.heap.size w0 wc))
 case first =>
  have H := HC6.out
  clear HC6
  have HC19 := am H
  clear H
  go_upto_if 14 with (fail)
  go_cut [14] (fun v14 wc => ∃ (kq : Nat) (x14_18 : Bool), v14 = .bool x14_18 ∧ Aside0 (spec_l71Op.j0 kq t212 x14_18 s0_0 t213 2 t205 (⟨#[]⟩ : ByteArray) t207 t209 = some (r1, r2, r3, r4, r5, r6)) ∧ Aside0 (kq ≤ k) ∧ Aside0 (wc.heap[gb201]? = some (.cells #[.int .i64 0, .string (⟨#[]⟩ : ByteArray), .string (⟨#[]⟩ : ByteArray), .int .i64 0, .string (⟨#[]⟩ : ByteArray)] 24 (0, 0))) ∧ Aside0 (wc.heap[gb211]? = some (.cells #[.int .i64 2, .string t205, .string (⟨#[]⟩ : ByteArray), .int .i64 t207, .string t209] 24 (0, 0))) ∧ Aside0 (IsS57 w0 wc g s0_0 t213) ∧ Aside0 (KeepBut w wc g none) ∧ Aside0 (Below w0.heap.size w0 wc))
  case first =>
   have H := HC19.out
   clear HC19
   by_cases c20 : t212 = 0
   · rw [if_pos c20] at H
     have c20b0 : (t212 == 0) = true := beq_iff_eq.mpr c20
     have c20b1 : (t212 != 0) = false := bne_eq_false_iff_eq.mpr c20
     clear c20
     (first | rw [c20b0] | (simp only [i64_w, i32_w]; rw [c20b0]) | skip)
     have H' := am H
     clear H
     go_wp2
     go_meet
     case rel => exact ⟨_, ((t212 == 0)), ze, H', ⟨by first | omega | exact Nat.le_refl _⟩, ⟨zk BK201⟩, ⟨zk BK211⟩, ⟨zi HI0⟩, ⟨zh HK⟩, ⟨zb HB⟩⟩
   rw [if_neg c20] at H
   have c20b0 : (t212 == 0) = false := beq_eq_false_iff_ne.mpr c20
   have c20b1 : (t212 != 0) = true := bne_iff_ne.mpr c20
   (first | rw [c20b0] | (simp only [i64_w, i32_w]; rw [c20b0]) | skip)
   have H' := am H
   clear H
   go_wp2
   go_meet
   case rel => exact ⟨_, ((t212 == 1)), ze, H', ⟨by first | omega | exact Nat.le_refl _⟩, ⟨zk BK201⟩, ⟨zk BK211⟩, ⟨zi HI0⟩, ⟨zh HK⟩, ⟨zb HB⟩⟩
  clear HC19
  try clear c1
  try clear c2
  try clear p2
  try clear c3
  try clear c15
  try clear c16
  try clear c20
  try clear c20b0
  try clear c20b1
  try clear hcz17_0
  try clear hcz17_1
  try clear hcz17_2
  try clear hcz17_3
  try clear hcz17_4
  try clear hfz17_0
  try clear hfz17_1
  try clear hfz17_2
  try clear hfz17_3
  try clear hfz17_4
  obtain ⟨kq, x14_18, rfl, HA, HJ18, BK201, BK211, HI0, HK, HB⟩ := hcut
  cases kq with
  | zero => exact absurd HA.out (by simp [spec_l71Op.j0])
  | succ kj18 =>
   have H := HA.out
   clear HA
   simp only [spec_l71Op.j0] at H
   by_cases c21 : x14_18 = true
   · subst c21
     have H1 : ((spec_l6Rd_pick.f kj18 s0_0 t213 6).bind fun bt214 => (spec_l71Op.j1 kj18 s0_0 bt214.2 1 t205 (⟨#[]⟩ : ByteArray) (wrap64 (1 + bt214.1)) (⟨#[]⟩ : ByteArray))) = some (r1, r2, r3, r4, r5, r6) := by rw [if_pos rfl] at H; exact H
     clear H
     have H := H1
     clear H1
     replace H := obs H
     obtain ⟨⟨t214, t215⟩, A220, H⟩ := H
     replace H : (spec_l71Op.j1 kj18 s0_0 t215 1 t205 (⟨#[]⟩ : ByteArray) (wrap64 (1 + t214)) (⟨#[]⟩ : ByteArray)) = some (r1, r2, r3, r4, r5, r6) := H
     have A22 := am A220
     clear A220
     have H' := am H
     clear H
     try go_wp2
     replace BK201 := am (blk_drew BK201.out)
     replace BK211 := am (blk_drew BK211.out)
     replace HI0 := am (IsS57.drew HI0.out)
     replace HK := am (keep_drew HK.out)
     replace HB := am (below_drew1 HB.out)
     refine start_ (n := 7) (S := fun w' => w'.cell? ⟨gb211, 0, none⟩ = some (.int .i64 2) ∧ w'.cell? ⟨gb211, 1, none⟩ = some (.string t205) ∧ w'.cell? ⟨gb211, 2, none⟩ = some (.string (⟨#[]⟩ : ByteArray)) ∧ w'.cell? ⟨gb211, 3, none⟩ = some (.int .i64 t207) ∧ w'.cell? ⟨gb211, 4, none⟩ = some (.string t209)) (ds := [6]) (bs 7 0) (by kernel_rfl) rfl rfl ⟨ce0 BK211, ce1 BK211, ce2 BK211, ce3 BK211, ce4 BK211⟩ (fun hHeld => ?_)
     generalize wc.drew = w23 at BK201 BK211 HI0 HK HB hHeld ⊢
     refine pu 0 17 7 1 rfl rfl ?_
     refine pu 2 19 7 5 rfl rfl ?_
     refine ta5 1 18 7 7 rfl rfl hHeld ?_
     refine oz 3 7 15 rfl rfl (fun K hK => ?_)
     refine goes_ Tryd.func30 (by kernel_rfl) rfl #[.pointer (some ⟨g, 0, none⟩), .int .i64 6] (by rfl) rfl rfl (by (try simp only [List.map_toArray, List.map_cons, List.map_nil]); first | done | rfl | (simp only [List.length_drop, List.length_take]; rfl)) ?_
     with_reducible refine (spec_l6Rd_pick.calls kj18 g s0_0 t213 6 t214 t215 w0 _ ?side1 ?side2 A22.out).mono ?_
     (case side1 => exact zi HI0)
     (case side2 => exact zb HB)
     rintro e w24 ⟨rfl, hi, hb, hk⟩
     refine ⟨_, rfl, ?_⟩
     replace BK201 := am (KeepBut.blk hk (zk BK201) NB201_0.out (by simp))
     replace BK211 := am (KeepBut.blk hk (zk BK211) NB211_0.out (by simp))
     replace HK := am (KeepBut.trans (zh HK) hk (.inl rfl))
     replace HB := am (hb)
     replace HI0 := am (hi)
     (try clear hb)
     (try clear hb2)
     (try clear hk)
     (try clear hi)
     refine hK.out _ _ ⟨ce0 BK211, ce1 BK211, ce2 BK211, ce3 BK211, ce4 BK211⟩ (fun hHeld => ?_)
     clear hK K
     refine norm_ (a' := ?_) ?_ ?_
     rotate_left
     · show Act.put _ (some 20) _ = _
       simp only [Act.put, List.setIfInBounds_toArray, List.set_cons_zero, List.set_cons_succ, i64_w, i32_w]
       rfl
     refine pu 4 21 7 31 rfl rfl ?_
     refine pu 5 22 7 63 rfl rfl ?_
     refine la 6 7 127 rfl rfl (fun K hK => ?_)
     have hs25 := ce0 BK211
     have hfs25 := bfz BK211 0
     have hns25_0 := NB201_211.out
     have hms25_0 := NB211_201.out
     have hs26 := ce1 BK211
     have hfs26 := bfz BK211 1
     have hns26_0 := NB201_211.out
     have hms26_0 := NB211_201.out
     have hs27 := ce2 BK211
     have hfs27 := bfz BK211 2
     have hns27_0 := NB201_211.out
     have hms27_0 := NB211_201.out
     have hs28 := ce3 BK211
     have hfs28 := bfz BK211 3
     have hns28_0 := NB201_211.out
     have hms28_0 := NB211_201.out
     have hs29 := ce4 BK211
     have hfs29 := bfz BK211 4
     have hns29_0 := NB201_211.out
     have hms29_0 := NB211_201.out
     refine skip_ (w1 := ?_) (by rfl) rfl ?_ ?_
     rotate_left
     · go_simp
       rfl
     refine hK.out _ _ ?_
     clear hK K
     refine done_ (by kernel_rfl) ?_
     try go_wp2
     go_meet
     case rel => exact ⟨_, (t215), (1), (t205), ((⟨#[]⟩ : ByteArray)), (wrap64 (1 + t214)), ((⟨#[]⟩ : ByteArray)), H', ⟨by have := HJ18.out; first | omega | exact Nat.le_refl _⟩, ⟨zk BK201⟩, ⟨zp BK211⟩, ⟨zi HI0⟩, ⟨zh HK⟩, ⟨zb HB⟩⟩
   replace c21 := Bool.eq_false_iff.mpr c21
   subst c21
   have H1 : (if t212 = 2 then ((spec_l6Rd_of.f kj18 s0_0 t213 (([(⟨#[65]⟩ : ByteArray), (⟨#[66]⟩ : ByteArray), (⟨#[67]⟩ : ByteArray), (⟨#[68]⟩ : ByteArray)] : List ByteArray))).bind fun bt219 => (spec_l71Op.j1 kj18 s0_0 bt219.2 3 t205 bt219.1 0 (⟨#[]⟩ : ByteArray))) else (if t212 = 3 then (spec_l71Op.j1 kj18 s0_0 t213 4 t205 (⟨#[]⟩ : ByteArray) 0 (⟨#[]⟩ : ByteArray)) else (spec_l71Op.j1 kj18 s0_0 t213 2 t205 (⟨#[]⟩ : ByteArray) t207 t209))) = some (r1, r2, r3, r4, r5, r6) := by rw [if_neg (show ¬ (false = true) by decide)] at H; exact H
   clear H
   have H := H1
   clear H1
   by_cases c30 : t212 = 2
   rotate_left
   · rw [if_neg c30] at H
     have c30b0 : (t212 == 2) = false := beq_eq_false_iff_ne.mpr c30
     have c30b1 : (t212 != 2) = true := bne_iff_ne.mpr c30
     by_cases c42 : t212 = 3
     rotate_left
     · rw [if_neg c42] at H
       have c42b0 : (t212 == 3) = false := beq_eq_false_iff_ne.mpr c42
       have c42b1 : (t212 != 3) = true := bne_iff_ne.mpr c42
       have H' := am H
       clear H
       go_wp2
       go_meet
       case rel => exact ⟨_, (t213), (2), (t205), ((⟨#[]⟩ : ByteArray)), (t207), (t209), H', ⟨by have := HJ18.out; first | omega | exact Nat.le_refl _⟩, ⟨zk BK201⟩, ⟨zk BK211⟩, ⟨zi HI0⟩, ⟨zh HK⟩, ⟨zb HB⟩⟩
     rw [if_pos c42] at H
     have c42b0 : (t212 == 3) = true := beq_iff_eq.mpr c42
     have c42b1 : (t212 != 3) = false := bne_eq_false_iff_eq.mpr c42
     clear c42
     have H' := am H
     clear H
     have hnb43 := NB211_201.out
     have hnc43 := NB201_211.out
     have hnb44 := NB211_0.out
     have hnc44 := NB0_211.out
     have hcz45_0 := ce0 BK211
     have hcz45_1 := ce1 BK211
     have hcz45_2 := ce2 BK211
     have hcz45_3 := ce3 BK211
     have hcz45_4 := ce4 BK211
     have hfz45_0 := bfz BK211 0
     have hfz45_1 := bfz BK211 1
     have hfz45_2 := bfz BK211 2
     have hfz45_3 := bfz BK211 3
     have hfz45_4 := bfz BK211 4
     go_wp2
     go_meet
     case rel => exact ⟨_, (t213), (4), (t205), ((⟨#[]⟩ : ByteArray)), (0), ((⟨#[]⟩ : ByteArray)), H', ⟨by have := HJ18.out; first | omega | exact Nat.le_refl _⟩, ⟨zk BK201⟩, ⟨zp BK211⟩, ⟨zi HI0⟩, ⟨zh HK⟩, ⟨zb HB⟩⟩
   rw [if_pos c30] at H
   have c30b0 : (t212 == 2) = true := beq_iff_eq.mpr c30
   have c30b1 : (t212 != 2) = false := bne_eq_false_iff_eq.mpr c30
   clear c30
   obtain ⟨y216, hy216⟩ : ∃ y_ : List ByteArray, y_ = (([(⟨#[65]⟩ : ByteArray), (⟨#[66]⟩ : ByteArray), (⟨#[67]⟩ : ByteArray), (⟨#[68]⟩ : ByteArray)] : List ByteArray)) := ⟨_, rfl⟩
   replace H : ((spec_l6Rd_of.f kj18 s0_0 t213 y216).bind fun bt219 => (spec_l71Op.j1 kj18 s0_0 bt219.2 3 t205 bt219.1 0 (⟨#[]⟩ : ByteArray))) = some (r1, r2, r3, r4, r5, r6) := hY hy216 H
   have Ny216 := am hy216
   clear hy216
   replace H := obs H
   obtain ⟨⟨t219, t220⟩, A310, H⟩ := H
   replace H : (spec_l71Op.j1 kj18 s0_0 t220 3 t205 t219 0 (⟨#[]⟩ : ByteArray)) = some (r1, r2, r3, r4, r5, r6) := H
   have A31 := am A310
   clear A310
   have H' := am H
   clear H
   try go_wp2
   replace BK201 := am (blk_drew BK201.out)
   replace BK211 := am (blk_drew BK211.out)
   replace HI0 := am (IsS57.drew HI0.out)
   replace HK := am (keep_drew HK.out)
   replace HB := am (below_drew1 HB.out)
   refine start_ (n := 7) (S := fun w' => w'.cell? ⟨gb211, 0, none⟩ = some (.int .i64 2) ∧ w'.cell? ⟨gb211, 1, none⟩ = some (.string t205) ∧ w'.cell? ⟨gb211, 2, none⟩ = some (.string (⟨#[]⟩ : ByteArray)) ∧ w'.cell? ⟨gb211, 3, none⟩ = some (.int .i64 t207) ∧ w'.cell? ⟨gb211, 4, none⟩ = some (.string t209)) (ds := [6]) (bs 7 0) (by kernel_rfl) rfl rfl ⟨ce0 BK211, ce1 BK211, ce2 BK211, ce3 BK211, ce4 BK211⟩ (fun hHeld => ?_)
   generalize wc.drew = w32 at BK201 BK211 HI0 HK HB hHeld ⊢
   refine pu 0 25 7 1 rfl rfl ?_
   refine pu 2 27 7 5 rfl rfl ?_
   refine ta5 1 26 7 7 rfl rfl hHeld ?_
   refine oz 3 7 15 rfl rfl (fun K hK => ?_)
   refine Kd.R_lit_step Kd.string _ 9 ?hg (N := 28) ?hd (xs := ([(⟨#[65]⟩ : ByteArray), (⟨#[66]⟩ : ByteArray), (⟨#[67]⟩ : ByteArray), (⟨#[68]⟩ : ByteArray)] : List ByteArray)) (inner := [.string (⟨#[65]⟩ : ByteArray), .string (⟨#[66]⟩ : ByteArray), .string (⟨#[67]⟩ : ByteArray), .string (⟨#[68]⟩ : ByteArray)]) (ok := fun _ => True) (okp := fun _ => True) ?hr ?hp (fun _ hk => hk) trivial (Below.refl _ _) (Nat.le_refl _) (by simp) ?_; (case hd => rfl); (case hg => rfl); (case hr => first | (go_simp; done) | (go_simp; rfl)); (case hp => exact (Reps.one (show Kd.M Kd.string _ _ _ (⟨#[65]⟩ : ByteArray) [.string (⟨#[65]⟩ : ByteArray)] from rfl) (Reps.one (show Kd.M Kd.string _ _ _ (⟨#[66]⟩ : ByteArray) [.string (⟨#[66]⟩ : ByteArray)] from rfl) (Reps.one (show Kd.M Kd.string _ _ _ (⟨#[67]⟩ : ByteArray) [.string (⟨#[67]⟩ : ByteArray)] from rfl) (Reps.one (show Kd.M Kd.string _ _ _ (⟨#[68]⟩ : ByteArray) [.string (⟨#[68]⟩ : ByteArray)] from rfl) (Reps.none _ _))))))
   intro v217 w33 ho34 hb hg_ hnew_
   clear hg_ hnew_
   (first | rw [← Ny216.out] at ho34 | (simp only [Int.reduceToNat] at ho34; rw [← Ny216.out] at ho34))
   have HO218 := am (Kd.R_lower ho34 (keep_size (zh HK)))
   replace BK201 := am (blk_below (zk BK201) hb)
   replace BK211 := am (blk_below (zk BK211) hb)
   replace HI0 := am (IsS57.below (zi HI0) hb)
   replace HK := am (KeepBut.trans (zh HK) (KeepBut.of_below hb g none) (.inl rfl))
   replace HB := am (below_step (zb HB) hb)
   clear hb ho34
   obtain ⟨Ao35, co35, eo35⟩ := Kd.R_slice HO218.out
   (first | subst eo35 | (injection eo35 with f1_ f2_ f3_; have f4_ := f1_.symm; have f5_ := f3_.symm; clear f1_ f2_ f3_; subst f4_; subst f5_))
   refine hK.out _ _ ⟨ce0 BK211, ce1 BK211, ce2 BK211, ce3 BK211, ce4 BK211⟩ (fun hHeld => ?_)
   clear hK K
   refine norm_ (a' := ?_) ?_ ?_
   rotate_left
   · show Act.put _ (some 28) _ = _
     simp only [Act.put, List.setIfInBounds_toArray, List.set_cons_zero, List.set_cons_succ, i64_w, i32_w]
     rfl
   refine oz 4 7 31 rfl rfl (fun K hK => ?_)
   refine goes_ Tryd.func31 (by kernel_rfl) rfl #[.pointer (some ⟨g, 0, none⟩), .slice Ao35 y216.length co35] (by rfl) rfl rfl (by (try simp only [List.map_toArray, List.map_cons, List.map_nil]); first | done | rfl | (simp only [List.length_drop, List.length_take]; rfl)) ?_
   with_reducible refine (spec_l6Rd_of.calls kj18 g s0_0 t213 _ _ y216 t219 t220 w0 _ ?side1 ?side2 ?side3 ?side4 ?side5 A31.out).mono ?_
   (case side1 => exact zi HI0)
   (case side2 => exact zb HB)
   (case side3 => exact zc (Kd.R_reads' HO218.out).2.2)
   (case side4 => exact (Kd.R_reads' HO218.out).2.1)
   (case side5 => exact far_slice (IsS57.own_ne HI0.out HO218.out (by decide)))
   rintro e w36 ⟨rfl, hi, hb, hk⟩
   refine ⟨_, rfl, ?_⟩
   replace BK201 := am (KeepBut.blk hk (zk BK201) NB201_0.out (by simp))
   replace BK211 := am (KeepBut.blk hk (zk BK211) NB211_0.out (by simp))
   replace HO218 := am (Kd.R_mono (Kd.R_keep (IsS57.apart (zi HI0) (zr HO218) (by decide)) hk (fun _ h => h.2)) (fun _ h => h.1))
   replace HK := am (KeepBut.trans (zh HK) hk (.inl rfl))
   replace HB := am (hb)
   replace HI0 := am (hi)
   (try clear hb)
   (try clear hb2)
   (try clear hk)
   (try clear hi)
   refine hK.out _ _ ⟨ce0 BK211, ce1 BK211, ce2 BK211, ce3 BK211, ce4 BK211⟩ (fun hHeld => ?_)
   clear hK K
   refine norm_ (a' := ?_) ?_ ?_
   rotate_left
   · show Act.put _ (some 29) _ = _
     simp only [Act.put, List.setIfInBounds_toArray, List.set_cons_zero, List.set_cons_succ, i64_w, i32_w]
     rfl
   refine pu 5 30 7 63 rfl rfl ?_
   refine la 6 7 127 rfl rfl (fun K hK => ?_)
   have hs37 := ce0 BK211
   have hfs37 := bfz BK211 0
   have hns37_0 := NB201_211.out
   have hms37_0 := NB211_201.out
   have hs38 := ce1 BK211
   have hfs38 := bfz BK211 1
   have hns38_0 := NB201_211.out
   have hms38_0 := NB211_201.out
   have hs39 := ce2 BK211
   have hfs39 := bfz BK211 2
   have hns39_0 := NB201_211.out
   have hms39_0 := NB211_201.out
   have hs40 := ce3 BK211
   have hfs40 := bfz BK211 3
   have hns40_0 := NB201_211.out
   have hms40_0 := NB211_201.out
   have hs41 := ce4 BK211
   have hfs41 := bfz BK211 4
   have hns41_0 := NB201_211.out
   have hms41_0 := NB211_201.out
   refine skip_ (w1 := ?_) (by rfl) rfl ?_ ?_
   rotate_left
   · go_simp
     rfl
   refine hK.out _ _ ?_
   clear hK K
   refine done_ (by kernel_rfl) ?_
   try go_wp2
   go_meet
   case rel => exact ⟨_, (t220), (3), (t205), (t219), (0), ((⟨#[]⟩ : ByteArray)), H', ⟨by have := HJ18.out; first | omega | exact Nat.le_refl _⟩, ⟨zk BK201⟩, ⟨zp BK211⟩, ⟨zi HI0⟩, ⟨zh HK⟩, ⟨zb HB⟩⟩
 clear HC6
 try clear c1
 try clear c2
 try clear p2
 try clear c3
 try clear c4
 try clear p6
 try clear c15
 try clear c16
 try clear c20
 try clear c20b0
 try clear c20b1
 try clear c21
 try clear c30
 try clear c30b0
 try clear c30b1
 try clear c31
 try clear c35
 try clear c42
 try clear c42b0
 try clear c42b1
 try clear c43
 try clear c44
 try clear hcz17_0
 try clear hcz17_1
 try clear hcz17_2
 try clear hcz17_3
 try clear hcz17_4
 try clear hcz45_0
 try clear hcz45_1
 try clear hcz45_2
 try clear hcz45_3
 try clear hcz45_4
 try clear hfz17_0
 try clear hfz17_1
 try clear hfz17_2
 try clear hfz17_3
 try clear hfz17_4
 try clear hfz45_0
 try clear hfz45_1
 try clear hfz45_2
 try clear hfz45_3
 try clear hfz45_4
 try clear p2
 obtain ⟨kq, x1001_5, x212000_5, x212001_5, x212002_5, x212003_5, x212004_5, HA, HJ5, BK201, BK211, HI0, HK, HB⟩ := hcut
 cases kq with
 | zero => exact absurd HA.out (by simp [spec_l71Op.j1])
 | succ kj5 =>
  have H := HA.out
  clear HA
  simp only [spec_l71Op.j1] at H
  replace H := obs H
  obtain ⟨⟨t221, t222⟩, A460, H⟩ := H
  replace H : (if t221 = 0 then ((spec_l6Rd_of.f kj5 s0_0 t222 (([(⟨#[]⟩ : ByteArray), (⟨#[69]⟩ : ByteArray), (⟨#[65, 65]⟩ : ByteArray)] : List ByteArray))).bind fun bt226 => (some (x212000_5, bt226.1, x212002_5, x212003_5, x212004_5, bt226.2))) else (if t221 = 1 then ((spec_l6Rd_pick.f kj5 s0_0 t222 9).bind fun bt228 => (some (x212000_5, x212001_5, x212002_5, wrap64 (bt228.1 - 1), x212004_5, bt228.2))) else (if t221 = 2 then ((spec_l6Rd_pick.f kj5 s0_0 t222 6).bind fun bt230 => (some (bt230.1, x212001_5, x212002_5, x212003_5, x212004_5, bt230.2))) else (some (x212000_5, x212001_5, x212002_5, x212003_5, x212004_5, t222))))) = some (r1, r2, r3, r4, r5, r6) := H
  have A46 := am A460
  clear A460
  by_cases c47 : t221 = 0
  · rw [if_pos c47] at H
    have c47b0 : (t221 == 0) = true := beq_iff_eq.mpr c47
    have c47b1 : (t221 != 0) = false := bne_eq_false_iff_eq.mpr c47
    clear c47
    obtain ⟨y223, hy223⟩ : ∃ y_ : List ByteArray, y_ = (([(⟨#[]⟩ : ByteArray), (⟨#[69]⟩ : ByteArray), (⟨#[65, 65]⟩ : ByteArray)] : List ByteArray)) := ⟨_, rfl⟩
    replace H : ((spec_l6Rd_of.f kj5 s0_0 t222 y223).bind fun bt226 => (some (x212000_5, bt226.1, x212002_5, x212003_5, x212004_5, bt226.2))) = some (r1, r2, r3, r4, r5, r6) := hY hy223 H
    have Ny223 := am hy223
    clear hy223
    replace H := obs H
    obtain ⟨⟨t226, t227⟩, A480, H⟩ := H
    replace H : (some (x212000_5, t226, x212002_5, x212003_5, x212004_5, t227)) = some (r1, r2, r3, r4, r5, r6) := H
    have A48 := am A480
    clear A480
    simp only [Option.some.injEq, Prod.mk.injEq] at H
    obtain ⟨rfl, rfl, rfl, rfl, rfl, rfl⟩ := H
    go_wp2_with (first | ((with_reducible refine gate_callee (f := 30) rfl ?_); refine goesL_ (some 37) rfl rfl Tryd.func30 (by kernel_rfl) rfl #[.pointer (some ⟨g, 0, none⟩), .int .i64 30] rfl (by (try simp only [List.map_toArray, List.map_cons, List.map_nil]); first | done | rfl | (simp only [List.length_drop, List.length_take]; rfl)) ?_; (with_reducible refine (spec_l6Rd_pick.calls kj5 g s0_0 x1001_5 30 t221 t222 w0 _ ?side1 ?side2 A46.out).mono ?_); (case side1 => exact zi HI0); (case side2 => exact zb HB); rintro e w49 ⟨rfl, hi, hb, hk⟩; refine ⟨_, rfl, ?_⟩; replace BK201 := am (KeepBut.blk hk (zk BK201) NB201_0.out (by simp)); replace BK211 := am (KeepBut.blk hk (zk BK211) NB211_0.out (by simp)); replace HK := am (KeepBut.trans (zh HK) hk (.inl rfl)); replace HB := am (hb); replace HI0 := am (hi); (try clear hb); (try clear hb2); (try clear hk); (try clear hi)) | ((with_reducible refine gate_dst (N := 41) rfl ?_); refine Kd.R_lit Kd.string _ 9 ?hg (N := 41) ?hd (xs := ([(⟨#[]⟩ : ByteArray), (⟨#[69]⟩ : ByteArray), (⟨#[65, 65]⟩ : ByteArray)] : List ByteArray)) (inner := [.string (⟨#[]⟩ : ByteArray), .string (⟨#[69]⟩ : ByteArray), .string (⟨#[65, 65]⟩ : ByteArray)]) (ok := fun _ => True) (okp := fun _ => True) ?hr ?hp (fun _ hk => hk) trivial (Below.refl _ _) (Nat.le_refl _) (by simp) ?_; (case hd => rfl); (case hg => rfl); (case hr => first | (go_simp; done) | (go_simp; rfl)); (case hp => exact (Reps.one (show Kd.M Kd.string _ _ _ (⟨#[]⟩ : ByteArray) [.string (⟨#[]⟩ : ByteArray)] from rfl) (Reps.one (show Kd.M Kd.string _ _ _ (⟨#[69]⟩ : ByteArray) [.string (⟨#[69]⟩ : ByteArray)] from rfl) (Reps.one (show Kd.M Kd.string _ _ _ (⟨#[65, 65]⟩ : ByteArray) [.string (⟨#[65, 65]⟩ : ByteArray)] from rfl) (Reps.none _ _))))); intro v224 w50 ho51 hb hg_ hnew_; clear hg_ hnew_; (first | rw [← Ny223.out] at ho51 | (simp only [Int.reduceToNat] at ho51; rw [← Ny223.out] at ho51)); have HO225 := am (Kd.R_lower ho51 (keep_size (zh HK))); replace BK201 := am (blk_below (zk BK201) hb); replace BK211 := am (blk_below (zk BK211) hb); replace HI0 := am (IsS57.below (zi HI0) hb); replace HK := am (KeepBut.trans (zh HK) (KeepBut.of_below hb g none) (.inl rfl)); replace HB := am (below_step (zb HB) hb); clear hb ho51; obtain ⟨Ao52, co52, eo52⟩ := Kd.R_slice HO225.out; subst eo52) | ((with_reducible refine gate_callee (f := 31) rfl ?_); refine goesL_ (some 42) rfl rfl Tryd.func31 (by kernel_rfl) rfl #[.pointer (some ⟨g, 0, none⟩), .slice Ao52 y223.length co52] rfl (by (try simp only [List.map_toArray, List.map_cons, List.map_nil]); first | done | rfl | (simp only [List.length_drop, List.length_take]; rfl)) ?_; (with_reducible refine (spec_l6Rd_of.calls kj5 g s0_0 t222 _ _ y223 t226 t227 w0 _ ?side1 ?side2 ?side3 ?side4 ?side5 A48.out).mono ?_); (case side1 => exact zi HI0); (case side2 => exact zb HB); (case side3 => exact zc (Kd.R_reads' HO225.out).2.2); (case side4 => exact (Kd.R_reads' HO225.out).2.1); (case side5 => exact far_slice (IsS57.own_ne HI0.out HO225.out (by decide))); rintro e w53 ⟨rfl, hi, hb, hk⟩; refine ⟨_, rfl, ?_⟩; replace BK201 := am (KeepBut.blk hk (zk BK201) NB201_0.out (by simp)); replace BK211 := am (KeepBut.blk hk (zk BK211) NB211_0.out (by simp)); replace HO225 := am (Kd.R_mono (Kd.R_keep (IsS57.apart (zi HI0) (zr HO225) (by decide)) hk (fun _ h => h.2)) (fun _ h => h.1)); replace HK := am (KeepBut.trans (zh HK) hk (.inl rfl)); replace HB := am (hb); replace HI0 := am (hi); (try clear hb); (try clear hb2); (try clear hk); (try clear hi); have hnb54 := NB211_201.out; have hnc54 := NB201_211.out; have hnb55 := NB211_0.out; have hnc55 := NB0_211.out; have hcz56_0 := ce0 BK211; have hcz56_1 := ce1 BK211; have hcz56_2 := ce2 BK211; have hcz56_3 := ce3 BK211; have hcz56_4 := ce4 BK211; have hfz56_0 := bfz BK211 0; have hfz56_1 := bfz BK211 1; have hfz56_2 := bfz BK211 2; have hfz56_3 := bfz BK211 3; have hfz56_4 := bfz BK211 4; have hnb57 := NB201_0.out; have hnc57 := NB0_201.out; have hcz58_0 := ce0 BK201; have hcz58_1 := ce1 BK201; have hcz58_2 := ce2 BK201; have hcz58_3 := ce3 BK201; have hcz58_4 := ce4 BK201; have hfz58_0 := bfz BK201 0; have hfz58_1 := bfz BK201 1; have hfz58_2 := bfz BK201 2; have hfz58_3 := bfz BK201 3; have hfz58_4 := bfz BK201 4))
    refine bodyPost_ret (results_cell_row rfl _ _ gb201 24 #[.int .i64 x212000_5, .string t226, .string x212002_5, .int .i64 x212003_5, .string x212004_5] (0, 0) _ rfl (zp BK201) Tryd.underlying24 rfl (by kernel_rfl)) rfl ?_
    exact ⟨zv, (zi HI0), (zb HB), (zh HK)⟩
  rw [if_neg c47] at H
  have c47b0 : (t221 == 0) = false := beq_eq_false_iff_ne.mpr c47
  have c47b1 : (t221 != 0) = true := bne_iff_ne.mpr c47
  by_cases c59 : t221 = 1
  · rw [if_pos c59] at H
    have c59b0 : (t221 == 1) = true := beq_iff_eq.mpr c59
    have c59b1 : (t221 != 1) = false := bne_eq_false_iff_eq.mpr c59
    clear c59
    replace H := obs H
    obtain ⟨⟨t228, t229⟩, A600, H⟩ := H
    replace H : (some (x212000_5, x212001_5, x212002_5, wrap64 (t228 - 1), x212004_5, t229)) = some (r1, r2, r3, r4, r5, r6) := H
    have A60 := am A600
    clear A600
    simp only [Option.some.injEq, Prod.mk.injEq] at H
    obtain ⟨rfl, rfl, rfl, rfl, rfl, rfl⟩ := H
    go_wp2_with (first | ((with_reducible refine gate_callee (f := 30) rfl ?_); refine goesL_ (some 37) rfl rfl Tryd.func30 (by kernel_rfl) rfl #[.pointer (some ⟨g, 0, none⟩), .int .i64 30] rfl (by (try simp only [List.map_toArray, List.map_cons, List.map_nil]); first | done | rfl | (simp only [List.length_drop, List.length_take]; rfl)) ?_; (with_reducible refine (spec_l6Rd_pick.calls kj5 g s0_0 x1001_5 30 t221 t222 w0 _ ?side1 ?side2 A46.out).mono ?_); (case side1 => exact zi HI0); (case side2 => exact zb HB); rintro e w61 ⟨rfl, hi, hb, hk⟩; refine ⟨_, rfl, ?_⟩; replace BK201 := am (KeepBut.blk hk (zk BK201) NB201_0.out (by simp)); replace BK211 := am (KeepBut.blk hk (zk BK211) NB211_0.out (by simp)); replace HK := am (KeepBut.trans (zh HK) hk (.inl rfl)); replace HB := am (hb); replace HI0 := am (hi); (try clear hb); (try clear hb2); (try clear hk); (try clear hi)) | ((with_reducible refine gate_callee (f := 30) rfl ?_); refine goesL_ (some 47) rfl rfl Tryd.func30 (by kernel_rfl) rfl #[.pointer (some ⟨g, 0, none⟩), .int .i64 9] rfl (by (try simp only [List.map_toArray, List.map_cons, List.map_nil]); first | done | rfl | (simp only [List.length_drop, List.length_take]; rfl)) ?_; (with_reducible refine (spec_l6Rd_pick.calls kj5 g s0_0 t222 9 t228 t229 w0 _ ?side1 ?side2 A60.out).mono ?_); (case side1 => exact zi HI0); (case side2 => exact zb HB); rintro e w62 ⟨rfl, hi, hb, hk⟩; refine ⟨_, rfl, ?_⟩; replace BK201 := am (KeepBut.blk hk (zk BK201) NB201_0.out (by simp)); replace BK211 := am (KeepBut.blk hk (zk BK211) NB211_0.out (by simp)); replace HK := am (KeepBut.trans (zh HK) hk (.inl rfl)); replace HB := am (hb); replace HI0 := am (hi); (try clear hb); (try clear hb2); (try clear hk); (try clear hi); have hnb63 := NB211_201.out; have hnc63 := NB201_211.out; have hnb64 := NB211_0.out; have hnc64 := NB0_211.out; have hcz65_0 := ce0 BK211; have hcz65_1 := ce1 BK211; have hcz65_2 := ce2 BK211; have hcz65_3 := ce3 BK211; have hcz65_4 := ce4 BK211; have hfz65_0 := bfz BK211 0; have hfz65_1 := bfz BK211 1; have hfz65_2 := bfz BK211 2; have hfz65_3 := bfz BK211 3; have hfz65_4 := bfz BK211 4; have hnb66 := NB201_0.out; have hnc66 := NB0_201.out; have hcz67_0 := ce0 BK201; have hcz67_1 := ce1 BK201; have hcz67_2 := ce2 BK201; have hcz67_3 := ce3 BK201; have hcz67_4 := ce4 BK201; have hfz67_0 := bfz BK201 0; have hfz67_1 := bfz BK201 1; have hfz67_2 := bfz BK201 2; have hfz67_3 := bfz BK201 3; have hfz67_4 := bfz BK201 4))
    refine bodyPost_ret (results_cell_row rfl _ _ gb201 24 #[.int .i64 x212000_5, .string x212001_5, .string x212002_5, .int .i64 (wrap64 (t228 - 1)), .string x212004_5] (0, 0) _ rfl (zp BK201) Tryd.underlying24 rfl (by kernel_rfl)) rfl ?_
    exact ⟨zv, (zi HI0), (zb HB), (zh HK)⟩
  rw [if_neg c59] at H
  have c59b0 : (t221 == 1) = false := beq_eq_false_iff_ne.mpr c59
  have c59b1 : (t221 != 1) = true := bne_iff_ne.mpr c59
  by_cases c68 : t221 = 2
  rotate_left
  · rw [if_neg c68] at H
    have c68b0 : (t221 == 2) = false := beq_eq_false_iff_ne.mpr c68
    have c68b1 : (t221 != 2) = true := bne_iff_ne.mpr c68
    simp only [Option.some.injEq, Prod.mk.injEq] at H
    obtain ⟨rfl, rfl, rfl, rfl, rfl, rfl⟩ := H
    go_wp2_with (first | ((with_reducible refine gate_callee (f := 30) rfl ?_); refine goesL_ (some 37) rfl rfl Tryd.func30 (by kernel_rfl) rfl #[.pointer (some ⟨g, 0, none⟩), .int .i64 30] rfl (by (try simp only [List.map_toArray, List.map_cons, List.map_nil]); first | done | rfl | (simp only [List.length_drop, List.length_take]; rfl)) ?_; (with_reducible refine (spec_l6Rd_pick.calls kj5 g s0_0 x1001_5 30 t221 t222 w0 _ ?side1 ?side2 A46.out).mono ?_); (case side1 => exact zi HI0); (case side2 => exact zb HB); rintro e w77 ⟨rfl, hi, hb, hk⟩; refine ⟨_, rfl, ?_⟩; replace BK201 := am (KeepBut.blk hk (zk BK201) NB201_0.out (by simp)); replace BK211 := am (KeepBut.blk hk (zk BK211) NB211_0.out (by simp)); replace HK := am (KeepBut.trans (zh HK) hk (.inl rfl)); replace HB := am (hb); replace HI0 := am (hi); (try clear hb); (try clear hb2); (try clear hk); (try clear hi); have hnb78 := NB211_201.out; have hnc78 := NB201_211.out; have hnb79 := NB211_0.out; have hnc79 := NB0_211.out; have hcz80_0 := ce0 BK211; have hcz80_1 := ce1 BK211; have hcz80_2 := ce2 BK211; have hcz80_3 := ce3 BK211; have hcz80_4 := ce4 BK211; have hfz80_0 := bfz BK211 0; have hfz80_1 := bfz BK211 1; have hfz80_2 := bfz BK211 2; have hfz80_3 := bfz BK211 3; have hfz80_4 := bfz BK211 4; have hnb81 := NB201_0.out; have hnc81 := NB0_201.out; have hcz82_0 := ce0 BK201; have hcz82_1 := ce1 BK201; have hcz82_2 := ce2 BK201; have hcz82_3 := ce3 BK201; have hcz82_4 := ce4 BK201; have hfz82_0 := bfz BK201 0; have hfz82_1 := bfz BK201 1; have hfz82_2 := bfz BK201 2; have hfz82_3 := bfz BK201 3; have hfz82_4 := bfz BK201 4))
    refine bodyPost_ret (results_cell_row rfl _ _ gb201 24 #[.int .i64 x212000_5, .string x212001_5, .string x212002_5, .int .i64 x212003_5, .string x212004_5] (0, 0) _ rfl (zp BK201) Tryd.underlying24 rfl (by kernel_rfl)) rfl ?_
    exact ⟨zv, (zi HI0), (zb HB), (zh HK)⟩
  rw [if_pos c68] at H
  have c68b0 : (t221 == 2) = true := beq_iff_eq.mpr c68
  have c68b1 : (t221 != 2) = false := bne_eq_false_iff_eq.mpr c68
  clear c68
  replace H := obs H
  obtain ⟨⟨t230, t231⟩, A690, H⟩ := H
  replace H : (some (t230, x212001_5, x212002_5, x212003_5, x212004_5, t231)) = some (r1, r2, r3, r4, r5, r6) := H
  have A69 := am A690
  clear A690
  simp only [Option.some.injEq, Prod.mk.injEq] at H
  obtain ⟨rfl, rfl, rfl, rfl, rfl, rfl⟩ := H
  go_wp2_with (first | ((with_reducible refine gate_callee (f := 30) rfl ?_); refine goesL_ (some 37) rfl rfl Tryd.func30 (by kernel_rfl) rfl #[.pointer (some ⟨g, 0, none⟩), .int .i64 30] rfl (by (try simp only [List.map_toArray, List.map_cons, List.map_nil]); first | done | rfl | (simp only [List.length_drop, List.length_take]; rfl)) ?_; (with_reducible refine (spec_l6Rd_pick.calls kj5 g s0_0 x1001_5 30 t221 t222 w0 _ ?side1 ?side2 A46.out).mono ?_); (case side1 => exact zi HI0); (case side2 => exact zb HB); rintro e w70 ⟨rfl, hi, hb, hk⟩; refine ⟨_, rfl, ?_⟩; replace BK201 := am (KeepBut.blk hk (zk BK201) NB201_0.out (by simp)); replace BK211 := am (KeepBut.blk hk (zk BK211) NB211_0.out (by simp)); replace HK := am (KeepBut.trans (zh HK) hk (.inl rfl)); replace HB := am (hb); replace HI0 := am (hi); (try clear hb); (try clear hb2); (try clear hk); (try clear hi)) | ((with_reducible refine gate_callee (f := 30) rfl ?_); refine goesL_ (some 53) rfl rfl Tryd.func30 (by kernel_rfl) rfl #[.pointer (some ⟨g, 0, none⟩), .int .i64 6] rfl (by (try simp only [List.map_toArray, List.map_cons, List.map_nil]); first | done | rfl | (simp only [List.length_drop, List.length_take]; rfl)) ?_; (with_reducible refine (spec_l6Rd_pick.calls kj5 g s0_0 t222 6 t230 t231 w0 _ ?side1 ?side2 A69.out).mono ?_); (case side1 => exact zi HI0); (case side2 => exact zb HB); rintro e w71 ⟨rfl, hi, hb, hk⟩; refine ⟨_, rfl, ?_⟩; replace BK201 := am (KeepBut.blk hk (zk BK201) NB201_0.out (by simp)); replace BK211 := am (KeepBut.blk hk (zk BK211) NB211_0.out (by simp)); replace HK := am (KeepBut.trans (zh HK) hk (.inl rfl)); replace HB := am (hb); replace HI0 := am (hi); (try clear hb); (try clear hb2); (try clear hk); (try clear hi); have hnb72 := NB211_201.out; have hnc72 := NB201_211.out; have hnb73 := NB211_0.out; have hnc73 := NB0_211.out; have hcz74_0 := ce0 BK211; have hcz74_1 := ce1 BK211; have hcz74_2 := ce2 BK211; have hcz74_3 := ce3 BK211; have hcz74_4 := ce4 BK211; have hfz74_0 := bfz BK211 0; have hfz74_1 := bfz BK211 1; have hfz74_2 := bfz BK211 2; have hfz74_3 := bfz BK211 3; have hfz74_4 := bfz BK211 4; have hnb75 := NB201_0.out; have hnc75 := NB0_201.out; have hcz76_0 := ce0 BK201; have hcz76_1 := ce1 BK201; have hcz76_2 := ce2 BK201; have hcz76_3 := ce3 BK201; have hcz76_4 := ce4 BK201; have hfz76_0 := bfz BK201 0; have hfz76_1 := bfz BK201 1; have hfz76_2 := bfz BK201 2; have hfz76_3 := bfz BK201 3; have hfz76_4 := bfz BK201 4))
  refine bodyPost_ret (results_cell_row rfl _ _ gb201 24 #[.int .i64 t230, .string x212001_5, .string x212002_5, .int .i64 x212003_5, .string x212004_5] (0, 0) _ rfl (zp BK201) Tryd.underlying24 rfl (by kernel_rfl)) rfl ?_
  exact ⟨zv, (zi HI0), (zb HB), (zh HK)⟩
/-! ### spec_l6Open: function 21 -/
def spec_l6Open.f (l0 : List Int) : Option (List Int × Int) := if (l0.length : Int) > 2000 then (if 2000 ≤ (l0.length : Int) then (some (l0.take 2000, 0)) else (none)) else (some (l0, 0))
set_option maxHeartbeats 8000000 in
set_option maxRecDepth 100000 in
theorem spec_l6Open.calls (A0 : Option Addr) (c0 : Nat) (l0 : List Int) (r1 : List Int) (r2 : Int) (w0 w : World) (hB : Below w0.heap.size w0 w) (hr0 : Kd.C (Kd.int .u8) w0 A0 l0.length l0) (hc0 : l0.length ≤ c0) (h : spec_l6Open.f l0 = some (r1, r2)) :
 Calls Tryd.prog 21 #[.slice A0 l0.length c0] w fun e w' => ∃ g_ : Nat, e = .returned (.pointer (some ⟨g_, 0, none⟩)) ∧ IsS57 w0 w' g_ r1 r2 ∧ Below w0.heap.size w0 w' ∧ Below w.heap.size w w' := by
 have hu57 := Tryd.underlying57
 have HR0 := am hr0
 have HC0 := am hc0
 clear hr0 hc0
 have HBW := am (Below.refl w.heap.size w)
 have HW0 := am hB.size
 have HB := am hB
 clear hB
 have H : (if (l0.length : Int) > 2000 then (if 2000 ≤ (l0.length : Int) then (some (l0.take 2000, 0)) else (none)) else (some (l0, 0))) = some (r1, r2) := h
 clear h
 by_cases c2 : (l0.length : Int) > 2000
 rotate_left
 · rw [if_neg c2] at H
   have c2b0 : decide (2000 < (l0.length : Int)) = false := decide_eq_false c2
   have c2b1 : decide (2000 < l0.length) = false := decide_eq_false (by omega)
   clear c2
   simp only [Option.some.injEq, Prod.mk.injEq] at H
   obtain ⟨rfl, rfl⟩ := H
   go_enter Tryd.func21, Tryd.ntmps21
   go_wp2_with (first | ((with_reducible refine gate_dst (N := 10) rfl ?_); refine bx 57 #[.slice A0 l0.length c0, .int .i64 0] ?_; intro gb234 hg w6 hbox hb; replace HB := am (below_step (zb HB) hb); have BK234 := am (hbox); have GW234 := am (zn hg (zb HBW)); have GE234 := am ((Nat.le_trans HW0.out (zn hg (zb HBW)) : w0.heap.size ≤ gb234)); replace HBW := am (below_step HBW.out hb); clear hb hbox hg))
   go_ret
   exact ⟨_, rfl, (show IsS57 w0 _ gb234 l0 0 from ⟨_, _, (zk BK234), GE234.out, HR0.out⟩), (zb HB), (zb HBW)⟩
 rw [if_pos c2] at H
 have c2b0 : decide (2000 < (l0.length : Int)) = true := decide_eq_true c2
 have c2b1 : decide (2000 < l0.length) = true := decide_eq_true (by omega)
 clear c2
 by_cases c3 : 2000 ≤ (l0.length : Int)
 rotate_left
 · rw [if_neg c3] at H
   exact absurd H (by simp)
 rw [if_pos c3] at H
 have c3b0 := eq_true c3
 have c3b1 : decide (2000 ≤ (l0.length : Int)) = true := decide_eq_true c3
 clear c3
 simp only [Option.some.injEq, Prod.mk.injEq] at H
 obtain ⟨rfl, rfl⟩ := H
 obtain ⟨i04, hi04, _, hsz4, _⟩ := info_parts info5
 obtain ⟨hcut4, hA4, hC4⟩ := print_take_of (P := Tryd.prog) (Value.int .u8) 0 22 5 .i64 Tryd.underlying22 hi04 hsz4 A0 c0 l0 2000 (by omega) (of_decide_eq_true zl) HC0.out
 have HR232 := am (Kd.C_of_reads (h1 := fun _ => rfl) (hA4 _ (Kd.reads_of_C HR0.out)))
 have HC232 := am hC4
 clear hA4 hC4 hi04 hsz4
 go_enter Tryd.func21, Tryd.ntmps21
 go_wp2_with (first | ((with_reducible refine gate_dst (N := 10) rfl ?_); refine bx 57 #[.slice A0 (l0.take 2000).length c0, .int .i64 0] ?_; intro gb233 hg w5 hbox hb; replace HB := am (below_step (zb HB) hb); have BK233 := am (hbox); have GW233 := am (zn hg (zb HBW)); have GE233 := am ((Nat.le_trans HW0.out (zn hg (zb HBW)) : w0.heap.size ≤ gb233)); replace HBW := am (below_step HBW.out hb); clear hb hbox hg))
 go_ret
 exact ⟨_, rfl, (show IsS57 w0 _ gb233 (l0.take 2000) 0 from ⟨_, _, (zk BK233), GE233.out, HR232.out⟩), (zb HB), (zb HBW)⟩
end Go.Proofs.YtagfiehoodepbaaDoor.PFnOpStrict
