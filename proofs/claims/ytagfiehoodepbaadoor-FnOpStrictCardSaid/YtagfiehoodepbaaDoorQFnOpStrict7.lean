/- The walk: each function that the law comes to as a plain Lean function, and a proof that the Go code answers so. Written by this session's program over the kit's printer. -/
import Derived.Test.YtagfiehoodepbaaDoorZ
import Derived.Test.YtagfiehoodepbaaDoorQFnOpStrict0
import Derived.Test.YtagfiehoodepbaaDoorQFnOpStrict5
import Derived.Test.YtagfiehoodepbaaDoorQFnOpStrict6
namespace Go.Proofs.YtagfiehoodepbaaDoor.PFnOpStrict
open Go.RowKit Go.Proofs.YtagfiehoodepbaaDoorW.PrintWords Go.Proofs.YtagfiehoodepbaaDoorW.PrintLast Go.Proofs.YtagfiehoodepbaaDoorW.PrintMore
attribute [local go_sem] max2_int min2_int max_two min_two max_three min_three max_four min_four   -- for this text's walks alone
set_option linter.unusedVariables false
set_option linter.unusedSimpArgs false
/-! ### spec_OpRead: function 13 -/
def spec_OpRead.j0 : Nat → ByteArray → List ByteArray → ByteArray → Bool → Int → ByteArray → ByteArray → Int → ByteArray → Option (Int × ByteArray × ByteArray × Int × ByteArray × Bool)
 | 0, _, _, _, _, _, _, _, _, _ => none
 | k + 1, x0, x4, x17, x25, x169000, x169001, x169002, x169003, x169004 => if x25 = true then ((spec_l12Word.f x4 2).bind fun t173 => ((spec_l12Dec.f k t173).bind fun t174 => ((spec_l12Word.f x4 3).bind fun t175 => (if x0.toList = ([] : List UInt8) then (some (0, (⟨#[]⟩ : ByteArray), (⟨#[]⟩ : ByteArray), 0, (⟨#[]⟩ : ByteArray), false)) else ((spec_OpText.f k 2 x169001 x169002 t174 t175).bind fun t176 => (if t176.toList = x0.toList then (some (2, x169001, x169002, t174, t175, true)) else (some (0, (⟨#[]⟩ : ByteArray), (⟨#[]⟩ : ByteArray), 0, (⟨#[]⟩ : ByteArray), false)))))))) else (if x17.toList = ([99, 108, 111, 110, 101] : List UInt8) then ((spec_l12Word.f x4 2).bind fun t177 => (if x0.toList = ([] : List UInt8) then (some (0, (⟨#[]⟩ : ByteArray), (⟨#[]⟩ : ByteArray), 0, (⟨#[]⟩ : ByteArray), false)) else ((spec_OpText.f k 3 x169001 t177 x169003 x169004).bind fun t178 => (if t178.toList = x0.toList then (some (3, x169001, t177, x169003, x169004, true)) else (some (0, (⟨#[]⟩ : ByteArray), (⟨#[]⟩ : ByteArray), 0, (⟨#[]⟩ : ByteArray), false)))))) else (if x17.toList = ([103, 111, 110, 101] : List UInt8) then (if x0.toList = ([] : List UInt8) then (some (0, (⟨#[]⟩ : ByteArray), (⟨#[]⟩ : ByteArray), 0, (⟨#[]⟩ : ByteArray), false)) else ((spec_OpText.f k 4 x169001 x169002 x169003 x169004).bind fun t179 => (if t179.toList = x0.toList then (some (4, x169001, x169002, x169003, x169004, true)) else (some (0, (⟨#[]⟩ : ByteArray), (⟨#[]⟩ : ByteArray), 0, (⟨#[]⟩ : ByteArray), false))))) else (if x0.toList = ([] : List UInt8) then (some (0, (⟨#[]⟩ : ByteArray), (⟨#[]⟩ : ByteArray), 0, (⟨#[]⟩ : ByteArray), false)) else ((spec_OpText.f k x169000 x169001 x169002 x169003 x169004).bind fun t180 => (if t180.toList = x0.toList then (some (x169000, x169001, x169002, x169003, x169004, true)) else (some (0, (⟨#[]⟩ : ByteArray), (⟨#[]⟩ : ByteArray), 0, (⟨#[]⟩ : ByteArray), false)))))))
def spec_OpRead.f (k : Nat) (a0 : ByteArray) : Option (Int × ByteArray × ByteArray × Int × ByteArray × Bool) := if (a0.size : Int) > 20 then (some (0, (⟨#[]⟩ : ByteArray), (⟨#[]⟩ : ByteArray), 0, (⟨#[]⟩ : ByteArray), false)) else ((spec_l12Cut.f k a0 32).bind fun t164 => ((spec_l12Word.f t164 1).bind fun t167 => (if 0 < (t164.length : Int) then (if (rdOf ByteArray.empty t164 0).toList = ([109, 97, 107, 101] : List UInt8) then ((spec_l12Word.f t164 2).bind fun t170 => ((spec_l12Dec.f k t170).bind fun t171 => (if a0.toList = ([] : List UInt8) then (some (0, (⟨#[]⟩ : ByteArray), (⟨#[]⟩ : ByteArray), 0, (⟨#[]⟩ : ByteArray), false)) else ((spec_OpText.f k 1 t167 (⟨#[]⟩ : ByteArray) t171 (⟨#[]⟩ : ByteArray)).bind fun t172 => (if t172.toList = a0.toList then (some (1, t167, (⟨#[]⟩ : ByteArray), t171, (⟨#[]⟩ : ByteArray), true)) else (some (0, (⟨#[]⟩ : ByteArray), (⟨#[]⟩ : ByteArray), 0, (⟨#[]⟩ : ByteArray), false))))))) else (if (rdOf ByteArray.empty t164 0).toList = ([102, 114, 101, 101] : List UInt8) then (spec_OpRead.j0 k a0 t164 (rdOf ByteArray.empty t164 0) ((rdOf ByteArray.empty t164 0).toList == ([102, 114, 101, 101] : List UInt8)) 0 t167 (⟨#[]⟩ : ByteArray) 0 (⟨#[]⟩ : ByteArray)) else (spec_OpRead.j0 k a0 t164 (rdOf ByteArray.empty t164 0) ((rdOf ByteArray.empty t164 0).toList == ([119, 114, 105, 116, 101] : List UInt8)) 0 t167 (⟨#[]⟩ : ByteArray) 0 (⟨#[]⟩ : ByteArray)))) else (none))))
theorem spec_OpRead.mono_l : ∀ k, (∀ y0 y1 y2 y3 y4 y5 y6 y7 y8, LeO (spec_OpRead.j0 k y0 y1 y2 y3 y4 y5 y6 y7 y8) (spec_OpRead.j0 (k + 1) y0 y1 y2 y3 y4 y5 y6 y7 y8))
 | 0 => fun _ _ _ _ _ _ _ _ _ r h => by simp [spec_OpRead.j0] at h
 | k + 1 => by
  have ih0 := spec_OpRead.mono_l k
  intro y0 y1 y2 y3 y4 y5 y6 y7 y8
  unfold spec_OpRead.j0
  exact mo4 ih0 @spec_OpText.mono @spec_l12Cut.mono @spec_l12Dec.mono
theorem spec_OpRead.mono : ∀ a0 k, LeO (spec_OpRead.f k a0) (spec_OpRead.f (k + 1) a0) := by
 intro a0 k
 have ih0 := spec_OpRead.mono_l k
 unfold spec_OpRead.f
 exact mo4 ih0 @spec_OpText.mono @spec_l12Cut.mono @spec_l12Dec.mono
set_option maxHeartbeats 8000000 in
set_option maxRecDepth 100000 in
theorem spec_OpRead.calls (k : Nat) (a0 : ByteArray) (r1 : Int) (r2 : ByteArray) (r3 : ByteArray) (r4 : Int) (r5 : ByteArray) (r6 : Bool) (w : World) (h : spec_OpRead.f k a0 = some (r1, r2, r3, r4, r5, r6)) :
 Calls Tryd.prog 13 #[.string a0] w fun e w' => e = .returned (.tuple #[.agg #[.int .i64 r1, .string r2, .string r3, .int .i64 r4, .string r5], .bool r6]) ∧ Below w.heap.size w w' := by
 have hu24 := Tryd.underlying24
 have HB := am (Below.refl w.heap.size w)
 have H : (if (a0.size : Int) > 20 then (some (0, (⟨#[]⟩ : ByteArray), (⟨#[]⟩ : ByteArray), 0, (⟨#[]⟩ : ByteArray), false)) else ((spec_l12Cut.f k a0 32).bind fun t164 => ((spec_l12Word.f t164 1).bind fun t167 => (if 0 < (t164.length : Int) then (if (rdOf ByteArray.empty t164 0).toList = ([109, 97, 107, 101] : List UInt8) then ((spec_l12Word.f t164 2).bind fun t170 => ((spec_l12Dec.f k t170).bind fun t171 => (if a0.toList = ([] : List UInt8) then (some (0, (⟨#[]⟩ : ByteArray), (⟨#[]⟩ : ByteArray), 0, (⟨#[]⟩ : ByteArray), false)) else ((spec_OpText.f k 1 t167 (⟨#[]⟩ : ByteArray) t171 (⟨#[]⟩ : ByteArray)).bind fun t172 => (if t172.toList = a0.toList then (some (1, t167, (⟨#[]⟩ : ByteArray), t171, (⟨#[]⟩ : ByteArray), true)) else (some (0, (⟨#[]⟩ : ByteArray), (⟨#[]⟩ : ByteArray), 0, (⟨#[]⟩ : ByteArray), false))))))) else (if (rdOf ByteArray.empty t164 0).toList = ([102, 114, 101, 101] : List UInt8) then (spec_OpRead.j0 k a0 t164 (rdOf ByteArray.empty t164 0) ((rdOf ByteArray.empty t164 0).toList == ([102, 114, 101, 101] : List UInt8)) 0 t167 (⟨#[]⟩ : ByteArray) 0 (⟨#[]⟩ : ByteArray)) else (spec_OpRead.j0 k a0 t164 (rdOf ByteArray.empty t164 0) ((rdOf ByteArray.empty t164 0).toList == ([119, 114, 105, 116, 101] : List UInt8)) 0 t167 (⟨#[]⟩ : ByteArray) 0 (⟨#[]⟩ : ByteArray)))) else (none))))) = some (r1, r2, r3, r4, r5, r6) := h
 clear h
 by_cases c2 : (a0.size : Int) > 20
 · rw [if_pos c2] at H
   have c2b0 : decide (20 < (a0.size : Int)) = true := decide_eq_true c2
   have c2b1 : decide (20 < a0.size) = true := decide_eq_true (by omega)
   clear c2
   simp only [Option.some.injEq, Prod.mk.injEq] at H
   obtain ⟨rfl, rfl, rfl, rfl, rfl, rfl⟩ := H
   go_enter Tryd.func13, Tryd.ntmps13
   go_wp2_with (first | ((with_reducible refine gate_dst (N := 2) rfl ?_); refine bx 24 #[.int .i64 0, .string (⟨#[]⟩ : ByteArray), .string (⟨#[]⟩ : ByteArray), .int .i64 0, .string (⟨#[]⟩ : ByteArray)] ?_; intro gb163 hg w3 hbox hb; have BK163 := am (hbox); have GW163 := am (zn hg (zb HB)); have GE163 := am (zn hg (zb HB)); replace HB := am (below_step (zb HB) hb); clear hb hbox hg; have hcz4_0 := ce0 BK163; have hcz4_1 := ce1 BK163; have hcz4_2 := ce2 BK163; have hcz4_3 := ce3 BK163; have hcz4_4 := ce4 BK163; have hfz4_0 := bfz BK163 0; have hfz4_1 := bfz BK163 1; have hfz4_2 := bfz BK163 2; have hfz4_3 := bfz BK163 3; have hfz4_4 := bfz BK163 4))
   refine bodyPost_ret (results_ct rfl _ _ gb163 24 #[.int .i64 0, .string (⟨#[]⟩ : ByteArray), .string (⟨#[]⟩ : ByteArray), .int .i64 0, .string (⟨#[]⟩ : ByteArray)] (0, 0) _ rfl (zp BK163) Tryd.underlying24 rfl (by kernel_rfl)) rfl ?_
   exact ⟨zv, (zb HB)⟩
 rw [if_neg c2] at H
 have c2b0 : decide (20 < (a0.size : Int)) = false := decide_eq_false c2
 have c2b1 : decide (20 < a0.size) = false := decide_eq_false (by omega)
 clear c2
 replace H := obs H
 obtain ⟨t164, A50, H⟩ := H
 replace H : ((spec_l12Word.f t164 1).bind fun t167 => (if 0 < (t164.length : Int) then (if (rdOf ByteArray.empty t164 0).toList = ([109, 97, 107, 101] : List UInt8) then ((spec_l12Word.f t164 2).bind fun t170 => ((spec_l12Dec.f k t170).bind fun t171 => (if a0.toList = ([] : List UInt8) then (some (0, (⟨#[]⟩ : ByteArray), (⟨#[]⟩ : ByteArray), 0, (⟨#[]⟩ : ByteArray), false)) else ((spec_OpText.f k 1 t167 (⟨#[]⟩ : ByteArray) t171 (⟨#[]⟩ : ByteArray)).bind fun t172 => (if t172.toList = a0.toList then (some (1, t167, (⟨#[]⟩ : ByteArray), t171, (⟨#[]⟩ : ByteArray), true)) else (some (0, (⟨#[]⟩ : ByteArray), (⟨#[]⟩ : ByteArray), 0, (⟨#[]⟩ : ByteArray), false))))))) else (if (rdOf ByteArray.empty t164 0).toList = ([102, 114, 101, 101] : List UInt8) then (spec_OpRead.j0 k a0 t164 (rdOf ByteArray.empty t164 0) ((rdOf ByteArray.empty t164 0).toList == ([102, 114, 101, 101] : List UInt8)) 0 t167 (⟨#[]⟩ : ByteArray) 0 (⟨#[]⟩ : ByteArray)) else (spec_OpRead.j0 k a0 t164 (rdOf ByteArray.empty t164 0) ((rdOf ByteArray.empty t164 0).toList == ([119, 114, 105, 116, 101] : List UInt8)) 0 t167 (⟨#[]⟩ : ByteArray) 0 (⟨#[]⟩ : ByteArray)))) else (none))) = some (r1, r2, r3, r4, r5, r6) := H
 have A5 := am A50
 clear A50
 replace H := obs H
 obtain ⟨t167, A60, H⟩ := H
 replace H : (if 0 < (t164.length : Int) then (if (rdOf ByteArray.empty t164 0).toList = ([109, 97, 107, 101] : List UInt8) then ((spec_l12Word.f t164 2).bind fun t170 => ((spec_l12Dec.f k t170).bind fun t171 => (if a0.toList = ([] : List UInt8) then (some (0, (⟨#[]⟩ : ByteArray), (⟨#[]⟩ : ByteArray), 0, (⟨#[]⟩ : ByteArray), false)) else ((spec_OpText.f k 1 t167 (⟨#[]⟩ : ByteArray) t171 (⟨#[]⟩ : ByteArray)).bind fun t172 => (if t172.toList = a0.toList then (some (1, t167, (⟨#[]⟩ : ByteArray), t171, (⟨#[]⟩ : ByteArray), true)) else (some (0, (⟨#[]⟩ : ByteArray), (⟨#[]⟩ : ByteArray), 0, (⟨#[]⟩ : ByteArray), false))))))) else (if (rdOf ByteArray.empty t164 0).toList = ([102, 114, 101, 101] : List UInt8) then (spec_OpRead.j0 k a0 t164 (rdOf ByteArray.empty t164 0) ((rdOf ByteArray.empty t164 0).toList == ([102, 114, 101, 101] : List UInt8)) 0 t167 (⟨#[]⟩ : ByteArray) 0 (⟨#[]⟩ : ByteArray)) else (spec_OpRead.j0 k a0 t164 (rdOf ByteArray.empty t164 0) ((rdOf ByteArray.empty t164 0).toList == ([119, 114, 105, 116, 101] : List UInt8)) 0 t167 (⟨#[]⟩ : ByteArray) 0 (⟨#[]⟩ : ByteArray)))) else (none)) = some (r1, r2, r3, r4, r5, r6) := H
 have A6 := am A60
 clear A60
 by_cases c7 : 0 < (t164.length : Int)
 rotate_left
 · rw [if_neg c7] at H
   exact absurd H (by simp)
 rw [if_pos c7] at H
 have c7b0 : decide (0 < (t164.length : Int)) = true := decide_eq_true c7
 have c7b1 : decide (0 < t164.length) = true := decide_eq_true (by omega)
 clear c7
 by_cases c8 : (rdOf ByteArray.empty t164 0).toList = ([109, 97, 107, 101] : List UInt8)
 · rw [if_pos c8] at H
   have c8b0 : ((rdOf ByteArray.empty t164 0).toList == ([109, 97, 107, 101] : List UInt8)) = true := beq_iff_eq.mpr c8
   have c8b1 : ((rdOf ByteArray.empty t164 0).toList != ([109, 97, 107, 101] : List UInt8)) = false := bne_eq_false_iff_eq.mpr c8
   clear c8
   replace H := obs H
   obtain ⟨t170, A90, H⟩ := H
   replace H : ((spec_l12Dec.f k t170).bind fun t171 => (if a0.toList = ([] : List UInt8) then (some (0, (⟨#[]⟩ : ByteArray), (⟨#[]⟩ : ByteArray), 0, (⟨#[]⟩ : ByteArray), false)) else ((spec_OpText.f k 1 t167 (⟨#[]⟩ : ByteArray) t171 (⟨#[]⟩ : ByteArray)).bind fun t172 => (if t172.toList = a0.toList then (some (1, t167, (⟨#[]⟩ : ByteArray), t171, (⟨#[]⟩ : ByteArray), true)) else (some (0, (⟨#[]⟩ : ByteArray), (⟨#[]⟩ : ByteArray), 0, (⟨#[]⟩ : ByteArray), false)))))) = some (r1, r2, r3, r4, r5, r6) := H
   have A9 := am A90
   clear A90
   replace H := obs H
   obtain ⟨t171, A100, H⟩ := H
   replace H : (if a0.toList = ([] : List UInt8) then (some (0, (⟨#[]⟩ : ByteArray), (⟨#[]⟩ : ByteArray), 0, (⟨#[]⟩ : ByteArray), false)) else ((spec_OpText.f k 1 t167 (⟨#[]⟩ : ByteArray) t171 (⟨#[]⟩ : ByteArray)).bind fun t172 => (if t172.toList = a0.toList then (some (1, t167, (⟨#[]⟩ : ByteArray), t171, (⟨#[]⟩ : ByteArray), true)) else (some (0, (⟨#[]⟩ : ByteArray), (⟨#[]⟩ : ByteArray), 0, (⟨#[]⟩ : ByteArray), false))))) = some (r1, r2, r3, r4, r5, r6) := H
   have A10 := am A100
   clear A100
   by_cases c11 : a0.toList = ([] : List UInt8)
   · rw [if_pos c11] at H
     have c11b0 : (a0.toList == ([] : List UInt8)) = true := beq_iff_eq.mpr c11
     have c11b1 : (a0.toList != ([] : List UInt8)) = false := bne_eq_false_iff_eq.mpr c11
     clear c11
     simp only [Option.some.injEq, Prod.mk.injEq] at H
     obtain ⟨rfl, rfl, rfl, rfl, rfl, rfl⟩ := H
     go_enter Tryd.func13, Tryd.ntmps13
     go_wp2_with (first | ((with_reducible refine gate_dst (N := 2) rfl ?_); refine bx 24 #[.int .i64 0, .string (⟨#[]⟩ : ByteArray), .string (⟨#[]⟩ : ByteArray), .int .i64 0, .string (⟨#[]⟩ : ByteArray)] ?_; intro gb163 hg w12 hbox hb; have BK163 := am (hbox); have GW163 := am (zn hg (zb HB)); have GE163 := am (zn hg (zb HB)); replace HB := am (below_step (zb HB) hb); clear hb hbox hg) | ((with_reducible refine gate_callee (f := 27) rfl ?_); refine goesL_ (some 11) rfl rfl Tryd.func27 (by kernel_rfl) rfl #[.string a0, .int .u8 32] rfl (by (try simp only [List.map_toArray, List.map_cons, List.map_nil]); first | done | rfl | (simp only [List.length_drop, List.length_take]; rfl)) ?_; (with_reducible refine (spec_l12Cut.calls k a0 32 t164 _ A5.out).mono ?_); rintro e w13 ⟨v165, rfl, ho0, hb⟩; refine ⟨_, rfl, ?_⟩; have HO166 := am (Kd.R_lower ho0 (below_size (zb HB))); replace BK163 := am (blk_below (zk BK163) hb); replace HB := am (below_step (zb HB) hb); (try clear hb); (try clear hb2); (try clear hk); (try clear hi); (try clear ho0); obtain ⟨Ao14, co14, eo14⟩ := Kd.R_slice HO166.out; subst eo14) | ((with_reducible refine gate_callee (f := 28) rfl ?_); refine goesL_ (some 13) rfl rfl Tryd.func28 (by kernel_rfl) rfl #[.slice Ao14 t164.length co14, .int .i64 1] rfl (by (try simp only [List.map_toArray, List.map_cons, List.map_nil]); first | done | rfl | (simp only [List.length_drop, List.length_take]; rfl)) ?_; (with_reducible refine (spec_l12Word.calls _ _ t164 1 t167 _ ?side1 ?side2 A6.out).mono ?_); (case side1 => exact zc (Kd.R_reads' HO166.out).2.2); (case side2 => exact (Kd.R_reads' HO166.out).2.1); rintro e w15 ⟨rfl, hb⟩; refine ⟨_, rfl, ?_⟩; replace HO166 := am (Kd.R_below (zr HO166) hb); replace BK163 := am (blk_below (zk BK163) hb); replace HB := am (below_step (zb HB) hb); (try clear hb); (try clear hb2); (try clear hk); (try clear hi)) | ((with_reducible refine gate_dst (N := 5) rfl ?_); refine bx 24 #[.int .i64 0, .string (⟨#[]⟩ : ByteArray), .string (⟨#[]⟩ : ByteArray), .int .i64 0, .string (⟨#[]⟩ : ByteArray)] ?_; intro gb168 hg w16 hbox hb; replace HO166 := am (Kd.R_below (zr HO166) hb); have BK168 := am (hbox); have GW168 := am (zn hg (zb HB)); have GE168 := am (zn hg (zb HB)); replace HB := am (below_step (zb HB) hb); have NB163_168 := am (zx hg (zk BK163)); have NB168_163 := am (zy hg (zk BK163)); replace BK163 := am (blk_below (zk BK163) hb); clear hb hbox hg; have hnb17 := NB168_163.out; have hnc17 := NB163_168.out; have hcz18_0 := ce0 BK168; have hcz18_1 := ce1 BK168; have hcz18_2 := ce2 BK168; have hcz18_3 := ce3 BK168; have hcz18_4 := ce4 BK168; have hfz18_0 := bfz BK168 0; have hfz18_1 := bfz BK168 1; have hfz18_2 := bfz BK168 2; have hfz18_3 := bfz BK168 3; have hfz18_4 := bfz BK168 4; have p169 : 0 ≤ (0 : Int) := (by omega); have q169 : 0 < (t164.length : Int) := of_decide_eq_true zl; obtain ⟨ad169, e169, hx169_0⟩ := Kd.at_string (Kd.R_reads' HO166.out).2.2 0 p169 q169; cases e169; have qi169 : (0 < t164.length) = True := eq_true (by omega); (try rw [show ((0 : Int)).toNat = 0 from rfl] at hx169_0); (try rw [Addr.add_zero'] at hx169_0); have hn169_0 : ad169.block ≠ gb168 := Kd.own_blk (Kd.R_ne HO166.out BK168.out (by decide)); have hn169_1 : ad169.block ≠ gb168 := Kd.own_blk (Kd.R_ne HO166.out BK168.out (by decide)); have hn169_2 : ad169.block ≠ gb168 := Kd.own_blk (Kd.R_ne HO166.out BK168.out (by decide)); have hn169_3 : ad169.block ≠ gb168 := Kd.own_blk (Kd.R_ne HO166.out BK168.out (by decide)); have hn169_4 : ad169.block ≠ gb168 := Kd.own_blk (Kd.R_ne HO166.out BK168.out (by decide)); replace hx169_0 := (cell_far (p := ⟨gb168, 0, none⟩) (by first | (rw [add_block]; exact hn169_0) | (show (Addr.add _ _).block ≠ _; rw [add_block]; exact hn169_0) | exact hn169_0) (.int .i64 0)).trans hx169_0; replace hx169_0 := (cell_far (p := ⟨gb168, 1, none⟩) (by first | (rw [add_block]; exact hn169_1) | (show (Addr.add _ _).block ≠ _; rw [add_block]; exact hn169_1) | exact hn169_1) (.string t167)).trans hx169_0; replace hx169_0 := (cell_far (p := ⟨gb168, 2, none⟩) (by first | (rw [add_block]; exact hn169_2) | (show (Addr.add _ _).block ≠ _; rw [add_block]; exact hn169_2) | exact hn169_2) (.string (⟨#[]⟩ : ByteArray))).trans hx169_0; replace hx169_0 := (cell_far (p := ⟨gb168, 3, none⟩) (by first | (rw [add_block]; exact hn169_3) | (show (Addr.add _ _).block ≠ _; rw [add_block]; exact hn169_3) | exact hn169_3) (.int .i64 0)).trans hx169_0; replace hx169_0 := (cell_far (p := ⟨gb168, 4, none⟩) (by first | (rw [add_block]; exact hn169_4) | (show (Addr.add _ _).block ≠ _; rw [add_block]; exact hn169_4) | exact hn169_4) (.string (⟨#[]⟩ : ByteArray))).trans hx169_0; clear hn169_0; clear hn169_1; clear hn169_2; clear hn169_3; clear hn169_4; replace p169 := eq_true p169; replace q169 := eq_true q169) | ((with_reducible refine gate_callee (f := 28) rfl ?_); refine goesL_ (some 22) rfl rfl Tryd.func28 (by kernel_rfl) rfl #[.slice (some ad169) t164.length co14, .int .i64 2] rfl (by (try simp only [List.map_toArray, List.map_cons, List.map_nil]); first | done | rfl | (simp only [List.length_drop, List.length_take]; rfl)) ?_; (with_reducible refine (spec_l12Word.calls _ _ t164 2 t170 _ ?side1 ?side2 A9.out).mono ?_); (case side1 => refine (Kd.R_reads' (e := 9) (base := w.heap.size) (ok := fun k_ => True) (n := t164.length) (c := co14) ?_).2.2; exact (by (with_reducible repeat (first | apply Kd.R_alloc | apply Kd.R_drewN | apply Kd.R_drew)); exact (Kd.R_mono (Kd.R_far (p := ⟨gb168, 0, none⟩) (Kd.R_far (p := ⟨gb168, 4, none⟩) (Kd.R_far (p := ⟨gb168, 3, none⟩) (Kd.R_far (p := ⟨gb168, 2, none⟩) (Kd.R_far (p := ⟨gb168, 1, none⟩) (Kd.R_far (p := ⟨gb168, 0, none⟩) (Kd.R_types HO166.out BK168.out (by decide)) (fun _ hk => hk.2) (.int .i64 0)) (fun _ hk => hk.2) (.string t167)) (fun _ hk => hk.2) (.string (⟨#[]⟩ : ByteArray))) (fun _ hk => hk.2) (.int .i64 0)) (fun _ hk => hk.2) (.string (⟨#[]⟩ : ByteArray))) (fun _ hk => hk.2) (.int .i64 1)) (fun _ h_ => h_.1)))); (case side2 => exact (Kd.R_reads' HO166.out).2.1); rintro e w19 ⟨rfl, hb⟩; refine ⟨_, rfl, ?_⟩; replace HO166 := am (Kd.R_below (by (with_reducible repeat (first | apply Kd.R_alloc | apply Kd.R_drewN | apply Kd.R_drew)); exact (Kd.R_mono (Kd.R_far (p := ⟨gb168, 0, none⟩) (Kd.R_far (p := ⟨gb168, 4, none⟩) (Kd.R_far (p := ⟨gb168, 3, none⟩) (Kd.R_far (p := ⟨gb168, 2, none⟩) (Kd.R_far (p := ⟨gb168, 1, none⟩) (Kd.R_far (p := ⟨gb168, 0, none⟩) (Kd.R_types HO166.out BK168.out (by decide)) (fun _ hk => hk.2) (.int .i64 0)) (fun _ hk => hk.2) (.string t167)) (fun _ hk => hk.2) (.string (⟨#[]⟩ : ByteArray))) (fun _ hk => hk.2) (.int .i64 0)) (fun _ hk => hk.2) (.string (⟨#[]⟩ : ByteArray))) (fun _ hk => hk.2) (.int .i64 1)) (fun _ h_ => h_.1))) hb); replace BK163 := am (blk_below (zk BK163) hb); replace BK168 := am (blk_below (g := gb168) (o := .cells #[.int .i64 1, .string t167, .string (⟨#[]⟩ : ByteArray), .int .i64 0, .string (⟨#[]⟩ : ByteArray)] 24 (0, 0)) (zp BK168) hb); replace HB := am (below_step (zb HB) hb); (try clear hb); (try clear hb2); (try clear hk); (try clear hi)) | ((with_reducible refine gate_callee (f := 29) rfl ?_); refine goesL_ (some 23) rfl rfl Tryd.func29 (by kernel_rfl) rfl #[.string t170] rfl (by (try simp only [List.map_toArray, List.map_cons, List.map_nil]); first | done | rfl | (simp only [List.length_drop, List.length_take]; rfl)) ?_; (with_reducible refine (spec_l12Dec.calls k t170 t171 _ A10.out).mono ?_); rintro e w20 ⟨rfl, hb⟩; refine ⟨_, rfl, ?_⟩; replace HO166 := am (Kd.R_below (zr HO166) hb); replace BK163 := am (blk_below (zk BK163) hb); replace BK168 := am (blk_below (zk BK168) hb); replace HB := am (below_step (zb HB) hb); (try clear hb); (try clear hb2); (try clear hk); (try clear hi); have hcz21_0 := ce0 BK168; have hcz21_1 := ce1 BK168; have hcz21_2 := ce2 BK168; have hcz21_3 := ce3 BK168; have hcz21_4 := ce4 BK168; have hfz21_0 := bfz BK168 0; have hfz21_1 := bfz BK168 1; have hfz21_2 := bfz BK168 2; have hfz21_3 := bfz BK168 3; have hfz21_4 := bfz BK168 4; have hcz22_0 := ce0 BK163; have hcz22_1 := ce1 BK163; have hcz22_2 := ce2 BK163; have hcz22_3 := ce3 BK163; have hcz22_4 := ce4 BK163; have hfz22_0 := bfz BK163 0; have hfz22_1 := bfz BK163 1; have hfz22_2 := bfz BK163 2; have hfz22_3 := bfz BK163 3; have hfz22_4 := bfz BK163 4))
     refine bodyPost_ret (results_ct rfl _ _ gb163 24 #[.int .i64 0, .string (⟨#[]⟩ : ByteArray), .string (⟨#[]⟩ : ByteArray), .int .i64 0, .string (⟨#[]⟩ : ByteArray)] (0, 0) _ rfl (zp BK163) Tryd.underlying24 rfl (by kernel_rfl)) rfl ?_
     exact ⟨zv, (zb HB)⟩
   rw [if_neg c11] at H
   have c11b0 : (a0.toList == ([] : List UInt8)) = false := beq_eq_false_iff_ne.mpr c11
   have c11b1 : (a0.toList != ([] : List UInt8)) = true := bne_iff_ne.mpr c11
   replace H := obs H
   obtain ⟨t172, A230, H⟩ := H
   replace H : (if t172.toList = a0.toList then (some (1, t167, (⟨#[]⟩ : ByteArray), t171, (⟨#[]⟩ : ByteArray), true)) else (some (0, (⟨#[]⟩ : ByteArray), (⟨#[]⟩ : ByteArray), 0, (⟨#[]⟩ : ByteArray), false))) = some (r1, r2, r3, r4, r5, r6) := H
   have A23 := am A230
   clear A230
   by_cases c24 : t172.toList = a0.toList
   · rw [if_pos c24] at H
     have c24b0 : (t172.toList == a0.toList) = true := beq_iff_eq.mpr c24
     have c24b1 : (t172.toList != a0.toList) = false := bne_eq_false_iff_eq.mpr c24
     clear c24
     simp only [Option.some.injEq, Prod.mk.injEq] at H
     obtain ⟨rfl, rfl, rfl, rfl, rfl, rfl⟩ := H
     go_enter Tryd.func13, Tryd.ntmps13
     go_wp2_with (first | ((with_reducible refine gate_dst (N := 2) rfl ?_); refine bx 24 #[.int .i64 0, .string (⟨#[]⟩ : ByteArray), .string (⟨#[]⟩ : ByteArray), .int .i64 0, .string (⟨#[]⟩ : ByteArray)] ?_; intro gb163 hg w25 hbox hb; have BK163 := am (hbox); have GW163 := am (zn hg (zb HB)); have GE163 := am (zn hg (zb HB)); replace HB := am (below_step (zb HB) hb); clear hb hbox hg) | ((with_reducible refine gate_callee (f := 27) rfl ?_); refine goesL_ (some 11) rfl rfl Tryd.func27 (by kernel_rfl) rfl #[.string a0, .int .u8 32] rfl (by (try simp only [List.map_toArray, List.map_cons, List.map_nil]); first | done | rfl | (simp only [List.length_drop, List.length_take]; rfl)) ?_; (with_reducible refine (spec_l12Cut.calls k a0 32 t164 _ A5.out).mono ?_); rintro e w26 ⟨v165, rfl, ho0, hb⟩; refine ⟨_, rfl, ?_⟩; have HO166 := am (Kd.R_lower ho0 (below_size (zb HB))); replace BK163 := am (blk_below (zk BK163) hb); replace HB := am (below_step (zb HB) hb); (try clear hb); (try clear hb2); (try clear hk); (try clear hi); (try clear ho0); obtain ⟨Ao27, co27, eo27⟩ := Kd.R_slice HO166.out; subst eo27) | ((with_reducible refine gate_callee (f := 28) rfl ?_); refine goesL_ (some 13) rfl rfl Tryd.func28 (by kernel_rfl) rfl #[.slice Ao27 t164.length co27, .int .i64 1] rfl (by (try simp only [List.map_toArray, List.map_cons, List.map_nil]); first | done | rfl | (simp only [List.length_drop, List.length_take]; rfl)) ?_; (with_reducible refine (spec_l12Word.calls _ _ t164 1 t167 _ ?side1 ?side2 A6.out).mono ?_); (case side1 => exact zc (Kd.R_reads' HO166.out).2.2); (case side2 => exact (Kd.R_reads' HO166.out).2.1); rintro e w28 ⟨rfl, hb⟩; refine ⟨_, rfl, ?_⟩; replace HO166 := am (Kd.R_below (zr HO166) hb); replace BK163 := am (blk_below (zk BK163) hb); replace HB := am (below_step (zb HB) hb); (try clear hb); (try clear hb2); (try clear hk); (try clear hi)) | ((with_reducible refine gate_dst (N := 5) rfl ?_); refine bx 24 #[.int .i64 0, .string (⟨#[]⟩ : ByteArray), .string (⟨#[]⟩ : ByteArray), .int .i64 0, .string (⟨#[]⟩ : ByteArray)] ?_; intro gb168 hg w29 hbox hb; replace HO166 := am (Kd.R_below (zr HO166) hb); have BK168 := am (hbox); have GW168 := am (zn hg (zb HB)); have GE168 := am (zn hg (zb HB)); replace HB := am (below_step (zb HB) hb); have NB163_168 := am (zx hg (zk BK163)); have NB168_163 := am (zy hg (zk BK163)); replace BK163 := am (blk_below (zk BK163) hb); clear hb hbox hg; have hnb30 := NB168_163.out; have hnc30 := NB163_168.out; have hcz31_0 := ce0 BK168; have hcz31_1 := ce1 BK168; have hcz31_2 := ce2 BK168; have hcz31_3 := ce3 BK168; have hcz31_4 := ce4 BK168; have hfz31_0 := bfz BK168 0; have hfz31_1 := bfz BK168 1; have hfz31_2 := bfz BK168 2; have hfz31_3 := bfz BK168 3; have hfz31_4 := bfz BK168 4; have p169 : 0 ≤ (0 : Int) := (by omega); have q169 : 0 < (t164.length : Int) := of_decide_eq_true zl; obtain ⟨ad169, e169, hx169_0⟩ := Kd.at_string (Kd.R_reads' HO166.out).2.2 0 p169 q169; cases e169; have qi169 : (0 < t164.length) = True := eq_true (by omega); (try rw [show ((0 : Int)).toNat = 0 from rfl] at hx169_0); (try rw [Addr.add_zero'] at hx169_0); have hn169_0 : ad169.block ≠ gb168 := Kd.own_blk (Kd.R_ne HO166.out BK168.out (by decide)); have hn169_1 : ad169.block ≠ gb168 := Kd.own_blk (Kd.R_ne HO166.out BK168.out (by decide)); have hn169_2 : ad169.block ≠ gb168 := Kd.own_blk (Kd.R_ne HO166.out BK168.out (by decide)); have hn169_3 : ad169.block ≠ gb168 := Kd.own_blk (Kd.R_ne HO166.out BK168.out (by decide)); have hn169_4 : ad169.block ≠ gb168 := Kd.own_blk (Kd.R_ne HO166.out BK168.out (by decide)); replace hx169_0 := (cell_far (p := ⟨gb168, 0, none⟩) (by first | (rw [add_block]; exact hn169_0) | (show (Addr.add _ _).block ≠ _; rw [add_block]; exact hn169_0) | exact hn169_0) (.int .i64 0)).trans hx169_0; replace hx169_0 := (cell_far (p := ⟨gb168, 1, none⟩) (by first | (rw [add_block]; exact hn169_1) | (show (Addr.add _ _).block ≠ _; rw [add_block]; exact hn169_1) | exact hn169_1) (.string t167)).trans hx169_0; replace hx169_0 := (cell_far (p := ⟨gb168, 2, none⟩) (by first | (rw [add_block]; exact hn169_2) | (show (Addr.add _ _).block ≠ _; rw [add_block]; exact hn169_2) | exact hn169_2) (.string (⟨#[]⟩ : ByteArray))).trans hx169_0; replace hx169_0 := (cell_far (p := ⟨gb168, 3, none⟩) (by first | (rw [add_block]; exact hn169_3) | (show (Addr.add _ _).block ≠ _; rw [add_block]; exact hn169_3) | exact hn169_3) (.int .i64 0)).trans hx169_0; replace hx169_0 := (cell_far (p := ⟨gb168, 4, none⟩) (by first | (rw [add_block]; exact hn169_4) | (show (Addr.add _ _).block ≠ _; rw [add_block]; exact hn169_4) | exact hn169_4) (.string (⟨#[]⟩ : ByteArray))).trans hx169_0; clear hn169_0; clear hn169_1; clear hn169_2; clear hn169_3; clear hn169_4; replace p169 := eq_true p169; replace q169 := eq_true q169) | ((with_reducible refine gate_callee (f := 28) rfl ?_); refine goesL_ (some 22) rfl rfl Tryd.func28 (by kernel_rfl) rfl #[.slice (some ad169) t164.length co27, .int .i64 2] rfl (by (try simp only [List.map_toArray, List.map_cons, List.map_nil]); first | done | rfl | (simp only [List.length_drop, List.length_take]; rfl)) ?_; (with_reducible refine (spec_l12Word.calls _ _ t164 2 t170 _ ?side1 ?side2 A9.out).mono ?_); (case side1 => refine (Kd.R_reads' (e := 9) (base := w.heap.size) (ok := fun k_ => True) (n := t164.length) (c := co27) ?_).2.2; exact (by (with_reducible repeat (first | apply Kd.R_alloc | apply Kd.R_drewN | apply Kd.R_drew)); exact (Kd.R_mono (Kd.R_far (p := ⟨gb168, 0, none⟩) (Kd.R_far (p := ⟨gb168, 4, none⟩) (Kd.R_far (p := ⟨gb168, 3, none⟩) (Kd.R_far (p := ⟨gb168, 2, none⟩) (Kd.R_far (p := ⟨gb168, 1, none⟩) (Kd.R_far (p := ⟨gb168, 0, none⟩) (Kd.R_types HO166.out BK168.out (by decide)) (fun _ hk => hk.2) (.int .i64 0)) (fun _ hk => hk.2) (.string t167)) (fun _ hk => hk.2) (.string (⟨#[]⟩ : ByteArray))) (fun _ hk => hk.2) (.int .i64 0)) (fun _ hk => hk.2) (.string (⟨#[]⟩ : ByteArray))) (fun _ hk => hk.2) (.int .i64 1)) (fun _ h_ => h_.1)))); (case side2 => exact (Kd.R_reads' HO166.out).2.1); rintro e w32 ⟨rfl, hb⟩; refine ⟨_, rfl, ?_⟩; replace HO166 := am (Kd.R_below (by (with_reducible repeat (first | apply Kd.R_alloc | apply Kd.R_drewN | apply Kd.R_drew)); exact (Kd.R_mono (Kd.R_far (p := ⟨gb168, 0, none⟩) (Kd.R_far (p := ⟨gb168, 4, none⟩) (Kd.R_far (p := ⟨gb168, 3, none⟩) (Kd.R_far (p := ⟨gb168, 2, none⟩) (Kd.R_far (p := ⟨gb168, 1, none⟩) (Kd.R_far (p := ⟨gb168, 0, none⟩) (Kd.R_types HO166.out BK168.out (by decide)) (fun _ hk => hk.2) (.int .i64 0)) (fun _ hk => hk.2) (.string t167)) (fun _ hk => hk.2) (.string (⟨#[]⟩ : ByteArray))) (fun _ hk => hk.2) (.int .i64 0)) (fun _ hk => hk.2) (.string (⟨#[]⟩ : ByteArray))) (fun _ hk => hk.2) (.int .i64 1)) (fun _ h_ => h_.1))) hb); replace BK163 := am (blk_below (zk BK163) hb); replace BK168 := am (blk_below (g := gb168) (o := .cells #[.int .i64 1, .string t167, .string (⟨#[]⟩ : ByteArray), .int .i64 0, .string (⟨#[]⟩ : ByteArray)] 24 (0, 0)) (zp BK168) hb); replace HB := am (below_step (zb HB) hb); (try clear hb); (try clear hb2); (try clear hk); (try clear hi)) | ((with_reducible refine gate_callee (f := 29) rfl ?_); refine goesL_ (some 23) rfl rfl Tryd.func29 (by kernel_rfl) rfl #[.string t170] rfl (by (try simp only [List.map_toArray, List.map_cons, List.map_nil]); first | done | rfl | (simp only [List.length_drop, List.length_take]; rfl)) ?_; (with_reducible refine (spec_l12Dec.calls k t170 t171 _ A10.out).mono ?_); rintro e w33 ⟨rfl, hb⟩; refine ⟨_, rfl, ?_⟩; replace HO166 := am (Kd.R_below (zr HO166) hb); replace BK163 := am (blk_below (zk BK163) hb); replace BK168 := am (blk_below (zk BK168) hb); replace HB := am (below_step (zb HB) hb); (try clear hb); (try clear hb2); (try clear hk); (try clear hi); have hcz34_0 := ce0 BK168; have hcz34_1 := ce1 BK168; have hcz34_2 := ce2 BK168; have hcz34_3 := ce3 BK168; have hcz34_4 := ce4 BK168; have hfz34_0 := bfz BK168 0; have hfz34_1 := bfz BK168 1; have hfz34_2 := bfz BK168 2; have hfz34_3 := bfz BK168 3; have hfz34_4 := bfz BK168 4) | (go_at_call 11; (with_reducible refine (spec_OpText.calls k 1 t167 (⟨#[]⟩ : ByteArray) t171 (⟨#[]⟩ : ByteArray) t172 _ A23.out).mono ?_); rintro e w35 ⟨rfl, hb⟩; replace HO166 := am (Kd.R_below (rf HO166 BK168) hb); replace BK163 := am (blk_below (zk BK163) hb); replace BK168 := am (blk_below (g := gb168) (o := .cells #[.int .i64 1, .string t167, .string (⟨#[]⟩ : ByteArray), .int .i64 t171, .string (⟨#[]⟩ : ByteArray)] 24 (0, 0)) (zp BK168) hb); replace HB := am (below_step (zb HB) hb); (try clear hb); (try clear hb2); (try clear hk); (try clear hi); have hcz36_0 := ce0 BK168; have hcz36_1 := ce1 BK168; have hcz36_2 := ce2 BK168; have hcz36_3 := ce3 BK168; have hcz36_4 := ce4 BK168; have hfz36_0 := bfz BK168 0; have hfz36_1 := bfz BK168 1; have hfz36_2 := bfz BK168 2; have hfz36_3 := bfz BK168 3; have hfz36_4 := bfz BK168 4; have hcz37_0 := ce0 BK163; have hcz37_1 := ce1 BK163; have hcz37_2 := ce2 BK163; have hcz37_3 := ce3 BK163; have hcz37_4 := ce4 BK163; have hfz37_0 := bfz BK163 0; have hfz37_1 := bfz BK163 1; have hfz37_2 := bfz BK163 2; have hfz37_3 := bfz BK163 3; have hfz37_4 := bfz BK163 4))
     refine bodyPost_ret (results_ct rfl _ _ gb163 24 #[.int .i64 1, .string t167, .string (⟨#[]⟩ : ByteArray), .int .i64 t171, .string (⟨#[]⟩ : ByteArray)] (0, 0) _ rfl (zp BK163) Tryd.underlying24 rfl (by kernel_rfl)) rfl ?_
     exact ⟨zv, (zb HB)⟩
   rw [if_neg c24] at H
   have c24b0 : (t172.toList == a0.toList) = false := beq_eq_false_iff_ne.mpr c24
   have c24b1 : (t172.toList != a0.toList) = true := bne_iff_ne.mpr c24
   simp only [Option.some.injEq, Prod.mk.injEq] at H
   obtain ⟨rfl, rfl, rfl, rfl, rfl, rfl⟩ := H
   go_enter Tryd.func13, Tryd.ntmps13
   go_wp2_with (first | ((with_reducible refine gate_dst (N := 2) rfl ?_); refine bx 24 #[.int .i64 0, .string (⟨#[]⟩ : ByteArray), .string (⟨#[]⟩ : ByteArray), .int .i64 0, .string (⟨#[]⟩ : ByteArray)] ?_; intro gb163 hg w38 hbox hb; have BK163 := am (hbox); have GW163 := am (zn hg (zb HB)); have GE163 := am (zn hg (zb HB)); replace HB := am (below_step (zb HB) hb); clear hb hbox hg) | ((with_reducible refine gate_callee (f := 27) rfl ?_); refine goesL_ (some 11) rfl rfl Tryd.func27 (by kernel_rfl) rfl #[.string a0, .int .u8 32] rfl (by (try simp only [List.map_toArray, List.map_cons, List.map_nil]); first | done | rfl | (simp only [List.length_drop, List.length_take]; rfl)) ?_; (with_reducible refine (spec_l12Cut.calls k a0 32 t164 _ A5.out).mono ?_); rintro e w39 ⟨v165, rfl, ho0, hb⟩; refine ⟨_, rfl, ?_⟩; have HO166 := am (Kd.R_lower ho0 (below_size (zb HB))); replace BK163 := am (blk_below (zk BK163) hb); replace HB := am (below_step (zb HB) hb); (try clear hb); (try clear hb2); (try clear hk); (try clear hi); (try clear ho0); obtain ⟨Ao40, co40, eo40⟩ := Kd.R_slice HO166.out; subst eo40) | ((with_reducible refine gate_callee (f := 28) rfl ?_); refine goesL_ (some 13) rfl rfl Tryd.func28 (by kernel_rfl) rfl #[.slice Ao40 t164.length co40, .int .i64 1] rfl (by (try simp only [List.map_toArray, List.map_cons, List.map_nil]); first | done | rfl | (simp only [List.length_drop, List.length_take]; rfl)) ?_; (with_reducible refine (spec_l12Word.calls _ _ t164 1 t167 _ ?side1 ?side2 A6.out).mono ?_); (case side1 => exact zc (Kd.R_reads' HO166.out).2.2); (case side2 => exact (Kd.R_reads' HO166.out).2.1); rintro e w41 ⟨rfl, hb⟩; refine ⟨_, rfl, ?_⟩; replace HO166 := am (Kd.R_below (zr HO166) hb); replace BK163 := am (blk_below (zk BK163) hb); replace HB := am (below_step (zb HB) hb); (try clear hb); (try clear hb2); (try clear hk); (try clear hi)) | ((with_reducible refine gate_dst (N := 5) rfl ?_); refine bx 24 #[.int .i64 0, .string (⟨#[]⟩ : ByteArray), .string (⟨#[]⟩ : ByteArray), .int .i64 0, .string (⟨#[]⟩ : ByteArray)] ?_; intro gb168 hg w42 hbox hb; replace HO166 := am (Kd.R_below (zr HO166) hb); have BK168 := am (hbox); have GW168 := am (zn hg (zb HB)); have GE168 := am (zn hg (zb HB)); replace HB := am (below_step (zb HB) hb); have NB163_168 := am (zx hg (zk BK163)); have NB168_163 := am (zy hg (zk BK163)); replace BK163 := am (blk_below (zk BK163) hb); clear hb hbox hg; have hnb43 := NB168_163.out; have hnc43 := NB163_168.out; have hcz44_0 := ce0 BK168; have hcz44_1 := ce1 BK168; have hcz44_2 := ce2 BK168; have hcz44_3 := ce3 BK168; have hcz44_4 := ce4 BK168; have hfz44_0 := bfz BK168 0; have hfz44_1 := bfz BK168 1; have hfz44_2 := bfz BK168 2; have hfz44_3 := bfz BK168 3; have hfz44_4 := bfz BK168 4; have p169 : 0 ≤ (0 : Int) := (by omega); have q169 : 0 < (t164.length : Int) := of_decide_eq_true zl; obtain ⟨ad169, e169, hx169_0⟩ := Kd.at_string (Kd.R_reads' HO166.out).2.2 0 p169 q169; cases e169; have qi169 : (0 < t164.length) = True := eq_true (by omega); (try rw [show ((0 : Int)).toNat = 0 from rfl] at hx169_0); (try rw [Addr.add_zero'] at hx169_0); have hn169_0 : ad169.block ≠ gb168 := Kd.own_blk (Kd.R_ne HO166.out BK168.out (by decide)); have hn169_1 : ad169.block ≠ gb168 := Kd.own_blk (Kd.R_ne HO166.out BK168.out (by decide)); have hn169_2 : ad169.block ≠ gb168 := Kd.own_blk (Kd.R_ne HO166.out BK168.out (by decide)); have hn169_3 : ad169.block ≠ gb168 := Kd.own_blk (Kd.R_ne HO166.out BK168.out (by decide)); have hn169_4 : ad169.block ≠ gb168 := Kd.own_blk (Kd.R_ne HO166.out BK168.out (by decide)); replace hx169_0 := (cell_far (p := ⟨gb168, 0, none⟩) (by first | (rw [add_block]; exact hn169_0) | (show (Addr.add _ _).block ≠ _; rw [add_block]; exact hn169_0) | exact hn169_0) (.int .i64 0)).trans hx169_0; replace hx169_0 := (cell_far (p := ⟨gb168, 1, none⟩) (by first | (rw [add_block]; exact hn169_1) | (show (Addr.add _ _).block ≠ _; rw [add_block]; exact hn169_1) | exact hn169_1) (.string t167)).trans hx169_0; replace hx169_0 := (cell_far (p := ⟨gb168, 2, none⟩) (by first | (rw [add_block]; exact hn169_2) | (show (Addr.add _ _).block ≠ _; rw [add_block]; exact hn169_2) | exact hn169_2) (.string (⟨#[]⟩ : ByteArray))).trans hx169_0; replace hx169_0 := (cell_far (p := ⟨gb168, 3, none⟩) (by first | (rw [add_block]; exact hn169_3) | (show (Addr.add _ _).block ≠ _; rw [add_block]; exact hn169_3) | exact hn169_3) (.int .i64 0)).trans hx169_0; replace hx169_0 := (cell_far (p := ⟨gb168, 4, none⟩) (by first | (rw [add_block]; exact hn169_4) | (show (Addr.add _ _).block ≠ _; rw [add_block]; exact hn169_4) | exact hn169_4) (.string (⟨#[]⟩ : ByteArray))).trans hx169_0; clear hn169_0; clear hn169_1; clear hn169_2; clear hn169_3; clear hn169_4; replace p169 := eq_true p169; replace q169 := eq_true q169) | ((with_reducible refine gate_callee (f := 28) rfl ?_); refine goesL_ (some 22) rfl rfl Tryd.func28 (by kernel_rfl) rfl #[.slice (some ad169) t164.length co40, .int .i64 2] rfl (by (try simp only [List.map_toArray, List.map_cons, List.map_nil]); first | done | rfl | (simp only [List.length_drop, List.length_take]; rfl)) ?_; (with_reducible refine (spec_l12Word.calls _ _ t164 2 t170 _ ?side1 ?side2 A9.out).mono ?_); (case side1 => refine (Kd.R_reads' (e := 9) (base := w.heap.size) (ok := fun k_ => True) (n := t164.length) (c := co40) ?_).2.2; exact (by (with_reducible repeat (first | apply Kd.R_alloc | apply Kd.R_drewN | apply Kd.R_drew)); exact (Kd.R_mono (Kd.R_far (p := ⟨gb168, 0, none⟩) (Kd.R_far (p := ⟨gb168, 4, none⟩) (Kd.R_far (p := ⟨gb168, 3, none⟩) (Kd.R_far (p := ⟨gb168, 2, none⟩) (Kd.R_far (p := ⟨gb168, 1, none⟩) (Kd.R_far (p := ⟨gb168, 0, none⟩) (Kd.R_types HO166.out BK168.out (by decide)) (fun _ hk => hk.2) (.int .i64 0)) (fun _ hk => hk.2) (.string t167)) (fun _ hk => hk.2) (.string (⟨#[]⟩ : ByteArray))) (fun _ hk => hk.2) (.int .i64 0)) (fun _ hk => hk.2) (.string (⟨#[]⟩ : ByteArray))) (fun _ hk => hk.2) (.int .i64 1)) (fun _ h_ => h_.1)))); (case side2 => exact (Kd.R_reads' HO166.out).2.1); rintro e w45 ⟨rfl, hb⟩; refine ⟨_, rfl, ?_⟩; replace HO166 := am (Kd.R_below (by (with_reducible repeat (first | apply Kd.R_alloc | apply Kd.R_drewN | apply Kd.R_drew)); exact (Kd.R_mono (Kd.R_far (p := ⟨gb168, 0, none⟩) (Kd.R_far (p := ⟨gb168, 4, none⟩) (Kd.R_far (p := ⟨gb168, 3, none⟩) (Kd.R_far (p := ⟨gb168, 2, none⟩) (Kd.R_far (p := ⟨gb168, 1, none⟩) (Kd.R_far (p := ⟨gb168, 0, none⟩) (Kd.R_types HO166.out BK168.out (by decide)) (fun _ hk => hk.2) (.int .i64 0)) (fun _ hk => hk.2) (.string t167)) (fun _ hk => hk.2) (.string (⟨#[]⟩ : ByteArray))) (fun _ hk => hk.2) (.int .i64 0)) (fun _ hk => hk.2) (.string (⟨#[]⟩ : ByteArray))) (fun _ hk => hk.2) (.int .i64 1)) (fun _ h_ => h_.1))) hb); replace BK163 := am (blk_below (zk BK163) hb); replace BK168 := am (blk_below (g := gb168) (o := .cells #[.int .i64 1, .string t167, .string (⟨#[]⟩ : ByteArray), .int .i64 0, .string (⟨#[]⟩ : ByteArray)] 24 (0, 0)) (zp BK168) hb); replace HB := am (below_step (zb HB) hb); (try clear hb); (try clear hb2); (try clear hk); (try clear hi)) | ((with_reducible refine gate_callee (f := 29) rfl ?_); refine goesL_ (some 23) rfl rfl Tryd.func29 (by kernel_rfl) rfl #[.string t170] rfl (by (try simp only [List.map_toArray, List.map_cons, List.map_nil]); first | done | rfl | (simp only [List.length_drop, List.length_take]; rfl)) ?_; (with_reducible refine (spec_l12Dec.calls k t170 t171 _ A10.out).mono ?_); rintro e w46 ⟨rfl, hb⟩; refine ⟨_, rfl, ?_⟩; replace HO166 := am (Kd.R_below (zr HO166) hb); replace BK163 := am (blk_below (zk BK163) hb); replace BK168 := am (blk_below (zk BK168) hb); replace HB := am (below_step (zb HB) hb); (try clear hb); (try clear hb2); (try clear hk); (try clear hi); have hcz47_0 := ce0 BK168; have hcz47_1 := ce1 BK168; have hcz47_2 := ce2 BK168; have hcz47_3 := ce3 BK168; have hcz47_4 := ce4 BK168; have hfz47_0 := bfz BK168 0; have hfz47_1 := bfz BK168 1; have hfz47_2 := bfz BK168 2; have hfz47_3 := bfz BK168 3; have hfz47_4 := bfz BK168 4) | (go_at_call 11; (with_reducible refine (spec_OpText.calls k 1 t167 (⟨#[]⟩ : ByteArray) t171 (⟨#[]⟩ : ByteArray) t172 _ A23.out).mono ?_); rintro e w48 ⟨rfl, hb⟩; replace HO166 := am (Kd.R_below (rf HO166 BK168) hb); replace BK163 := am (blk_below (zk BK163) hb); replace BK168 := am (blk_below (g := gb168) (o := .cells #[.int .i64 1, .string t167, .string (⟨#[]⟩ : ByteArray), .int .i64 t171, .string (⟨#[]⟩ : ByteArray)] 24 (0, 0)) (zp BK168) hb); replace HB := am (below_step (zb HB) hb); (try clear hb); (try clear hb2); (try clear hk); (try clear hi); have hcz49_0 := ce0 BK163; have hcz49_1 := ce1 BK163; have hcz49_2 := ce2 BK163; have hcz49_3 := ce3 BK163; have hcz49_4 := ce4 BK163; have hfz49_0 := bfz BK163 0; have hfz49_1 := bfz BK163 1; have hfz49_2 := bfz BK163 2; have hfz49_3 := bfz BK163 3; have hfz49_4 := bfz BK163 4))
   refine bodyPost_ret (results_ct rfl _ _ gb163 24 #[.int .i64 0, .string (⟨#[]⟩ : ByteArray), .string (⟨#[]⟩ : ByteArray), .int .i64 0, .string (⟨#[]⟩ : ByteArray)] (0, 0) _ rfl (zp BK163) Tryd.underlying24 rfl (by kernel_rfl)) rfl ?_
   exact ⟨zv, (zb HB)⟩
 rw [if_neg c8] at H
 have c8b0 : ((rdOf ByteArray.empty t164 0).toList == ([109, 97, 107, 101] : List UInt8)) = false := beq_eq_false_iff_ne.mpr c8
 have c8b1 : ((rdOf ByteArray.empty t164 0).toList != ([109, 97, 107, 101] : List UInt8)) = true := bne_iff_ne.mpr c8
 have HC50 := am H
 clear H
 go_enter Tryd.func13, Tryd.ntmps13
 go_upto_if 25 with (first | ((with_reducible refine gate_dst (N := 2) rfl ?_); refine bx 24 #[.int .i64 0, .string (⟨#[]⟩ : ByteArray), .string (⟨#[]⟩ : ByteArray), .int .i64 0, .string (⟨#[]⟩ : ByteArray)] ?_; intro gb163 hg w51 hbox hb; have BK163 := am (hbox); have GW163 := am (zn hg (zb HB)); have GE163 := am (zn hg (zb HB)); replace HB := am (below_step (zb HB) hb); clear hb hbox hg) | ((with_reducible refine gate_callee (f := 27) rfl ?_); refine goesL_ (some 11) rfl rfl Tryd.func27 (by kernel_rfl) rfl #[.string a0, .int .u8 32] rfl (by (try simp only [List.map_toArray, List.map_cons, List.map_nil]); first | done | rfl | (simp only [List.length_drop, List.length_take]; rfl)) ?_; (with_reducible refine (spec_l12Cut.calls k a0 32 t164 _ A5.out).mono ?_); rintro e w52 ⟨v165, rfl, ho0, hb⟩; refine ⟨_, rfl, ?_⟩; have HO166 := am (Kd.R_lower ho0 (below_size (zb HB))); replace BK163 := am (blk_below (zk BK163) hb); replace HB := am (below_step (zb HB) hb); (try clear hb); (try clear hb2); (try clear hk); (try clear hi); (try clear ho0); obtain ⟨Ao53, co53, eo53⟩ := Kd.R_slice HO166.out; subst eo53) | ((with_reducible refine gate_callee (f := 28) rfl ?_); refine goesL_ (some 13) rfl rfl Tryd.func28 (by kernel_rfl) rfl #[.slice Ao53 t164.length co53, .int .i64 1] rfl (by (try simp only [List.map_toArray, List.map_cons, List.map_nil]); first | done | rfl | (simp only [List.length_drop, List.length_take]; rfl)) ?_; (with_reducible refine (spec_l12Word.calls _ _ t164 1 t167 _ ?side1 ?side2 A6.out).mono ?_); (case side1 => exact zc (Kd.R_reads' HO166.out).2.2); (case side2 => exact (Kd.R_reads' HO166.out).2.1); rintro e w54 ⟨rfl, hb⟩; refine ⟨_, rfl, ?_⟩; replace HO166 := am (Kd.R_below (zr HO166) hb); replace BK163 := am (blk_below (zk BK163) hb); replace HB := am (below_step (zb HB) hb); (try clear hb); (try clear hb2); (try clear hk); (try clear hi)) | ((with_reducible refine gate_dst (N := 5) rfl ?_); refine bx 24 #[.int .i64 0, .string (⟨#[]⟩ : ByteArray), .string (⟨#[]⟩ : ByteArray), .int .i64 0, .string (⟨#[]⟩ : ByteArray)] ?_; intro gb168 hg w55 hbox hb; replace HO166 := am (Kd.R_below (zr HO166) hb); have BK168 := am (hbox); have GW168 := am (zn hg (zb HB)); have GE168 := am (zn hg (zb HB)); replace HB := am (below_step (zb HB) hb); have NB163_168 := am (zx hg (zk BK163)); have NB168_163 := am (zy hg (zk BK163)); replace BK163 := am (blk_below (zk BK163) hb); clear hb hbox hg; have hnb56 := NB168_163.out; have hnc56 := NB163_168.out; have hcz57_0 := ce0 BK168; have hcz57_1 := ce1 BK168; have hcz57_2 := ce2 BK168; have hcz57_3 := ce3 BK168; have hcz57_4 := ce4 BK168; have hfz57_0 := bfz BK168 0; have hfz57_1 := bfz BK168 1; have hfz57_2 := bfz BK168 2; have hfz57_3 := bfz BK168 3; have hfz57_4 := bfz BK168 4; have p169 : 0 ≤ (0 : Int) := (by omega); have q169 : 0 < (t164.length : Int) := of_decide_eq_true zl; obtain ⟨ad169, e169, hx169_0⟩ := Kd.at_string (Kd.R_reads' HO166.out).2.2 0 p169 q169; cases e169; have qi169 : (0 < t164.length) = True := eq_true (by omega); (try rw [show ((0 : Int)).toNat = 0 from rfl] at hx169_0); (try rw [Addr.add_zero'] at hx169_0); have hn169_0 : ad169.block ≠ gb168 := Kd.own_blk (Kd.R_ne HO166.out BK168.out (by decide)); have hn169_1 : ad169.block ≠ gb168 := Kd.own_blk (Kd.R_ne HO166.out BK168.out (by decide)); have hn169_2 : ad169.block ≠ gb168 := Kd.own_blk (Kd.R_ne HO166.out BK168.out (by decide)); have hn169_3 : ad169.block ≠ gb168 := Kd.own_blk (Kd.R_ne HO166.out BK168.out (by decide)); have hn169_4 : ad169.block ≠ gb168 := Kd.own_blk (Kd.R_ne HO166.out BK168.out (by decide)); replace hx169_0 := (cell_far (p := ⟨gb168, 0, none⟩) (by first | (rw [add_block]; exact hn169_0) | (show (Addr.add _ _).block ≠ _; rw [add_block]; exact hn169_0) | exact hn169_0) (.int .i64 0)).trans hx169_0; replace hx169_0 := (cell_far (p := ⟨gb168, 1, none⟩) (by first | (rw [add_block]; exact hn169_1) | (show (Addr.add _ _).block ≠ _; rw [add_block]; exact hn169_1) | exact hn169_1) (.string t167)).trans hx169_0; replace hx169_0 := (cell_far (p := ⟨gb168, 2, none⟩) (by first | (rw [add_block]; exact hn169_2) | (show (Addr.add _ _).block ≠ _; rw [add_block]; exact hn169_2) | exact hn169_2) (.string (⟨#[]⟩ : ByteArray))).trans hx169_0; replace hx169_0 := (cell_far (p := ⟨gb168, 3, none⟩) (by first | (rw [add_block]; exact hn169_3) | (show (Addr.add _ _).block ≠ _; rw [add_block]; exact hn169_3) | exact hn169_3) (.int .i64 0)).trans hx169_0; replace hx169_0 := (cell_far (p := ⟨gb168, 4, none⟩) (by first | (rw [add_block]; exact hn169_4) | (show (Addr.add _ _).block ≠ _; rw [add_block]; exact hn169_4) | exact hn169_4) (.string (⟨#[]⟩ : ByteArray))).trans hx169_0; clear hn169_0; clear hn169_1; clear hn169_2; clear hn169_3; clear hn169_4; replace p169 := eq_true p169; replace q169 := eq_true q169))
 (try simp only [Act.put, List.setIfInBounds_toArray, List.set_cons_zero, List.set_cons_succ])
 go_cut [25] (fun v25 wc => ∃ (kq : Nat) (x25_49 : Bool), v25 = .bool x25_49 ∧ Aside0 (spec_OpRead.j0 kq a0 t164 (rdOf ByteArray.empty t164 0) x25_49 0 t167 (⟨#[]⟩ : ByteArray) 0 (⟨#[]⟩ : ByteArray) = some (r1, r2, r3, r4, r5, r6)) ∧ Aside0 (kq ≤ k) ∧ Aside0 (Kd.R Kd.string 9 wc w.heap.size (fun _ => True) (.slice (some ad169) t164.length co53) t164) ∧ Aside0 (wc.heap[gb163]? = some (.cells #[.int .i64 0, .string (⟨#[]⟩ : ByteArray), .string (⟨#[]⟩ : ByteArray), .int .i64 0, .string (⟨#[]⟩ : ByteArray)] 24 (0, 0))) ∧ Aside0 (wc.heap[gb168]? = some (.cells #[.int .i64 0, .string t167, .string (⟨#[]⟩ : ByteArray), .int .i64 0, .string (⟨#[]⟩ : ByteArray)] 24 (0, 0))) ∧ Aside0 (Below w.heap.size w wc))
 case first =>
  have H := HC50.out
  clear HC50
  by_cases c58 : (rdOf ByteArray.empty t164 0).toList = ([102, 114, 101, 101] : List UInt8)
  · rw [if_pos c58] at H
    have c58b0 : ((rdOf ByteArray.empty t164 0).toList == ([102, 114, 101, 101] : List UInt8)) = true := beq_iff_eq.mpr c58
    have c58b1 : ((rdOf ByteArray.empty t164 0).toList != ([102, 114, 101, 101] : List UInt8)) = false := bne_eq_false_iff_eq.mpr c58
    clear c58
    (first | rw [c58b0] | (simp only [i64_w, i32_w]; rw [c58b0]) | skip)
    have H' := am H
    clear H
    go_wp2
    go_meet
    case rel => exact ⟨_, (((rdOf ByteArray.empty t164 0).toList == ([102, 114, 101, 101] : List UInt8))), ze, H', ⟨by first | omega | exact Nat.le_refl _⟩, ⟨by (with_reducible repeat (first | apply Kd.R_alloc | apply Kd.R_drewN | apply Kd.R_drew)); exact Kd.R_mono (Kd.R_far (p := ⟨gb168, 4, none⟩) (Kd.R_far (p := ⟨gb168, 3, none⟩) (Kd.R_far (p := ⟨gb168, 2, none⟩) (Kd.R_far (p := ⟨gb168, 1, none⟩) (Kd.R_far (p := ⟨gb168, 0, none⟩) (Kd.R_types HO166.out BK168.out (by decide)) (fun _ hk => by first | exact hk.2 | trivial) (.int .i64 0)) (fun _ hk => by first | exact hk.2 | trivial) (.string t167)) (fun _ hk => by first | exact hk.2 | trivial) (.string (⟨#[]⟩ : ByteArray))) (fun _ hk => by first | exact hk.2 | trivial) (.int .i64 0)) (fun _ hk => by first | exact hk.2 | trivial) (.string (⟨#[]⟩ : ByteArray))) (fun _ hk => trivial)⟩, ⟨zk BK163⟩, ⟨zp BK168⟩, ⟨zb HB⟩⟩
  rw [if_neg c58] at H
  have c58b0 : ((rdOf ByteArray.empty t164 0).toList == ([102, 114, 101, 101] : List UInt8)) = false := beq_eq_false_iff_ne.mpr c58
  have c58b1 : ((rdOf ByteArray.empty t164 0).toList != ([102, 114, 101, 101] : List UInt8)) = true := bne_iff_ne.mpr c58
  (first | rw [c58b0] | (simp only [i64_w, i32_w]; rw [c58b0]) | skip)
  have H' := am H
  clear H
  go_wp2
  go_meet
  case rel => exact ⟨_, (((rdOf ByteArray.empty t164 0).toList == ([119, 114, 105, 116, 101] : List UInt8))), ze, H', ⟨by first | omega | exact Nat.le_refl _⟩, ⟨by (with_reducible repeat (first | apply Kd.R_alloc | apply Kd.R_drewN | apply Kd.R_drew)); exact Kd.R_mono (Kd.R_far (p := ⟨gb168, 4, none⟩) (Kd.R_far (p := ⟨gb168, 3, none⟩) (Kd.R_far (p := ⟨gb168, 2, none⟩) (Kd.R_far (p := ⟨gb168, 1, none⟩) (Kd.R_far (p := ⟨gb168, 0, none⟩) (Kd.R_types HO166.out BK168.out (by decide)) (fun _ hk => by first | exact hk.2 | trivial) (.int .i64 0)) (fun _ hk => by first | exact hk.2 | trivial) (.string t167)) (fun _ hk => by first | exact hk.2 | trivial) (.string (⟨#[]⟩ : ByteArray))) (fun _ hk => by first | exact hk.2 | trivial) (.int .i64 0)) (fun _ hk => by first | exact hk.2 | trivial) (.string (⟨#[]⟩ : ByteArray))) (fun _ hk => trivial)⟩, ⟨zk BK163⟩, ⟨zp BK168⟩, ⟨zb HB⟩⟩
 clear HC50
 try clear c1
 try clear p1
 try clear q1
 try clear hx1
 try clear qi1
 try clear c2
 try clear c2b0
 try clear c2b1
 try clear p2
 try clear c3
 try clear c4
 try clear c5
 try clear c7
 try clear c7b0
 try clear c7b1
 try clear c8
 try clear c8b0
 try clear c8b1
 try clear c11
 try clear c11b0
 try clear c11b1
 try clear c13
 try clear p16
 try clear q16
 try clear hx16
 try clear qi16
 try clear c17
 try clear c24
 try clear c24b0
 try clear c24b1
 try clear c27
 try clear c28
 try clear c29
 try clear c30
 try clear c43
 try clear c56
 try clear c58
 try clear c58b0
 try clear c58b1
 try clear hcz18_0
 try clear hcz18_1
 try clear hcz18_2
 try clear hcz18_3
 try clear hcz18_4
 try clear hcz21_0
 try clear hcz21_1
 try clear hcz21_2
 try clear hcz21_3
 try clear hcz21_4
 try clear hcz22_0
 try clear hcz22_1
 try clear hcz22_2
 try clear hcz22_3
 try clear hcz22_4
 try clear hcz31_0
 try clear hcz31_1
 try clear hcz31_2
 try clear hcz31_3
 try clear hcz31_4
 try clear hcz34_0
 try clear hcz34_1
 try clear hcz34_2
 try clear hcz34_3
 try clear hcz34_4
 try clear hcz36_0
 try clear hcz36_1
 try clear hcz36_2
 try clear hcz36_3
 try clear hcz36_4
 try clear hcz37_0
 try clear hcz37_1
 try clear hcz37_2
 try clear hcz37_3
 try clear hcz37_4
 try clear hcz44_0
 try clear hcz44_1
 try clear hcz44_2
 try clear hcz44_3
 try clear hcz44_4
 try clear hcz47_0
 try clear hcz47_1
 try clear hcz47_2
 try clear hcz47_3
 try clear hcz47_4
 try clear hcz49_0
 try clear hcz49_1
 try clear hcz49_2
 try clear hcz49_3
 try clear hcz49_4
 try clear hcz4_0
 try clear hcz4_1
 try clear hcz4_2
 try clear hcz4_3
 try clear hcz4_4
 try clear hcz57_0
 try clear hcz57_1
 try clear hcz57_2
 try clear hcz57_3
 try clear hcz57_4
 try clear hfz18_0
 try clear hfz18_1
 try clear hfz18_2
 try clear hfz18_3
 try clear hfz18_4
 try clear hfz21_0
 try clear hfz21_1
 try clear hfz21_2
 try clear hfz21_3
 try clear hfz21_4
 try clear hfz22_0
 try clear hfz22_1
 try clear hfz22_2
 try clear hfz22_3
 try clear hfz22_4
 try clear hfz31_0
 try clear hfz31_1
 try clear hfz31_2
 try clear hfz31_3
 try clear hfz31_4
 try clear hfz34_0
 try clear hfz34_1
 try clear hfz34_2
 try clear hfz34_3
 try clear hfz34_4
 try clear hfz36_0
 try clear hfz36_1
 try clear hfz36_2
 try clear hfz36_3
 try clear hfz36_4
 try clear hfz37_0
 try clear hfz37_1
 try clear hfz37_2
 try clear hfz37_3
 try clear hfz37_4
 try clear hfz44_0
 try clear hfz44_1
 try clear hfz44_2
 try clear hfz44_3
 try clear hfz44_4
 try clear hfz47_0
 try clear hfz47_1
 try clear hfz47_2
 try clear hfz47_3
 try clear hfz47_4
 try clear hfz49_0
 try clear hfz49_1
 try clear hfz49_2
 try clear hfz49_3
 try clear hfz49_4
 try clear hfz4_0
 try clear hfz4_1
 try clear hfz4_2
 try clear hfz4_3
 try clear hfz4_4
 try clear hfz57_0
 try clear hfz57_1
 try clear hfz57_2
 try clear hfz57_3
 try clear hfz57_4
 try clear hx169_0
 try clear p169
 try clear q169
 obtain ⟨kq, x25_49, rfl, HA, HJ49, HO_4, BK163, BK168, HB⟩ := hcut
 cases kq with
 | zero => exact absurd HA.out (by simp [spec_OpRead.j0])
 | succ kj49 =>
  have H := HA.out
  clear HA
  simp only [spec_OpRead.j0] at H
  by_cases c59 : x25_49 = true
  · subst c59
    have H1 : ((spec_l12Word.f t164 2).bind fun t173 => ((spec_l12Dec.f kj49 t173).bind fun t174 => ((spec_l12Word.f t164 3).bind fun t175 => (if a0.toList = ([] : List UInt8) then (some (0, (⟨#[]⟩ : ByteArray), (⟨#[]⟩ : ByteArray), 0, (⟨#[]⟩ : ByteArray), false)) else ((spec_OpText.f kj49 2 t167 (⟨#[]⟩ : ByteArray) t174 t175).bind fun t176 => (if t176.toList = a0.toList then (some (2, t167, (⟨#[]⟩ : ByteArray), t174, t175, true)) else (some (0, (⟨#[]⟩ : ByteArray), (⟨#[]⟩ : ByteArray), 0, (⟨#[]⟩ : ByteArray), false)))))))) = some (r1, r2, r3, r4, r5, r6) := by rw [if_pos rfl] at H; exact H
    clear H
    have H := H1
    clear H1
    replace H := obs H
    obtain ⟨t173, A600, H⟩ := H
    replace H : ((spec_l12Dec.f kj49 t173).bind fun t174 => ((spec_l12Word.f t164 3).bind fun t175 => (if a0.toList = ([] : List UInt8) then (some (0, (⟨#[]⟩ : ByteArray), (⟨#[]⟩ : ByteArray), 0, (⟨#[]⟩ : ByteArray), false)) else ((spec_OpText.f kj49 2 t167 (⟨#[]⟩ : ByteArray) t174 t175).bind fun t176 => (if t176.toList = a0.toList then (some (2, t167, (⟨#[]⟩ : ByteArray), t174, t175, true)) else (some (0, (⟨#[]⟩ : ByteArray), (⟨#[]⟩ : ByteArray), 0, (⟨#[]⟩ : ByteArray), false))))))) = some (r1, r2, r3, r4, r5, r6) := H
    have A60 := am A600
    clear A600
    replace H := obs H
    obtain ⟨t174, A610, H⟩ := H
    replace H : ((spec_l12Word.f t164 3).bind fun t175 => (if a0.toList = ([] : List UInt8) then (some (0, (⟨#[]⟩ : ByteArray), (⟨#[]⟩ : ByteArray), 0, (⟨#[]⟩ : ByteArray), false)) else ((spec_OpText.f kj49 2 t167 (⟨#[]⟩ : ByteArray) t174 t175).bind fun t176 => (if t176.toList = a0.toList then (some (2, t167, (⟨#[]⟩ : ByteArray), t174, t175, true)) else (some (0, (⟨#[]⟩ : ByteArray), (⟨#[]⟩ : ByteArray), 0, (⟨#[]⟩ : ByteArray), false)))))) = some (r1, r2, r3, r4, r5, r6) := H
    have A61 := am A610
    clear A610
    replace H := obs H
    obtain ⟨t175, A620, H⟩ := H
    replace H : (if a0.toList = ([] : List UInt8) then (some (0, (⟨#[]⟩ : ByteArray), (⟨#[]⟩ : ByteArray), 0, (⟨#[]⟩ : ByteArray), false)) else ((spec_OpText.f kj49 2 t167 (⟨#[]⟩ : ByteArray) t174 t175).bind fun t176 => (if t176.toList = a0.toList then (some (2, t167, (⟨#[]⟩ : ByteArray), t174, t175, true)) else (some (0, (⟨#[]⟩ : ByteArray), (⟨#[]⟩ : ByteArray), 0, (⟨#[]⟩ : ByteArray), false))))) = some (r1, r2, r3, r4, r5, r6) := H
    have A62 := am A620
    clear A620
    by_cases c63 : a0.toList = ([] : List UInt8)
    · rw [if_pos c63] at H
      have c63b0 : (a0.toList == ([] : List UInt8)) = true := beq_iff_eq.mpr c63
      have c63b1 : (a0.toList != ([] : List UInt8)) = false := bne_eq_false_iff_eq.mpr c63
      clear c63
      simp only [Option.some.injEq, Prod.mk.injEq] at H
      obtain ⟨rfl, rfl, rfl, rfl, rfl, rfl⟩ := H
      have hnb64 := NB168_163.out
      have hnc64 := NB163_168.out
      have hcz65_0 := ce0 BK168
      have hcz65_1 := ce1 BK168
      have hcz65_2 := ce2 BK168
      have hcz65_3 := ce3 BK168
      have hcz65_4 := ce4 BK168
      have hfz65_0 := bfz BK168 0
      have hfz65_1 := bfz BK168 1
      have hfz65_2 := bfz BK168 2
      have hfz65_3 := bfz BK168 3
      have hfz65_4 := bfz BK168 4
      go_wp2_with (first | ((with_reducible refine gate_callee (f := 28) rfl ?_); refine goesL_ (some 30) rfl rfl Tryd.func28 (by kernel_rfl) rfl #[.slice (some ad169) t164.length co53, .int .i64 2] rfl (by (try simp only [List.map_toArray, List.map_cons, List.map_nil]); first | done | rfl | (simp only [List.length_drop, List.length_take]; rfl)) ?_; (with_reducible refine (spec_l12Word.calls _ _ t164 2 t173 _ ?side1 ?side2 A60.out).mono ?_); (case side1 => refine (Kd.R_reads' (e := 9) (base := w.heap.size) (ok := fun k_ => True) (n := t164.length) (c := co53) ?_).2.2; exact (rf HO_4 BK168)); (case side2 => exact (Kd.R_reads' HO_4.out).2.1); rintro e w66 ⟨rfl, hb⟩; refine ⟨_, rfl, ?_⟩; replace HO_4 := am (Kd.R_below (rf HO_4 BK168) hb); replace BK163 := am (blk_below (zk BK163) hb); replace BK168 := am (blk_below (g := gb168) (o := .cells #[.int .i64 2, .string t167, .string (⟨#[]⟩ : ByteArray), .int .i64 0, .string (⟨#[]⟩ : ByteArray)] 24 (0, 0)) (zp BK168) hb); replace HB := am (below_step (zb HB) hb); (try clear hb); (try clear hb2); (try clear hk); (try clear hi)) | ((with_reducible refine gate_callee (f := 29) rfl ?_); refine goesL_ (some 31) rfl rfl Tryd.func29 (by kernel_rfl) rfl #[.string t173] rfl (by (try simp only [List.map_toArray, List.map_cons, List.map_nil]); first | done | rfl | (simp only [List.length_drop, List.length_take]; rfl)) ?_; (with_reducible refine (spec_l12Dec.calls kj49 t173 t174 _ A61.out).mono ?_); rintro e w67 ⟨rfl, hb⟩; refine ⟨_, rfl, ?_⟩; replace HO_4 := am (Kd.R_below (zr HO_4) hb); replace BK163 := am (blk_below (zk BK163) hb); replace BK168 := am (blk_below (zk BK168) hb); replace HB := am (below_step (zb HB) hb); (try clear hb); (try clear hb2); (try clear hk); (try clear hi); have hcz68_0 := ce0 BK168; have hcz68_1 := ce1 BK168; have hcz68_2 := ce2 BK168; have hcz68_3 := ce3 BK168; have hcz68_4 := ce4 BK168; have hfz68_0 := bfz BK168 0; have hfz68_1 := bfz BK168 1; have hfz68_2 := bfz BK168 2; have hfz68_3 := bfz BK168 3; have hfz68_4 := bfz BK168 4) | ((with_reducible refine gate_callee (f := 28) rfl ?_); refine goesL_ (some 34) rfl rfl Tryd.func28 (by kernel_rfl) rfl #[.slice (some ad169) t164.length co53, .int .i64 3] rfl (by (try simp only [List.map_toArray, List.map_cons, List.map_nil]); first | done | rfl | (simp only [List.length_drop, List.length_take]; rfl)) ?_; (with_reducible refine (spec_l12Word.calls _ _ t164 3 t175 _ ?side1 ?side2 A62.out).mono ?_); (case side1 => refine (Kd.R_reads' (e := 9) (base := w.heap.size) (ok := fun k_ => True) (n := t164.length) (c := co53) ?_).2.2; exact (rf HO_4 BK168)); (case side2 => exact (Kd.R_reads' HO_4.out).2.1); rintro e w69 ⟨rfl, hb⟩; refine ⟨_, rfl, ?_⟩; replace HO_4 := am (Kd.R_below (rf HO_4 BK168) hb); replace BK163 := am (blk_below (zk BK163) hb); replace BK168 := am (blk_below (g := gb168) (o := .cells #[.int .i64 2, .string t167, .string (⟨#[]⟩ : ByteArray), .int .i64 t174, .string (⟨#[]⟩ : ByteArray)] 24 (0, 0)) (zp BK168) hb); replace HB := am (below_step (zb HB) hb); (try clear hb); (try clear hb2); (try clear hk); (try clear hi); have hcz70_0 := ce0 BK168; have hcz70_1 := ce1 BK168; have hcz70_2 := ce2 BK168; have hcz70_3 := ce3 BK168; have hcz70_4 := ce4 BK168; have hfz70_0 := bfz BK168 0; have hfz70_1 := bfz BK168 1; have hfz70_2 := bfz BK168 2; have hfz70_3 := bfz BK168 3; have hfz70_4 := bfz BK168 4; have hcz71_0 := ce0 BK163; have hcz71_1 := ce1 BK163; have hcz71_2 := ce2 BK163; have hcz71_3 := ce3 BK163; have hcz71_4 := ce4 BK163; have hfz71_0 := bfz BK163 0; have hfz71_1 := bfz BK163 1; have hfz71_2 := bfz BK163 2; have hfz71_3 := bfz BK163 3; have hfz71_4 := bfz BK163 4))
      refine bodyPost_ret (results_ct rfl _ _ gb163 24 #[.int .i64 0, .string (⟨#[]⟩ : ByteArray), .string (⟨#[]⟩ : ByteArray), .int .i64 0, .string (⟨#[]⟩ : ByteArray)] (0, 0) _ rfl (zp BK163) Tryd.underlying24 rfl (by kernel_rfl)) rfl ?_
      exact ⟨zv, (zb HB)⟩
    rw [if_neg c63] at H
    have c63b0 : (a0.toList == ([] : List UInt8)) = false := beq_eq_false_iff_ne.mpr c63
    have c63b1 : (a0.toList != ([] : List UInt8)) = true := bne_iff_ne.mpr c63
    replace H := obs H
    obtain ⟨t176, A720, H⟩ := H
    replace H : (if t176.toList = a0.toList then (some (2, t167, (⟨#[]⟩ : ByteArray), t174, t175, true)) else (some (0, (⟨#[]⟩ : ByteArray), (⟨#[]⟩ : ByteArray), 0, (⟨#[]⟩ : ByteArray), false))) = some (r1, r2, r3, r4, r5, r6) := H
    have A72 := am A720
    clear A720
    by_cases c73 : t176.toList = a0.toList
    · rw [if_pos c73] at H
      have c73b0 : (t176.toList == a0.toList) = true := beq_iff_eq.mpr c73
      have c73b1 : (t176.toList != a0.toList) = false := bne_eq_false_iff_eq.mpr c73
      clear c73
      simp only [Option.some.injEq, Prod.mk.injEq] at H
      obtain ⟨rfl, rfl, rfl, rfl, rfl, rfl⟩ := H
      have hnb74 := NB168_163.out
      have hnc74 := NB163_168.out
      have hcz75_0 := ce0 BK168
      have hcz75_1 := ce1 BK168
      have hcz75_2 := ce2 BK168
      have hcz75_3 := ce3 BK168
      have hcz75_4 := ce4 BK168
      have hfz75_0 := bfz BK168 0
      have hfz75_1 := bfz BK168 1
      have hfz75_2 := bfz BK168 2
      have hfz75_3 := bfz BK168 3
      have hfz75_4 := bfz BK168 4
      go_wp2_with (first | ((with_reducible refine gate_callee (f := 28) rfl ?_); refine goesL_ (some 30) rfl rfl Tryd.func28 (by kernel_rfl) rfl #[.slice (some ad169) t164.length co53, .int .i64 2] rfl (by (try simp only [List.map_toArray, List.map_cons, List.map_nil]); first | done | rfl | (simp only [List.length_drop, List.length_take]; rfl)) ?_; (with_reducible refine (spec_l12Word.calls _ _ t164 2 t173 _ ?side1 ?side2 A60.out).mono ?_); (case side1 => refine (Kd.R_reads' (e := 9) (base := w.heap.size) (ok := fun k_ => True) (n := t164.length) (c := co53) ?_).2.2; exact (rf HO_4 BK168)); (case side2 => exact (Kd.R_reads' HO_4.out).2.1); rintro e w76 ⟨rfl, hb⟩; refine ⟨_, rfl, ?_⟩; replace HO_4 := am (Kd.R_below (rf HO_4 BK168) hb); replace BK163 := am (blk_below (zk BK163) hb); replace BK168 := am (blk_below (g := gb168) (o := .cells #[.int .i64 2, .string t167, .string (⟨#[]⟩ : ByteArray), .int .i64 0, .string (⟨#[]⟩ : ByteArray)] 24 (0, 0)) (zp BK168) hb); replace HB := am (below_step (zb HB) hb); (try clear hb); (try clear hb2); (try clear hk); (try clear hi)) | ((with_reducible refine gate_callee (f := 29) rfl ?_); refine goesL_ (some 31) rfl rfl Tryd.func29 (by kernel_rfl) rfl #[.string t173] rfl (by (try simp only [List.map_toArray, List.map_cons, List.map_nil]); first | done | rfl | (simp only [List.length_drop, List.length_take]; rfl)) ?_; (with_reducible refine (spec_l12Dec.calls kj49 t173 t174 _ A61.out).mono ?_); rintro e w77 ⟨rfl, hb⟩; refine ⟨_, rfl, ?_⟩; replace HO_4 := am (Kd.R_below (zr HO_4) hb); replace BK163 := am (blk_below (zk BK163) hb); replace BK168 := am (blk_below (zk BK168) hb); replace HB := am (below_step (zb HB) hb); (try clear hb); (try clear hb2); (try clear hk); (try clear hi); have hcz78_0 := ce0 BK168; have hcz78_1 := ce1 BK168; have hcz78_2 := ce2 BK168; have hcz78_3 := ce3 BK168; have hcz78_4 := ce4 BK168; have hfz78_0 := bfz BK168 0; have hfz78_1 := bfz BK168 1; have hfz78_2 := bfz BK168 2; have hfz78_3 := bfz BK168 3; have hfz78_4 := bfz BK168 4) | ((with_reducible refine gate_callee (f := 28) rfl ?_); refine goesL_ (some 34) rfl rfl Tryd.func28 (by kernel_rfl) rfl #[.slice (some ad169) t164.length co53, .int .i64 3] rfl (by (try simp only [List.map_toArray, List.map_cons, List.map_nil]); first | done | rfl | (simp only [List.length_drop, List.length_take]; rfl)) ?_; (with_reducible refine (spec_l12Word.calls _ _ t164 3 t175 _ ?side1 ?side2 A62.out).mono ?_); (case side1 => refine (Kd.R_reads' (e := 9) (base := w.heap.size) (ok := fun k_ => True) (n := t164.length) (c := co53) ?_).2.2; exact (rf HO_4 BK168)); (case side2 => exact (Kd.R_reads' HO_4.out).2.1); rintro e w79 ⟨rfl, hb⟩; refine ⟨_, rfl, ?_⟩; replace HO_4 := am (Kd.R_below (rf HO_4 BK168) hb); replace BK163 := am (blk_below (zk BK163) hb); replace BK168 := am (blk_below (g := gb168) (o := .cells #[.int .i64 2, .string t167, .string (⟨#[]⟩ : ByteArray), .int .i64 t174, .string (⟨#[]⟩ : ByteArray)] 24 (0, 0)) (zp BK168) hb); replace HB := am (below_step (zb HB) hb); (try clear hb); (try clear hb2); (try clear hk); (try clear hi); have hcz80_0 := ce0 BK168; have hcz80_1 := ce1 BK168; have hcz80_2 := ce2 BK168; have hcz80_3 := ce3 BK168; have hcz80_4 := ce4 BK168; have hfz80_0 := bfz BK168 0; have hfz80_1 := bfz BK168 1; have hfz80_2 := bfz BK168 2; have hfz80_3 := bfz BK168 3; have hfz80_4 := bfz BK168 4) | (go_at_call 11; (with_reducible refine (spec_OpText.calls kj49 2 t167 (⟨#[]⟩ : ByteArray) t174 t175 t176 _ A72.out).mono ?_); rintro e w81 ⟨rfl, hb⟩; replace HO_4 := am (Kd.R_below (rf HO_4 BK168) hb); replace BK163 := am (blk_below (zk BK163) hb); replace BK168 := am (blk_below (g := gb168) (o := .cells #[.int .i64 2, .string t167, .string (⟨#[]⟩ : ByteArray), .int .i64 t174, .string t175] 24 (0, 0)) (zp BK168) hb); replace HB := am (below_step (zb HB) hb); (try clear hb); (try clear hb2); (try clear hk); (try clear hi); have hcz82_0 := ce0 BK168; have hcz82_1 := ce1 BK168; have hcz82_2 := ce2 BK168; have hcz82_3 := ce3 BK168; have hcz82_4 := ce4 BK168; have hfz82_0 := bfz BK168 0; have hfz82_1 := bfz BK168 1; have hfz82_2 := bfz BK168 2; have hfz82_3 := bfz BK168 3; have hfz82_4 := bfz BK168 4; have hcz83_0 := ce0 BK163; have hcz83_1 := ce1 BK163; have hcz83_2 := ce2 BK163; have hcz83_3 := ce3 BK163; have hcz83_4 := ce4 BK163; have hfz83_0 := bfz BK163 0; have hfz83_1 := bfz BK163 1; have hfz83_2 := bfz BK163 2; have hfz83_3 := bfz BK163 3; have hfz83_4 := bfz BK163 4))
      refine bodyPost_ret (results_ct rfl _ _ gb163 24 #[.int .i64 2, .string t167, .string (⟨#[]⟩ : ByteArray), .int .i64 t174, .string t175] (0, 0) _ rfl (zp BK163) Tryd.underlying24 rfl (by kernel_rfl)) rfl ?_
      exact ⟨zv, (zb HB)⟩
    rw [if_neg c73] at H
    have c73b0 : (t176.toList == a0.toList) = false := beq_eq_false_iff_ne.mpr c73
    have c73b1 : (t176.toList != a0.toList) = true := bne_iff_ne.mpr c73
    simp only [Option.some.injEq, Prod.mk.injEq] at H
    obtain ⟨rfl, rfl, rfl, rfl, rfl, rfl⟩ := H
    have hnb84 := NB168_163.out
    have hnc84 := NB163_168.out
    have hcz85_0 := ce0 BK168
    have hcz85_1 := ce1 BK168
    have hcz85_2 := ce2 BK168
    have hcz85_3 := ce3 BK168
    have hcz85_4 := ce4 BK168
    have hfz85_0 := bfz BK168 0
    have hfz85_1 := bfz BK168 1
    have hfz85_2 := bfz BK168 2
    have hfz85_3 := bfz BK168 3
    have hfz85_4 := bfz BK168 4
    go_wp2_with (first | ((with_reducible refine gate_callee (f := 28) rfl ?_); refine goesL_ (some 30) rfl rfl Tryd.func28 (by kernel_rfl) rfl #[.slice (some ad169) t164.length co53, .int .i64 2] rfl (by (try simp only [List.map_toArray, List.map_cons, List.map_nil]); first | done | rfl | (simp only [List.length_drop, List.length_take]; rfl)) ?_; (with_reducible refine (spec_l12Word.calls _ _ t164 2 t173 _ ?side1 ?side2 A60.out).mono ?_); (case side1 => refine (Kd.R_reads' (e := 9) (base := w.heap.size) (ok := fun k_ => True) (n := t164.length) (c := co53) ?_).2.2; exact (rf HO_4 BK168)); (case side2 => exact (Kd.R_reads' HO_4.out).2.1); rintro e w86 ⟨rfl, hb⟩; refine ⟨_, rfl, ?_⟩; replace HO_4 := am (Kd.R_below (rf HO_4 BK168) hb); replace BK163 := am (blk_below (zk BK163) hb); replace BK168 := am (blk_below (g := gb168) (o := .cells #[.int .i64 2, .string t167, .string (⟨#[]⟩ : ByteArray), .int .i64 0, .string (⟨#[]⟩ : ByteArray)] 24 (0, 0)) (zp BK168) hb); replace HB := am (below_step (zb HB) hb); (try clear hb); (try clear hb2); (try clear hk); (try clear hi)) | ((with_reducible refine gate_callee (f := 29) rfl ?_); refine goesL_ (some 31) rfl rfl Tryd.func29 (by kernel_rfl) rfl #[.string t173] rfl (by (try simp only [List.map_toArray, List.map_cons, List.map_nil]); first | done | rfl | (simp only [List.length_drop, List.length_take]; rfl)) ?_; (with_reducible refine (spec_l12Dec.calls kj49 t173 t174 _ A61.out).mono ?_); rintro e w87 ⟨rfl, hb⟩; refine ⟨_, rfl, ?_⟩; replace HO_4 := am (Kd.R_below (zr HO_4) hb); replace BK163 := am (blk_below (zk BK163) hb); replace BK168 := am (blk_below (zk BK168) hb); replace HB := am (below_step (zb HB) hb); (try clear hb); (try clear hb2); (try clear hk); (try clear hi); have hcz88_0 := ce0 BK168; have hcz88_1 := ce1 BK168; have hcz88_2 := ce2 BK168; have hcz88_3 := ce3 BK168; have hcz88_4 := ce4 BK168; have hfz88_0 := bfz BK168 0; have hfz88_1 := bfz BK168 1; have hfz88_2 := bfz BK168 2; have hfz88_3 := bfz BK168 3; have hfz88_4 := bfz BK168 4) | ((with_reducible refine gate_callee (f := 28) rfl ?_); refine goesL_ (some 34) rfl rfl Tryd.func28 (by kernel_rfl) rfl #[.slice (some ad169) t164.length co53, .int .i64 3] rfl (by (try simp only [List.map_toArray, List.map_cons, List.map_nil]); first | done | rfl | (simp only [List.length_drop, List.length_take]; rfl)) ?_; (with_reducible refine (spec_l12Word.calls _ _ t164 3 t175 _ ?side1 ?side2 A62.out).mono ?_); (case side1 => refine (Kd.R_reads' (e := 9) (base := w.heap.size) (ok := fun k_ => True) (n := t164.length) (c := co53) ?_).2.2; exact (rf HO_4 BK168)); (case side2 => exact (Kd.R_reads' HO_4.out).2.1); rintro e w89 ⟨rfl, hb⟩; refine ⟨_, rfl, ?_⟩; replace HO_4 := am (Kd.R_below (rf HO_4 BK168) hb); replace BK163 := am (blk_below (zk BK163) hb); replace BK168 := am (blk_below (g := gb168) (o := .cells #[.int .i64 2, .string t167, .string (⟨#[]⟩ : ByteArray), .int .i64 t174, .string (⟨#[]⟩ : ByteArray)] 24 (0, 0)) (zp BK168) hb); replace HB := am (below_step (zb HB) hb); (try clear hb); (try clear hb2); (try clear hk); (try clear hi); have hcz90_0 := ce0 BK168; have hcz90_1 := ce1 BK168; have hcz90_2 := ce2 BK168; have hcz90_3 := ce3 BK168; have hcz90_4 := ce4 BK168; have hfz90_0 := bfz BK168 0; have hfz90_1 := bfz BK168 1; have hfz90_2 := bfz BK168 2; have hfz90_3 := bfz BK168 3; have hfz90_4 := bfz BK168 4) | (go_at_call 11; (with_reducible refine (spec_OpText.calls kj49 2 t167 (⟨#[]⟩ : ByteArray) t174 t175 t176 _ A72.out).mono ?_); rintro e w91 ⟨rfl, hb⟩; replace HO_4 := am (Kd.R_below (rf HO_4 BK168) hb); replace BK163 := am (blk_below (zk BK163) hb); replace BK168 := am (blk_below (g := gb168) (o := .cells #[.int .i64 2, .string t167, .string (⟨#[]⟩ : ByteArray), .int .i64 t174, .string t175] 24 (0, 0)) (zp BK168) hb); replace HB := am (below_step (zb HB) hb); (try clear hb); (try clear hb2); (try clear hk); (try clear hi); have hcz92_0 := ce0 BK163; have hcz92_1 := ce1 BK163; have hcz92_2 := ce2 BK163; have hcz92_3 := ce3 BK163; have hcz92_4 := ce4 BK163; have hfz92_0 := bfz BK163 0; have hfz92_1 := bfz BK163 1; have hfz92_2 := bfz BK163 2; have hfz92_3 := bfz BK163 3; have hfz92_4 := bfz BK163 4))
    refine bodyPost_ret (results_ct rfl _ _ gb163 24 #[.int .i64 0, .string (⟨#[]⟩ : ByteArray), .string (⟨#[]⟩ : ByteArray), .int .i64 0, .string (⟨#[]⟩ : ByteArray)] (0, 0) _ rfl (zp BK163) Tryd.underlying24 rfl (by kernel_rfl)) rfl ?_
    exact ⟨zv, (zb HB)⟩
  replace c59 := Bool.eq_false_iff.mpr c59
  subst c59
  have H1 : (if (rdOf ByteArray.empty t164 0).toList = ([99, 108, 111, 110, 101] : List UInt8) then ((spec_l12Word.f t164 2).bind fun t177 => (if a0.toList = ([] : List UInt8) then (some (0, (⟨#[]⟩ : ByteArray), (⟨#[]⟩ : ByteArray), 0, (⟨#[]⟩ : ByteArray), false)) else ((spec_OpText.f kj49 3 t167 t177 0 (⟨#[]⟩ : ByteArray)).bind fun t178 => (if t178.toList = a0.toList then (some (3, t167, t177, 0, (⟨#[]⟩ : ByteArray), true)) else (some (0, (⟨#[]⟩ : ByteArray), (⟨#[]⟩ : ByteArray), 0, (⟨#[]⟩ : ByteArray), false)))))) else (if (rdOf ByteArray.empty t164 0).toList = ([103, 111, 110, 101] : List UInt8) then (if a0.toList = ([] : List UInt8) then (some (0, (⟨#[]⟩ : ByteArray), (⟨#[]⟩ : ByteArray), 0, (⟨#[]⟩ : ByteArray), false)) else ((spec_OpText.f kj49 4 t167 (⟨#[]⟩ : ByteArray) 0 (⟨#[]⟩ : ByteArray)).bind fun t179 => (if t179.toList = a0.toList then (some (4, t167, (⟨#[]⟩ : ByteArray), 0, (⟨#[]⟩ : ByteArray), true)) else (some (0, (⟨#[]⟩ : ByteArray), (⟨#[]⟩ : ByteArray), 0, (⟨#[]⟩ : ByteArray), false))))) else (if a0.toList = ([] : List UInt8) then (some (0, (⟨#[]⟩ : ByteArray), (⟨#[]⟩ : ByteArray), 0, (⟨#[]⟩ : ByteArray), false)) else ((spec_OpText.f kj49 0 t167 (⟨#[]⟩ : ByteArray) 0 (⟨#[]⟩ : ByteArray)).bind fun t180 => (if t180.toList = a0.toList then (some (0, t167, (⟨#[]⟩ : ByteArray), 0, (⟨#[]⟩ : ByteArray), true)) else (some (0, (⟨#[]⟩ : ByteArray), (⟨#[]⟩ : ByteArray), 0, (⟨#[]⟩ : ByteArray), false))))))) = some (r1, r2, r3, r4, r5, r6) := by rw [if_neg (show ¬ (false = true) by decide)] at H; exact H
  clear H
  have H := H1
  clear H1
  by_cases c93 : (rdOf ByteArray.empty t164 0).toList = ([99, 108, 111, 110, 101] : List UInt8)
  · rw [if_pos c93] at H
    have c93b0 : ((rdOf ByteArray.empty t164 0).toList == ([99, 108, 111, 110, 101] : List UInt8)) = true := beq_iff_eq.mpr c93
    have c93b1 : ((rdOf ByteArray.empty t164 0).toList != ([99, 108, 111, 110, 101] : List UInt8)) = false := bne_eq_false_iff_eq.mpr c93
    clear c93
    replace H := obs H
    obtain ⟨t177, A940, H⟩ := H
    replace H : (if a0.toList = ([] : List UInt8) then (some (0, (⟨#[]⟩ : ByteArray), (⟨#[]⟩ : ByteArray), 0, (⟨#[]⟩ : ByteArray), false)) else ((spec_OpText.f kj49 3 t167 t177 0 (⟨#[]⟩ : ByteArray)).bind fun t178 => (if t178.toList = a0.toList then (some (3, t167, t177, 0, (⟨#[]⟩ : ByteArray), true)) else (some (0, (⟨#[]⟩ : ByteArray), (⟨#[]⟩ : ByteArray), 0, (⟨#[]⟩ : ByteArray), false))))) = some (r1, r2, r3, r4, r5, r6) := H
    have A94 := am A940
    clear A940
    by_cases c95 : a0.toList = ([] : List UInt8)
    · rw [if_pos c95] at H
      have c95b0 : (a0.toList == ([] : List UInt8)) = true := beq_iff_eq.mpr c95
      have c95b1 : (a0.toList != ([] : List UInt8)) = false := bne_eq_false_iff_eq.mpr c95
      clear c95
      simp only [Option.some.injEq, Prod.mk.injEq] at H
      obtain ⟨rfl, rfl, rfl, rfl, rfl, rfl⟩ := H
      have hnb96 := NB168_163.out
      have hnc96 := NB163_168.out
      have hcz97_0 := ce0 BK168
      have hcz97_1 := ce1 BK168
      have hcz97_2 := ce2 BK168
      have hcz97_3 := ce3 BK168
      have hcz97_4 := ce4 BK168
      have hfz97_0 := bfz BK168 0
      have hfz97_1 := bfz BK168 1
      have hfz97_2 := bfz BK168 2
      have hfz97_3 := bfz BK168 3
      have hfz97_4 := bfz BK168 4
      go_wp2_with (first | ((with_reducible refine gate_callee (f := 28) rfl ?_); refine goesL_ (some 40) rfl rfl Tryd.func28 (by kernel_rfl) rfl #[.slice (some ad169) t164.length co53, .int .i64 2] rfl (by (try simp only [List.map_toArray, List.map_cons, List.map_nil]); first | done | rfl | (simp only [List.length_drop, List.length_take]; rfl)) ?_; (with_reducible refine (spec_l12Word.calls _ _ t164 2 t177 _ ?side1 ?side2 A94.out).mono ?_); (case side1 => refine (Kd.R_reads' (e := 9) (base := w.heap.size) (ok := fun k_ => True) (n := t164.length) (c := co53) ?_).2.2; exact (rf HO_4 BK168)); (case side2 => exact (Kd.R_reads' HO_4.out).2.1); rintro e w98 ⟨rfl, hb⟩; refine ⟨_, rfl, ?_⟩; replace HO_4 := am (Kd.R_below (rf HO_4 BK168) hb); replace BK163 := am (blk_below (zk BK163) hb); replace BK168 := am (blk_below (g := gb168) (o := .cells #[.int .i64 3, .string t167, .string (⟨#[]⟩ : ByteArray), .int .i64 0, .string (⟨#[]⟩ : ByteArray)] 24 (0, 0)) (zp BK168) hb); replace HB := am (below_step (zb HB) hb); (try clear hb); (try clear hb2); (try clear hk); (try clear hi); have hcz99_0 := ce0 BK168; have hcz99_1 := ce1 BK168; have hcz99_2 := ce2 BK168; have hcz99_3 := ce3 BK168; have hcz99_4 := ce4 BK168; have hfz99_0 := bfz BK168 0; have hfz99_1 := bfz BK168 1; have hfz99_2 := bfz BK168 2; have hfz99_3 := bfz BK168 3; have hfz99_4 := bfz BK168 4; have hcz100_0 := ce0 BK163; have hcz100_1 := ce1 BK163; have hcz100_2 := ce2 BK163; have hcz100_3 := ce3 BK163; have hcz100_4 := ce4 BK163; have hfz100_0 := bfz BK163 0; have hfz100_1 := bfz BK163 1; have hfz100_2 := bfz BK163 2; have hfz100_3 := bfz BK163 3; have hfz100_4 := bfz BK163 4))
      refine bodyPost_ret (results_ct rfl _ _ gb163 24 #[.int .i64 0, .string (⟨#[]⟩ : ByteArray), .string (⟨#[]⟩ : ByteArray), .int .i64 0, .string (⟨#[]⟩ : ByteArray)] (0, 0) _ rfl (zp BK163) Tryd.underlying24 rfl (by kernel_rfl)) rfl ?_
      exact ⟨zv, (zb HB)⟩
    rw [if_neg c95] at H
    have c95b0 : (a0.toList == ([] : List UInt8)) = false := beq_eq_false_iff_ne.mpr c95
    have c95b1 : (a0.toList != ([] : List UInt8)) = true := bne_iff_ne.mpr c95
    replace H := obs H
    obtain ⟨t178, A1010, H⟩ := H
    replace H : (if t178.toList = a0.toList then (some (3, t167, t177, 0, (⟨#[]⟩ : ByteArray), true)) else (some (0, (⟨#[]⟩ : ByteArray), (⟨#[]⟩ : ByteArray), 0, (⟨#[]⟩ : ByteArray), false))) = some (r1, r2, r3, r4, r5, r6) := H
    have A101 := am A1010
    clear A1010
    by_cases c102 : t178.toList = a0.toList
    · rw [if_pos c102] at H
      have c102b0 : (t178.toList == a0.toList) = true := beq_iff_eq.mpr c102
      have c102b1 : (t178.toList != a0.toList) = false := bne_eq_false_iff_eq.mpr c102
      clear c102
      simp only [Option.some.injEq, Prod.mk.injEq] at H
      obtain ⟨rfl, rfl, rfl, rfl, rfl, rfl⟩ := H
      have hnb103 := NB168_163.out
      have hnc103 := NB163_168.out
      have hcz104_0 := ce0 BK168
      have hcz104_1 := ce1 BK168
      have hcz104_2 := ce2 BK168
      have hcz104_3 := ce3 BK168
      have hcz104_4 := ce4 BK168
      have hfz104_0 := bfz BK168 0
      have hfz104_1 := bfz BK168 1
      have hfz104_2 := bfz BK168 2
      have hfz104_3 := bfz BK168 3
      have hfz104_4 := bfz BK168 4
      go_wp2_with (first | ((with_reducible refine gate_callee (f := 28) rfl ?_); refine goesL_ (some 40) rfl rfl Tryd.func28 (by kernel_rfl) rfl #[.slice (some ad169) t164.length co53, .int .i64 2] rfl (by (try simp only [List.map_toArray, List.map_cons, List.map_nil]); first | done | rfl | (simp only [List.length_drop, List.length_take]; rfl)) ?_; (with_reducible refine (spec_l12Word.calls _ _ t164 2 t177 _ ?side1 ?side2 A94.out).mono ?_); (case side1 => refine (Kd.R_reads' (e := 9) (base := w.heap.size) (ok := fun k_ => True) (n := t164.length) (c := co53) ?_).2.2; exact (rf HO_4 BK168)); (case side2 => exact (Kd.R_reads' HO_4.out).2.1); rintro e w105 ⟨rfl, hb⟩; refine ⟨_, rfl, ?_⟩; replace HO_4 := am (Kd.R_below (rf HO_4 BK168) hb); replace BK163 := am (blk_below (zk BK163) hb); replace BK168 := am (blk_below (g := gb168) (o := .cells #[.int .i64 3, .string t167, .string (⟨#[]⟩ : ByteArray), .int .i64 0, .string (⟨#[]⟩ : ByteArray)] 24 (0, 0)) (zp BK168) hb); replace HB := am (below_step (zb HB) hb); (try clear hb); (try clear hb2); (try clear hk); (try clear hi); have hcz106_0 := ce0 BK168; have hcz106_1 := ce1 BK168; have hcz106_2 := ce2 BK168; have hcz106_3 := ce3 BK168; have hcz106_4 := ce4 BK168; have hfz106_0 := bfz BK168 0; have hfz106_1 := bfz BK168 1; have hfz106_2 := bfz BK168 2; have hfz106_3 := bfz BK168 3; have hfz106_4 := bfz BK168 4) | (go_at_call 11; (with_reducible refine (spec_OpText.calls kj49 3 t167 t177 0 (⟨#[]⟩ : ByteArray) t178 _ A101.out).mono ?_); rintro e w107 ⟨rfl, hb⟩; replace HO_4 := am (Kd.R_below (rf HO_4 BK168) hb); replace BK163 := am (blk_below (zk BK163) hb); replace BK168 := am (blk_below (g := gb168) (o := .cells #[.int .i64 3, .string t167, .string t177, .int .i64 0, .string (⟨#[]⟩ : ByteArray)] 24 (0, 0)) (zp BK168) hb); replace HB := am (below_step (zb HB) hb); (try clear hb); (try clear hb2); (try clear hk); (try clear hi); have hcz108_0 := ce0 BK168; have hcz108_1 := ce1 BK168; have hcz108_2 := ce2 BK168; have hcz108_3 := ce3 BK168; have hcz108_4 := ce4 BK168; have hfz108_0 := bfz BK168 0; have hfz108_1 := bfz BK168 1; have hfz108_2 := bfz BK168 2; have hfz108_3 := bfz BK168 3; have hfz108_4 := bfz BK168 4; have hcz109_0 := ce0 BK163; have hcz109_1 := ce1 BK163; have hcz109_2 := ce2 BK163; have hcz109_3 := ce3 BK163; have hcz109_4 := ce4 BK163; have hfz109_0 := bfz BK163 0; have hfz109_1 := bfz BK163 1; have hfz109_2 := bfz BK163 2; have hfz109_3 := bfz BK163 3; have hfz109_4 := bfz BK163 4))
      refine bodyPost_ret (results_ct rfl _ _ gb163 24 #[.int .i64 3, .string t167, .string t177, .int .i64 0, .string (⟨#[]⟩ : ByteArray)] (0, 0) _ rfl (zp BK163) Tryd.underlying24 rfl (by kernel_rfl)) rfl ?_
      exact ⟨zv, (zb HB)⟩
    rw [if_neg c102] at H
    have c102b0 : (t178.toList == a0.toList) = false := beq_eq_false_iff_ne.mpr c102
    have c102b1 : (t178.toList != a0.toList) = true := bne_iff_ne.mpr c102
    simp only [Option.some.injEq, Prod.mk.injEq] at H
    obtain ⟨rfl, rfl, rfl, rfl, rfl, rfl⟩ := H
    have hnb110 := NB168_163.out
    have hnc110 := NB163_168.out
    have hcz111_0 := ce0 BK168
    have hcz111_1 := ce1 BK168
    have hcz111_2 := ce2 BK168
    have hcz111_3 := ce3 BK168
    have hcz111_4 := ce4 BK168
    have hfz111_0 := bfz BK168 0
    have hfz111_1 := bfz BK168 1
    have hfz111_2 := bfz BK168 2
    have hfz111_3 := bfz BK168 3
    have hfz111_4 := bfz BK168 4
    go_wp2_with (first | ((with_reducible refine gate_callee (f := 28) rfl ?_); refine goesL_ (some 40) rfl rfl Tryd.func28 (by kernel_rfl) rfl #[.slice (some ad169) t164.length co53, .int .i64 2] rfl (by (try simp only [List.map_toArray, List.map_cons, List.map_nil]); first | done | rfl | (simp only [List.length_drop, List.length_take]; rfl)) ?_; (with_reducible refine (spec_l12Word.calls _ _ t164 2 t177 _ ?side1 ?side2 A94.out).mono ?_); (case side1 => refine (Kd.R_reads' (e := 9) (base := w.heap.size) (ok := fun k_ => True) (n := t164.length) (c := co53) ?_).2.2; exact (rf HO_4 BK168)); (case side2 => exact (Kd.R_reads' HO_4.out).2.1); rintro e w112 ⟨rfl, hb⟩; refine ⟨_, rfl, ?_⟩; replace HO_4 := am (Kd.R_below (rf HO_4 BK168) hb); replace BK163 := am (blk_below (zk BK163) hb); replace BK168 := am (blk_below (g := gb168) (o := .cells #[.int .i64 3, .string t167, .string (⟨#[]⟩ : ByteArray), .int .i64 0, .string (⟨#[]⟩ : ByteArray)] 24 (0, 0)) (zp BK168) hb); replace HB := am (below_step (zb HB) hb); (try clear hb); (try clear hb2); (try clear hk); (try clear hi); have hcz113_0 := ce0 BK168; have hcz113_1 := ce1 BK168; have hcz113_2 := ce2 BK168; have hcz113_3 := ce3 BK168; have hcz113_4 := ce4 BK168; have hfz113_0 := bfz BK168 0; have hfz113_1 := bfz BK168 1; have hfz113_2 := bfz BK168 2; have hfz113_3 := bfz BK168 3; have hfz113_4 := bfz BK168 4) | (go_at_call 11; (with_reducible refine (spec_OpText.calls kj49 3 t167 t177 0 (⟨#[]⟩ : ByteArray) t178 _ A101.out).mono ?_); rintro e w114 ⟨rfl, hb⟩; replace HO_4 := am (Kd.R_below (rf HO_4 BK168) hb); replace BK163 := am (blk_below (zk BK163) hb); replace BK168 := am (blk_below (g := gb168) (o := .cells #[.int .i64 3, .string t167, .string t177, .int .i64 0, .string (⟨#[]⟩ : ByteArray)] 24 (0, 0)) (zp BK168) hb); replace HB := am (below_step (zb HB) hb); (try clear hb); (try clear hb2); (try clear hk); (try clear hi); have hcz115_0 := ce0 BK163; have hcz115_1 := ce1 BK163; have hcz115_2 := ce2 BK163; have hcz115_3 := ce3 BK163; have hcz115_4 := ce4 BK163; have hfz115_0 := bfz BK163 0; have hfz115_1 := bfz BK163 1; have hfz115_2 := bfz BK163 2; have hfz115_3 := bfz BK163 3; have hfz115_4 := bfz BK163 4))
    refine bodyPost_ret (results_ct rfl _ _ gb163 24 #[.int .i64 0, .string (⟨#[]⟩ : ByteArray), .string (⟨#[]⟩ : ByteArray), .int .i64 0, .string (⟨#[]⟩ : ByteArray)] (0, 0) _ rfl (zp BK163) Tryd.underlying24 rfl (by kernel_rfl)) rfl ?_
    exact ⟨zv, (zb HB)⟩
  rw [if_neg c93] at H
  have c93b0 : ((rdOf ByteArray.empty t164 0).toList == ([99, 108, 111, 110, 101] : List UInt8)) = false := beq_eq_false_iff_ne.mpr c93
  have c93b1 : ((rdOf ByteArray.empty t164 0).toList != ([99, 108, 111, 110, 101] : List UInt8)) = true := bne_iff_ne.mpr c93
  by_cases c116 : (rdOf ByteArray.empty t164 0).toList = ([103, 111, 110, 101] : List UInt8)
  rotate_left
  · rw [if_neg c116] at H
    have c116b0 : ((rdOf ByteArray.empty t164 0).toList == ([103, 111, 110, 101] : List UInt8)) = false := beq_eq_false_iff_ne.mpr c116
    have c116b1 : ((rdOf ByteArray.empty t164 0).toList != ([103, 111, 110, 101] : List UInt8)) = true := bne_iff_ne.mpr c116
    by_cases c132 : a0.toList = ([] : List UInt8)
    · rw [if_pos c132] at H
      have c132b0 : (a0.toList == ([] : List UInt8)) = true := beq_iff_eq.mpr c132
      have c132b1 : (a0.toList != ([] : List UInt8)) = false := bne_eq_false_iff_eq.mpr c132
      clear c132
      simp only [Option.some.injEq, Prod.mk.injEq] at H
      obtain ⟨rfl, rfl, rfl, rfl, rfl, rfl⟩ := H
      have hnb133 := NB163_168.out
      have hnc133 := NB168_163.out
      have hcz134_0 := ce0 BK163
      have hcz134_1 := ce1 BK163
      have hcz134_2 := ce2 BK163
      have hcz134_3 := ce3 BK163
      have hcz134_4 := ce4 BK163
      have hfz134_0 := bfz BK163 0
      have hfz134_1 := bfz BK163 1
      have hfz134_2 := bfz BK163 2
      have hfz134_3 := bfz BK163 3
      have hfz134_4 := bfz BK163 4
      go_wp2
      refine bodyPost_ret (results_ct rfl _ _ gb163 24 #[.int .i64 0, .string (⟨#[]⟩ : ByteArray), .string (⟨#[]⟩ : ByteArray), .int .i64 0, .string (⟨#[]⟩ : ByteArray)] (0, 0) _ rfl (zp BK163) Tryd.underlying24 rfl (by kernel_rfl)) rfl ?_
      exact ⟨zv, (zb HB)⟩
    rw [if_neg c132] at H
    have c132b0 : (a0.toList == ([] : List UInt8)) = false := beq_eq_false_iff_ne.mpr c132
    have c132b1 : (a0.toList != ([] : List UInt8)) = true := bne_iff_ne.mpr c132
    replace H := obs H
    obtain ⟨t180, A1350, H⟩ := H
    replace H : (if t180.toList = a0.toList then (some (0, t167, (⟨#[]⟩ : ByteArray), 0, (⟨#[]⟩ : ByteArray), true)) else (some (0, (⟨#[]⟩ : ByteArray), (⟨#[]⟩ : ByteArray), 0, (⟨#[]⟩ : ByteArray), false))) = some (r1, r2, r3, r4, r5, r6) := H
    have A135 := am A1350
    clear A1350
    by_cases c136 : t180.toList = a0.toList
    · rw [if_pos c136] at H
      have c136b0 : (t180.toList == a0.toList) = true := beq_iff_eq.mpr c136
      have c136b1 : (t180.toList != a0.toList) = false := bne_eq_false_iff_eq.mpr c136
      clear c136
      simp only [Option.some.injEq, Prod.mk.injEq] at H
      obtain ⟨rfl, rfl, rfl, rfl, rfl, rfl⟩ := H
      have hnb137 := NB168_163.out
      have hnc137 := NB163_168.out
      have hcz138_0 := ce0 BK168
      have hcz138_1 := ce1 BK168
      have hcz138_2 := ce2 BK168
      have hcz138_3 := ce3 BK168
      have hcz138_4 := ce4 BK168
      have hfz138_0 := bfz BK168 0
      have hfz138_1 := bfz BK168 1
      have hfz138_2 := bfz BK168 2
      have hfz138_3 := bfz BK168 3
      have hfz138_4 := bfz BK168 4
      go_wp2_with (first | (go_at_call 11; (with_reducible refine (spec_OpText.calls kj49 0 t167 (⟨#[]⟩ : ByteArray) 0 (⟨#[]⟩ : ByteArray) t180 _ A135.out).mono ?_); rintro e w139 ⟨rfl, hb⟩; replace HO_4 := am (Kd.R_below (zr HO_4) hb); replace BK163 := am (blk_below (zk BK163) hb); replace BK168 := am (blk_below (zk BK168) hb); replace HB := am (below_step (zb HB) hb); (try clear hb); (try clear hb2); (try clear hk); (try clear hi); have hcz140_0 := ce0 BK168; have hcz140_1 := ce1 BK168; have hcz140_2 := ce2 BK168; have hcz140_3 := ce3 BK168; have hcz140_4 := ce4 BK168; have hfz140_0 := bfz BK168 0; have hfz140_1 := bfz BK168 1; have hfz140_2 := bfz BK168 2; have hfz140_3 := bfz BK168 3; have hfz140_4 := bfz BK168 4; have hcz141_0 := ce0 BK163; have hcz141_1 := ce1 BK163; have hcz141_2 := ce2 BK163; have hcz141_3 := ce3 BK163; have hcz141_4 := ce4 BK163; have hfz141_0 := bfz BK163 0; have hfz141_1 := bfz BK163 1; have hfz141_2 := bfz BK163 2; have hfz141_3 := bfz BK163 3; have hfz141_4 := bfz BK163 4))
      refine bodyPost_ret (results_ct rfl _ _ gb163 24 #[.int .i64 0, .string t167, .string (⟨#[]⟩ : ByteArray), .int .i64 0, .string (⟨#[]⟩ : ByteArray)] (0, 0) _ rfl (zp BK163) Tryd.underlying24 rfl (by kernel_rfl)) rfl ?_
      exact ⟨zv, (zb HB)⟩
    rw [if_neg c136] at H
    have c136b0 : (t180.toList == a0.toList) = false := beq_eq_false_iff_ne.mpr c136
    have c136b1 : (t180.toList != a0.toList) = true := bne_iff_ne.mpr c136
    simp only [Option.some.injEq, Prod.mk.injEq] at H
    obtain ⟨rfl, rfl, rfl, rfl, rfl, rfl⟩ := H
    have hnb142 := NB168_163.out
    have hnc142 := NB163_168.out
    have hcz143_0 := ce0 BK168
    have hcz143_1 := ce1 BK168
    have hcz143_2 := ce2 BK168
    have hcz143_3 := ce3 BK168
    have hcz143_4 := ce4 BK168
    have hfz143_0 := bfz BK168 0
    have hfz143_1 := bfz BK168 1
    have hfz143_2 := bfz BK168 2
    have hfz143_3 := bfz BK168 3
    have hfz143_4 := bfz BK168 4
    go_wp2_with (first | (go_at_call 11; (with_reducible refine (spec_OpText.calls kj49 0 t167 (⟨#[]⟩ : ByteArray) 0 (⟨#[]⟩ : ByteArray) t180 _ A135.out).mono ?_); rintro e w144 ⟨rfl, hb⟩; replace HO_4 := am (Kd.R_below (zr HO_4) hb); replace BK163 := am (blk_below (zk BK163) hb); replace BK168 := am (blk_below (zk BK168) hb); replace HB := am (below_step (zb HB) hb); (try clear hb); (try clear hb2); (try clear hk); (try clear hi); have hcz145_0 := ce0 BK163; have hcz145_1 := ce1 BK163; have hcz145_2 := ce2 BK163; have hcz145_3 := ce3 BK163; have hcz145_4 := ce4 BK163; have hfz145_0 := bfz BK163 0; have hfz145_1 := bfz BK163 1; have hfz145_2 := bfz BK163 2; have hfz145_3 := bfz BK163 3; have hfz145_4 := bfz BK163 4))
    refine bodyPost_ret (results_ct rfl _ _ gb163 24 #[.int .i64 0, .string (⟨#[]⟩ : ByteArray), .string (⟨#[]⟩ : ByteArray), .int .i64 0, .string (⟨#[]⟩ : ByteArray)] (0, 0) _ rfl (zp BK163) Tryd.underlying24 rfl (by kernel_rfl)) rfl ?_
    exact ⟨zv, (zb HB)⟩
  rw [if_pos c116] at H
  have c116b0 : ((rdOf ByteArray.empty t164 0).toList == ([103, 111, 110, 101] : List UInt8)) = true := beq_iff_eq.mpr c116
  have c116b1 : ((rdOf ByteArray.empty t164 0).toList != ([103, 111, 110, 101] : List UInt8)) = false := bne_eq_false_iff_eq.mpr c116
  clear c116
  by_cases c117 : a0.toList = ([] : List UInt8)
  · rw [if_pos c117] at H
    have c117b0 : (a0.toList == ([] : List UInt8)) = true := beq_iff_eq.mpr c117
    have c117b1 : (a0.toList != ([] : List UInt8)) = false := bne_eq_false_iff_eq.mpr c117
    clear c117
    simp only [Option.some.injEq, Prod.mk.injEq] at H
    obtain ⟨rfl, rfl, rfl, rfl, rfl, rfl⟩ := H
    have hnb118 := NB168_163.out
    have hnc118 := NB163_168.out
    have hcz119_0 := ce0 BK168
    have hcz119_1 := ce1 BK168
    have hcz119_2 := ce2 BK168
    have hcz119_3 := ce3 BK168
    have hcz119_4 := ce4 BK168
    have hfz119_0 := bfz BK168 0
    have hfz119_1 := bfz BK168 1
    have hfz119_2 := bfz BK168 2
    have hfz119_3 := bfz BK168 3
    have hfz119_4 := bfz BK168 4
    have hcz120_0 := ce0 BK163
    have hcz120_1 := ce1 BK163
    have hcz120_2 := ce2 BK163
    have hcz120_3 := ce3 BK163
    have hcz120_4 := ce4 BK163
    have hfz120_0 := bfz BK163 0
    have hfz120_1 := bfz BK163 1
    have hfz120_2 := bfz BK163 2
    have hfz120_3 := bfz BK163 3
    have hfz120_4 := bfz BK163 4
    go_wp2
    refine bodyPost_ret (results_ct rfl _ _ gb163 24 #[.int .i64 0, .string (⟨#[]⟩ : ByteArray), .string (⟨#[]⟩ : ByteArray), .int .i64 0, .string (⟨#[]⟩ : ByteArray)] (0, 0) _ rfl (zp BK163) Tryd.underlying24 rfl (by kernel_rfl)) rfl ?_
    exact ⟨zv, (zb HB)⟩
  rw [if_neg c117] at H
  have c117b0 : (a0.toList == ([] : List UInt8)) = false := beq_eq_false_iff_ne.mpr c117
  have c117b1 : (a0.toList != ([] : List UInt8)) = true := bne_iff_ne.mpr c117
  replace H := obs H
  obtain ⟨t179, A1210, H⟩ := H
  replace H : (if t179.toList = a0.toList then (some (4, t167, (⟨#[]⟩ : ByteArray), 0, (⟨#[]⟩ : ByteArray), true)) else (some (0, (⟨#[]⟩ : ByteArray), (⟨#[]⟩ : ByteArray), 0, (⟨#[]⟩ : ByteArray), false))) = some (r1, r2, r3, r4, r5, r6) := H
  have A121 := am A1210
  clear A1210
  by_cases c122 : t179.toList = a0.toList
  · rw [if_pos c122] at H
    have c122b0 : (t179.toList == a0.toList) = true := beq_iff_eq.mpr c122
    have c122b1 : (t179.toList != a0.toList) = false := bne_eq_false_iff_eq.mpr c122
    clear c122
    simp only [Option.some.injEq, Prod.mk.injEq] at H
    obtain ⟨rfl, rfl, rfl, rfl, rfl, rfl⟩ := H
    have hnb123 := NB168_163.out
    have hnc123 := NB163_168.out
    have hcz124_0 := ce0 BK168
    have hcz124_1 := ce1 BK168
    have hcz124_2 := ce2 BK168
    have hcz124_3 := ce3 BK168
    have hcz124_4 := ce4 BK168
    have hfz124_0 := bfz BK168 0
    have hfz124_1 := bfz BK168 1
    have hfz124_2 := bfz BK168 2
    have hfz124_3 := bfz BK168 3
    have hfz124_4 := bfz BK168 4
    go_wp2_with (first | (go_at_call 11; (with_reducible refine (spec_OpText.calls kj49 4 t167 (⟨#[]⟩ : ByteArray) 0 (⟨#[]⟩ : ByteArray) t179 _ A121.out).mono ?_); rintro e w125 ⟨rfl, hb⟩; replace HO_4 := am (Kd.R_below (rf HO_4 BK168) hb); replace BK163 := am (blk_below (zk BK163) hb); replace BK168 := am (blk_below (g := gb168) (o := .cells #[.int .i64 4, .string t167, .string (⟨#[]⟩ : ByteArray), .int .i64 0, .string (⟨#[]⟩ : ByteArray)] 24 (0, 0)) (zp BK168) hb); replace HB := am (below_step (zb HB) hb); (try clear hb); (try clear hb2); (try clear hk); (try clear hi); have hcz126_0 := ce0 BK168; have hcz126_1 := ce1 BK168; have hcz126_2 := ce2 BK168; have hcz126_3 := ce3 BK168; have hcz126_4 := ce4 BK168; have hfz126_0 := bfz BK168 0; have hfz126_1 := bfz BK168 1; have hfz126_2 := bfz BK168 2; have hfz126_3 := bfz BK168 3; have hfz126_4 := bfz BK168 4; have hcz127_0 := ce0 BK163; have hcz127_1 := ce1 BK163; have hcz127_2 := ce2 BK163; have hcz127_3 := ce3 BK163; have hcz127_4 := ce4 BK163; have hfz127_0 := bfz BK163 0; have hfz127_1 := bfz BK163 1; have hfz127_2 := bfz BK163 2; have hfz127_3 := bfz BK163 3; have hfz127_4 := bfz BK163 4))
    refine bodyPost_ret (results_ct rfl _ _ gb163 24 #[.int .i64 4, .string t167, .string (⟨#[]⟩ : ByteArray), .int .i64 0, .string (⟨#[]⟩ : ByteArray)] (0, 0) _ rfl (zp BK163) Tryd.underlying24 rfl (by kernel_rfl)) rfl ?_
    exact ⟨zv, (zb HB)⟩
  rw [if_neg c122] at H
  have c122b0 : (t179.toList == a0.toList) = false := beq_eq_false_iff_ne.mpr c122
  have c122b1 : (t179.toList != a0.toList) = true := bne_iff_ne.mpr c122
  simp only [Option.some.injEq, Prod.mk.injEq] at H
  obtain ⟨rfl, rfl, rfl, rfl, rfl, rfl⟩ := H
  have hnb128 := NB168_163.out
  have hnc128 := NB163_168.out
  have hcz129_0 := ce0 BK168
  have hcz129_1 := ce1 BK168
  have hcz129_2 := ce2 BK168
  have hcz129_3 := ce3 BK168
  have hcz129_4 := ce4 BK168
  have hfz129_0 := bfz BK168 0
  have hfz129_1 := bfz BK168 1
  have hfz129_2 := bfz BK168 2
  have hfz129_3 := bfz BK168 3
  have hfz129_4 := bfz BK168 4
  go_wp2_with (first | (go_at_call 11; (with_reducible refine (spec_OpText.calls kj49 4 t167 (⟨#[]⟩ : ByteArray) 0 (⟨#[]⟩ : ByteArray) t179 _ A121.out).mono ?_); rintro e w130 ⟨rfl, hb⟩; replace HO_4 := am (Kd.R_below (rf HO_4 BK168) hb); replace BK163 := am (blk_below (zk BK163) hb); replace BK168 := am (blk_below (g := gb168) (o := .cells #[.int .i64 4, .string t167, .string (⟨#[]⟩ : ByteArray), .int .i64 0, .string (⟨#[]⟩ : ByteArray)] 24 (0, 0)) (zp BK168) hb); replace HB := am (below_step (zb HB) hb); (try clear hb); (try clear hb2); (try clear hk); (try clear hi); have hcz131_0 := ce0 BK163; have hcz131_1 := ce1 BK163; have hcz131_2 := ce2 BK163; have hcz131_3 := ce3 BK163; have hcz131_4 := ce4 BK163; have hfz131_0 := bfz BK163 0; have hfz131_1 := bfz BK163 1; have hfz131_2 := bfz BK163 2; have hfz131_3 := bfz BK163 3; have hfz131_4 := bfz BK163 4))
  refine bodyPost_ret (results_ct rfl _ _ gb163 24 #[.int .i64 0, .string (⟨#[]⟩ : ByteArray), .string (⟨#[]⟩ : ByteArray), .int .i64 0, .string (⟨#[]⟩ : ByteArray)] (0, 0) _ rfl (zp BK163) Tryd.underlying24 rfl (by kernel_rfl)) rfl ?_
  exact ⟨zv, (zb HB)⟩
end Go.Proofs.YtagfiehoodepbaaDoor.PFnOpStrict
