/- TextPlace of the program answers what TextPlace of the reference answers, for every string. -/
import Derived.Test.YtpoleflmmdlgjaaPFnExactTextPlacex1
import Derived.Test.YtpoleflmmdlgjaaU
set_option linter.unusedVariables false
set_option linter.unusedSimpArgs false
namespace Go.Proofs.Ytpoleflmmdlgjaa.Pure
open Go.RowKit Go.Proofs.Ytpoleflmmdlgjaa.PFnExactTextPlace Go.Proofs.YtpoleflmmdlgjaaW.PrintWords Go.Proofs.YtpoleflmmdlgjaaW.PrintLast Go.Proofs.YtpoleflmmdlgjaaU
/-! ### pieces -/
theorem spec_l6In_eq (a b c : Int) : spec_l6In.f a b c = some (decide (b ≤ a) && decide (a ≤ c)) := by
  unfold spec_l6In.f
  by_cases h : a ≥ b
  · rw [if_pos h]; simp [show b ≤ a from h]
  · rw [if_neg h]; simp [show ¬ b ≤ a from h]
theorem impl_within_eq (a b c : Int) : impl_within.f a b c = some (decide (b ≤ a) && decide (a ≤ c)) := by
  unfold impl_within.f
  by_cases h : a ≥ b
  · rw [if_pos h]; simp [show b ≤ a from h]
  · rw [if_neg h]; simp [show ¬ b ≤ a from h]
theorem spec_TextOk_l0 (s : ByteArray) (hs : s.size ≤ 140737488355328) (d : Nat) : ∀ i : Nat, i + d = s.size → Tot (fun k => spec_TextOk.l0 k s (i : Int)) (fun r => r = (((bytesOf s).drop i).all okc && decide ((s.size : Int) ≤ 4))) := by
  induction d with
  | zero =>
    intro i hi
    refine Tot.shift ?_
    simp only [spec_TextOk.l0]
    refine Tot.neg (by omega) (Tot.now ?_)
    rw [List.drop_of_length_le (by rw [bytesOf_length]; omega)]
    simp
  | succ d ih =>
    intro i hi
    refine Tot.shift ?_
    simp only [spec_TextOk.l0]
    refine Tot.pos (by omega) (Tot.pos (by omega) (Tot.bindN (spec_l6In_eq _ _ _) ?_))
    rw [w64_bt, w64 (x := (i : Int) + 1) (by omega) (by omega), drop_at s i (by omega), List.all_cons]
    have e : okc (bt s i) = (decide (97 ≤ bt s i) && decide (bt s i ≤ 100)) := rfl
    refine Tot.ite (fun h => ?_) (fun h => Tot.now ?_)
    · rw [e, h, Bool.true_and]; exact ih (i + 1) (by omega)
    · rw [e, Bool.eq_false_iff.2 h]; simp
theorem spec_TextOk_tot (s : ByteArray) (hs : s.size ≤ 140737488355328) : Tot (fun k => spec_TextOk.f k s) (fun r => r = textOk s) := by
  unfold spec_TextOk.f
  exact spec_TextOk_l0 s hs s.size 0 (by omega)
theorem impl_TextOk_l0 (s : ByteArray) (hs : s.size ≤ 140737488355328) (d : Nat) : ∀ i : Nat, i + d = s.size → Tot (fun k => impl_TextOk.l0 k s (s.size : Int) (i : Int)) (fun r => r = (((bytesOf s).drop i).all okc && decide ((s.size : Int) ≤ 4))) := by
  induction d with
  | zero =>
    intro i hi
    refine Tot.shift ?_
    simp only [impl_TextOk.l0]
    refine Tot.neg (by omega) (Tot.now ?_)
    rw [List.drop_of_length_le (by rw [bytesOf_length]; omega)]
    simp
  | succ d ih =>
    intro i hi
    refine Tot.shift ?_
    simp only [impl_TextOk.l0]
    refine Tot.pos (by omega) (Tot.pos (by omega) (Tot.pos (by omega) (Tot.bindN (impl_within_eq _ _ _) ?_)))
    rw [w64_bt, w64 (x := (i : Int) + 1) (by omega) (by omega), drop_at s i (by omega), List.all_cons]
    have e : okc (bt s i) = (decide (97 ≤ bt s i) && decide (bt s i ≤ 100)) := rfl
    refine Tot.ite (fun h => ?_) (fun h => Tot.now ?_)
    · rw [e, h, Bool.true_and]; exact ih (i + 1) (by omega)
    · rw [e, Bool.eq_false_iff.2 h]; simp
theorem impl_TextOk_tot (s : ByteArray) (hs : s.size ≤ 140737488355328) : Tot (fun k => impl_TextOk.f k s) (fun r => r = textOk s) := by
  unfold impl_TextOk.f
  exact impl_TextOk_l0 s hs s.size 0 (by omega)
theorem place_step (s : ByteArray) (i : Nat) (h : i < s.size) (hok : textOk s = true) (x : Int) (hx : 0 ≤ x) (hx2 : x ≤ 100 * i) :
    wrap64 (x + wrap64 (wrap64 ((i : Int) + 1) * ((bt s (i : Int) - 97) % 256 + 1))) = x + ((i : Int) + 1) * (bt s (i : Int) - 96) ∧ 0 ≤ ((i : Int) + 1) * (bt s (i : Int) - 96) ∧ ((i : Int) + 1) * (bt s (i : Int) - 96) ≤ 100 := by
  unfold textOk at hok
  rw [Bool.and_eq_true] at hok
  obtain ⟨h1, h2⟩ := hok
  have h3 := of_decide_eq_true h2
  have h4 : bt s (i : Int) ∈ bytesOf s := by
    have := drop_at s i h
    exact List.mem_of_mem_drop (i := i) (by rw [this]; exact List.mem_cons_self)
  have h5 := List.all_eq_true.1 h1 _ h4
  unfold okc at h5
  rw [Bool.and_eq_true] at h5
  have h6 := of_decide_eq_true h5.1
  have h7 := of_decide_eq_true h5.2
  have h8 : (bt s (i : Int) - 97) % 256 + 1 = bt s (i : Int) - 96 := by omega
  rw [h8, w64 (x := (i : Int) + 1) (by omega) (by omega)]
  generalize bt s (i : Int) = c at *
  have hi : i = 0 ∨ i = 1 ∨ i = 2 ∨ i = 3 := by omega
  have hy : 0 ≤ ((i : Int) + 1) * (c - 96) ∧ ((i : Int) + 1) * (c - 96) ≤ 100 := by
    rcases hi with rfl | rfl | rfl | rfl <;> constructor <;> omega
  generalize ((i : Int) + 1) * (c - 96) = y at *
  rw [w64 (x := y) (by omega) (by omega), w64 (by omega) (by omega)]
  exact ⟨rfl, hy⟩
theorem spec_l1Place_l0 (s : ByteArray) (hok : textOk s = true) (hs : s.size ≤ 4) (d : Nat) : ∀ (i : Nat) (x : Int), i + d = s.size → 0 ≤ x → x ≤ 100 * i → Tot (fun k => spec_l1Place.l0 k s x (i : Int)) (fun r => r = (x + psum ((bytesOf s).drop i) (i : Int)) % 8 + 1) := by
  induction d with
  | zero =>
    intro i x hi h0 h1
    refine Tot.shift ?_
    simp only [spec_l1Place.l0]
    refine Tot.neg (by omega) (Tot.now ?_)
    rw [List.drop_of_length_le (by rw [bytesOf_length]; omega), Int.tmod_eq_emod_of_nonneg h0, w64 (by omega) (by omega)]
    simp [psum]
  | succ d ih =>
    intro i x hi h0 h1
    obtain ⟨e1, e2, e3⟩ := place_step s i (by omega) hok x h0 h1
    refine Tot.shift ?_
    simp only [spec_l1Place.l0]
    refine Tot.pos (by omega) (Tot.pos (by omega) ?_)
    rw [e1, w64 (x := (i : Int) + 1) (by omega) (by omega), drop_at s i (by omega)]
    refine (ih (i + 1) _ (by omega) (by omega) (by omega)).mono fun r h => ?_
    rw [h]
    simp only [psum, Int.natCast_add, Int.natCast_one]
    rw [Int.add_assoc]
theorem spec_TextPlace_tot (s : ByteArray) (hs : s.size ≤ 140737488355328) : Tot (fun k => spec_TextPlace.f k s) (fun r => r = if textOk s = true then place s else 0) := by
  unfold spec_TextPlace.f
  refine Tot.bindE (spec_TextOk_tot s hs) (Tot.ite (fun h => ?_) (fun h => ?_))
  · rw [if_pos h]
    have h4 : s.size ≤ 4 := by
      unfold textOk at h
      rw [Bool.and_eq_true] at h
      have := of_decide_eq_true h.2
      omega
    refine Tot.bindE (v := place s) ?_ (Tot.now rfl)
    unfold spec_l1Place.f
    refine (spec_l1Place_l0 s h h4 s.size 0 0 (by omega) (by omega) (by omega)).mono fun r e => ?_
    rw [e]; simp [place]
  · rw [if_neg h]; exact Tot.now rfl
theorem impl_TextPlace_l0 (s : ByteArray) (hok : textOk s = true) (hs : s.size ≤ 4) (d : Nat) : ∀ (i : Nat) (x : Int), i + d = s.size → 0 ≤ x → x ≤ 100 * i → Tot (fun k => impl_TextPlace.l0 k s x (s.size : Int) (i : Int)) (fun r => r = (x + psum ((bytesOf s).drop i) (i : Int)) % 8 + 1) := by
  induction d with
  | zero =>
    intro i x hi h0 h1
    refine Tot.shift ?_
    simp only [impl_TextPlace.l0]
    refine Tot.neg (by omega) (Tot.now ?_)
    rw [List.drop_of_length_le (by rw [bytesOf_length]; omega), Int.tmod_eq_emod_of_nonneg h0, w64 (by omega) (by omega)]
    simp [psum]
  | succ d ih =>
    intro i x hi h0 h1
    obtain ⟨e1, e2, e3⟩ := place_step s i (by omega) hok x h0 h1
    refine Tot.shift ?_
    simp only [impl_TextPlace.l0]
    refine Tot.pos (by omega) (Tot.pos (by omega) (Tot.pos (by omega) ?_))
    rw [e1, w64 (x := (i : Int) + 1) (by omega) (by omega), drop_at s i (by omega)]
    refine (ih (i + 1) _ (by omega) (by omega) (by omega)).mono fun r h => ?_
    rw [h]
    simp only [psum, Int.natCast_add, Int.natCast_one]
    rw [Int.add_assoc]
theorem impl_TextPlace_tot (s : ByteArray) (hs : s.size ≤ 140737488355328) : Tot (fun k => impl_TextPlace.f k s) (fun r => r = if textOk s = true then place s else 0) := by
  unfold impl_TextPlace.f
  refine Tot.bindE (impl_TextOk_tot s hs) (Tot.ite (fun h => ?_) (fun h => ?_))
  · rw [if_pos h]
    have h4 : s.size ≤ 4 := by
      unfold textOk at h
      rw [Bool.and_eq_true] at h
      have := of_decide_eq_true h.2
      omega
    refine (impl_TextPlace_l0 s h h4 s.size 0 0 (by omega) (by omega) (by omega)).mono fun r e => ?_
    rw [e]; simp [place]
  · rw [if_neg h]; exact Tot.now rfl
theorem FnExactTextPlace : laws_FnExactTextPlace.Pure := by
  intro s hs
  refine Tot.rounds ?_
  unfold laws_FnExactTextPlace.f
  refine Tot.ite (fun _ => Tot.now rfl) (fun _ => ?_)
  refine Tot.bindE (spec_TextPlace_tot s (by omega)) (Tot.bindE (impl_TextPlace_tot s (by omega)) ?_)
  exact Tot.pos rfl (Tot.now rfl)
end Go.Proofs.Ytpoleflmmdlgjaa.Pure
