/- A drawn piece has a place, and so has the piece with one letter more, as far on as the letter and its place say. -/
import Derived.Test.YtpoleflmmdlgjaaQFnPlaceOf3
import Derived.Test.YtpoleflmmdlgjaaU
set_option linter.unusedVariables false
set_option linter.unusedSimpArgs false
namespace Go.Proofs.Ytpoleflmmdlgjaa.Pure
open Go.RowKit Go.Proofs.Ytpoleflmmdlgjaa.PFnPlaceOf Go.Proofs.YtpoleflmmdlgjaaW.PrintWords Go.Proofs.YtpoleflmmdlgjaaW.PrintLast Go.Proofs.YtpoleflmmdlgjaaU
/-! ### pieces -/
theorem spec_l6In_eq (a b c : Int) : spec_l6In.f a b c = some (decide (b ≤ a) && decide (a ≤ c)) := by
  unfold spec_l6In.f
  by_cases h : a ≥ b
  · rw [if_pos h]; simp [show b ≤ a from h]
  · rw [if_neg h]; simp [show ¬ b ≤ a from h]
theorem impl_within_eq (a b c : Int) : impl_within.f a b c = some (decide (b ≤ a) && decide (a ≤ c)) := by
  unfold impl_within.f
  by_cases h : a ≥ b
  · rw [if_pos h]; simp [show b ≤ a from h]
  · rw [if_neg h]; simp [show ¬ b ≤ a from h]
theorem spec_TextOk_l0 (s : ByteArray) (hs : s.size ≤ 140737488355328) (d : Nat) : ∀ i : Nat, i + d = s.size → Tot (fun k => spec_TextOk.l0 k s (i : Int)) (fun r => r = (((bytesOf s).drop i).all okc && decide ((s.size : Int) ≤ 4))) := by
  induction d with
  | zero =>
    intro i hi
    refine Tot.shift ?_
    simp only [spec_TextOk.l0]
    refine Tot.neg (by omega) (Tot.now ?_)
    rw [List.drop_of_length_le (by rw [bytesOf_length]; omega)]
    simp
  | succ d ih =>
    intro i hi
    refine Tot.shift ?_
    simp only [spec_TextOk.l0]
    refine Tot.pos (by omega) (Tot.pos (by omega) (Tot.bindN (spec_l6In_eq _ _ _) ?_))
    rw [w64_bt, w64 (x := (i : Int) + 1) (by omega) (by omega), drop_at s i (by omega), List.all_cons]
    have e : okc (bt s i) = (decide (97 ≤ bt s i) && decide (bt s i ≤ 100)) := rfl
    refine Tot.ite (fun h => ?_) (fun h => Tot.now ?_)
    · rw [e, h, Bool.true_and]; exact ih (i + 1) (by omega)
    · rw [e, Bool.eq_false_iff.2 h]; simp
theorem spec_TextOk_tot (s : ByteArray) (hs : s.size ≤ 140737488355328) : Tot (fun k => spec_TextOk.f k s) (fun r => r = textOk s) := by
  unfold spec_TextOk.f
  exact spec_TextOk_l0 s hs s.size 0 (by omega)
theorem impl_TextOk_l0 (s : ByteArray) (hs : s.size ≤ 140737488355328) (d : Nat) : ∀ i : Nat, i + d = s.size → Tot (fun k => impl_TextOk.l0 k s (s.size : Int) (i : Int)) (fun r => r = (((bytesOf s).drop i).all okc && decide ((s.size : Int) ≤ 4))) := by
  induction d with
  | zero =>
    intro i hi
    refine Tot.shift ?_
    simp only [impl_TextOk.l0]
    refine Tot.neg (by omega) (Tot.now ?_)
    rw [List.drop_of_length_le (by rw [bytesOf_length]; omega)]
    simp
  | succ d ih =>
    intro i hi
    refine Tot.shift ?_
    simp only [impl_TextOk.l0]
    refine Tot.pos (by omega) (Tot.pos (by omega) (Tot.pos (by omega) (Tot.bindN (impl_within_eq _ _ _) ?_)))
    rw [w64_bt, w64 (x := (i : Int) + 1) (by omega) (by omega), drop_at s i (by omega), List.all_cons]
    have e : okc (bt s i) = (decide (97 ≤ bt s i) && decide (bt s i ≤ 100)) := rfl
    refine Tot.ite (fun h => ?_) (fun h => Tot.now ?_)
    · rw [e, h, Bool.true_and]; exact ih (i + 1) (by omega)
    · rw [e, Bool.eq_false_iff.2 h]; simp
theorem impl_TextOk_tot (s : ByteArray) (hs : s.size ≤ 140737488355328) : Tot (fun k => impl_TextOk.f k s) (fun r => r = textOk s) := by
  unfold impl_TextOk.f
  exact impl_TextOk_l0 s hs s.size 0 (by omega)
theorem tmod8 {a : Int} (h : 1 ≤ a) : Int.tmod a 8 = a % 8 := Int.tmod_eq_emod_of_nonneg (by omega)
theorem impl_TextNext_eq (a : Int) : impl_TextNext.f a = some (next a) := by
  unfold impl_TextNext.f impl_isSlot.f
  rw [impl_within_eq, Option.bind_some, Option.bind_some]
  unfold next
  by_cases h : 1 ≤ a ∧ a ≤ 8
  · rw [if_pos h, if_pos (by simp [h.1, h.2])]
    rw [tmod8 h.1, w64 (by omega) (by omega)]
  · rw [if_neg h, if_neg (by simpa using h)]
theorem place_step (s : ByteArray) (i : Nat) (h : i < s.size) (hok : textOk s = true) (x : Int) (hx : 0 ≤ x) (hx2 : x ≤ 100 * i) :
    wrap64 (x + wrap64 (wrap64 ((i : Int) + 1) * ((bt s (i : Int) - 97) % 256 + 1))) = x + ((i : Int) + 1) * (bt s (i : Int) - 96) ∧ 0 ≤ ((i : Int) + 1) * (bt s (i : Int) - 96) ∧ ((i : Int) + 1) * (bt s (i : Int) - 96) ≤ 100 := by
  unfold textOk at hok
  rw [Bool.and_eq_true] at hok
  obtain ⟨h1, h2⟩ := hok
  have h3 := of_decide_eq_true h2
  have h4 : bt s (i : Int) ∈ bytesOf s := by
    have := drop_at s i h
    exact List.mem_of_mem_drop (i := i) (by rw [this]; exact List.mem_cons_self)
  have h5 := List.all_eq_true.1 h1 _ h4
  unfold okc at h5
  rw [Bool.and_eq_true] at h5
  have h6 := of_decide_eq_true h5.1
  have h7 := of_decide_eq_true h5.2
  have h8 : (bt s (i : Int) - 97) % 256 + 1 = bt s (i : Int) - 96 := by omega
  rw [h8, w64 (x := (i : Int) + 1) (by omega) (by omega)]
  generalize bt s (i : Int) = c at *
  have hi : i = 0 ∨ i = 1 ∨ i = 2 ∨ i = 3 := by omega
  have hy : 0 ≤ ((i : Int) + 1) * (c - 96) ∧ ((i : Int) + 1) * (c - 96) ≤ 100 := by
    rcases hi with rfl | rfl | rfl | rfl <;> constructor <;> omega
  generalize ((i : Int) + 1) * (c - 96) = y at *
  rw [w64 (x := y) (by omega) (by omega), w64 (by omega) (by omega)]
  exact ⟨rfl, hy⟩
theorem spec_l1Place_l0 (s : ByteArray) (hok : textOk s = true) (hs : s.size ≤ 4) (d : Nat) : ∀ (i : Nat) (x : Int), i + d = s.size → 0 ≤ x → x ≤ 100 * i → Tot (fun k => spec_l1Place.l0 k s x (i : Int)) (fun r => r = (x + psum ((bytesOf s).drop i) (i : Int)) % 8 + 1) := by
  induction d with
  | zero =>
    intro i x hi h0 h1
    refine Tot.shift ?_
    simp only [spec_l1Place.l0]
    refine Tot.neg (by omega) (Tot.now ?_)
    rw [List.drop_of_length_le (by rw [bytesOf_length]; omega), Int.tmod_eq_emod_of_nonneg h0, w64 (by omega) (by omega)]
    simp [psum]
  | succ d ih =>
    intro i x hi h0 h1
    obtain ⟨e1, e2, e3⟩ := place_step s i (by omega) hok x h0 h1
    refine Tot.shift ?_
    simp only [spec_l1Place.l0]
    refine Tot.pos (by omega) (Tot.pos (by omega) ?_)
    rw [e1, w64 (x := (i : Int) + 1) (by omega) (by omega), drop_at s i (by omega)]
    refine (ih (i + 1) _ (by omega) (by omega) (by omega)).mono fun r h => ?_
    rw [h]
    simp only [psum, Int.natCast_add, Int.natCast_one]
    rw [Int.add_assoc]
theorem spec_TextPlace_tot (s : ByteArray) (hs : s.size ≤ 140737488355328) : Tot (fun k => spec_TextPlace.f k s) (fun r => r = if textOk s = true then place s else 0) := by
  unfold spec_TextPlace.f
  refine Tot.bindE (spec_TextOk_tot s hs) (Tot.ite (fun h => ?_) (fun h => ?_))
  · rw [if_pos h]
    have h4 : s.size ≤ 4 := by
      unfold textOk at h
      rw [Bool.and_eq_true] at h
      have := of_decide_eq_true h.2
      omega
    refine Tot.bindE (v := place s) ?_ (Tot.now rfl)
    unfold spec_l1Place.f
    refine (spec_l1Place_l0 s h h4 s.size 0 0 (by omega) (by omega) (by omega)).mono fun r e => ?_
    rw [e]; simp [place]
  · rw [if_neg h]; exact Tot.now rfl
theorem impl_TextPlace_l0 (s : ByteArray) (hok : textOk s = true) (hs : s.size ≤ 4) (d : Nat) : ∀ (i : Nat) (x : Int), i + d = s.size → 0 ≤ x → x ≤ 100 * i → Tot (fun k => impl_TextPlace.l0 k s x (s.size : Int) (i : Int)) (fun r => r = (x + psum ((bytesOf s).drop i) (i : Int)) % 8 + 1) := by
  induction d with
  | zero =>
    intro i x hi h0 h1
    refine Tot.shift ?_
    simp only [impl_TextPlace.l0]
    refine Tot.neg (by omega) (Tot.now ?_)
    rw [List.drop_of_length_le (by rw [bytesOf_length]; omega), Int.tmod_eq_emod_of_nonneg h0, w64 (by omega) (by omega)]
    simp [psum]
  | succ d ih =>
    intro i x hi h0 h1
    obtain ⟨e1, e2, e3⟩ := place_step s i (by omega) hok x h0 h1
    refine Tot.shift ?_
    simp only [impl_TextPlace.l0]
    refine Tot.pos (by omega) (Tot.pos (by omega) (Tot.pos (by omega) ?_))
    rw [e1, w64 (x := (i : Int) + 1) (by omega) (by omega), drop_at s i (by omega)]
    refine (ih (i + 1) _ (by omega) (by omega) (by omega)).mono fun r h => ?_
    rw [h]
    simp only [psum, Int.natCast_add, Int.natCast_one]
    rw [Int.add_assoc]
theorem impl_TextPlace_tot (s : ByteArray) (hs : s.size ≤ 140737488355328) : Tot (fun k => impl_TextPlace.f k s) (fun r => r = if textOk s = true then place s else 0) := by
  unfold impl_TextPlace.f
  refine Tot.bindE (impl_TextOk_tot s hs) (Tot.ite (fun h => ?_) (fun h => ?_))
  · rw [if_pos h]
    have h4 : s.size ≤ 4 := by
      unfold textOk at h
      rw [Bool.and_eq_true] at h
      have := of_decide_eq_true h.2
      omega
    refine (impl_TextPlace_l0 s h h4 s.size 0 0 (by omega) (by omega) (by omega)).mono fun r e => ?_
    rw [e]; simp [place]
  · rw [if_neg h]; exact Tot.now rfl
/-! ### the reader of codes -/
/-- Its bytes are bytes, not too many, and its place is not far. -/
structure Rdr (b : List Int) (p : Int) : Prop where
  bytes : ∀ x ∈ b, 0 ≤ x ∧ x ≤ 255
  len : b.length ≤ 2000
  lo : 0 ≤ p
  hi : p ≤ 1000000000000
theorem rd_byte {b : List Int} (hb : ∀ x ∈ b, 0 ≤ x ∧ x ≤ 255) (i : Int) : 0 ≤ rd b i ∧ rd b i ≤ 255 := by
  unfold rd
  rw [List.getD_eq_getElem?_getD]
  by_cases h : i.toNat < b.length
  · rw [List.getElem?_eq_getElem h]
    exact hb _ (List.getElem_mem h)
  · rw [List.getElem?_eq_none (by omega)]
    exact ⟨by simp, by simp⟩
theorem tmod_pos {a n : Int} (h : 0 ≤ a) (hn : 1 ≤ n) : 0 ≤ Int.tmod a n ∧ Int.tmod a n < n := by
  rw [Int.tmod_eq_emod_of_nonneg h]
  exact ⟨Int.emod_nonneg _ (by omega), Int.emod_lt_of_pos _ (by omega)⟩
theorem pick_tot {b : List Int} {p n : Int} (R : Rdr b p) : Tot (fun k => spec_l6Rd_pick.f k b p n) (fun r => r.2 = p + 1 ∧ (1 ≤ n → 0 ≤ r.1 ∧ r.1 < n)) := by
  obtain ⟨hb, hl, h0, h1⟩ := R
  unfold spec_l6Rd_pick.f
  rw [w64 (x := p + 1) (by omega) (by omega)]
  refine Tot.ite (fun h => ?_) (fun h => ?_)
  · refine Tot.shift ?_
    simp only [spec_l6Rd_pick.j0]
    exact Tot.pos (by simp) (Tot.now ⟨rfl, fun h2 => ⟨Int.le_refl _, by omega⟩⟩)
  · refine Tot.shift ?_
    simp only [spec_l6Rd_pick.j0]
    rw [w64 (x := p + 1 - 1) (by omega) (by omega), show p + 1 - 1 = p from by omega]
    refine Tot.ite (fun h2 => Tot.now ⟨rfl, fun h3 => ⟨Int.le_refl _, by omega⟩⟩) (fun h2 => ?_)
    have hne : ¬ (b.length : Int) = 0 := by simpa using h2
    have hpos : (1 : Int) ≤ b.length := by omega
    refine Tot.ite (fun h3 => Tot.pos h0 (Tot.neg (by omega) (Tot.now ⟨rfl, fun h4 => ?_⟩))) (fun h3 => ?_)
    · have := rd_byte hb p
      rw [w64 (by omega) (by omega)]
      exact tmod_pos this.1 h4
    · have m1 := tmod_pos h0 hpos
      rw [w64 (x := p * 7) (by omega) (by omega), w64 (x := p * 7 + 3) (by omega) (by omega)]
      have m2 := tmod_pos (a := p * 7 + 3) (by omega) hpos
      have r1 := rd_byte hb (Int.tmod p b.length)
      have r2 := rd_byte hb (Int.tmod (p * 7 + 3) b.length)
      have q0 : 0 ≤ Int.tdiv p b.length ∧ Int.tdiv p b.length ≤ p := by
        rw [Int.tdiv_eq_ediv_of_nonneg h0]
        exact ⟨Int.ediv_nonneg h0 (by omega), Int.ediv_le_self _ h0⟩
      refine Tot.neg hne (Tot.pos m1.1 (Tot.pos m1.2 (Tot.pos m2.1 (Tot.pos m2.2 (Tot.neg (by omega) (Tot.now ⟨rfl, fun h4 => ?_⟩))))))
      generalize rd b (Int.tmod p b.length) = x1 at *
      generalize rd b (Int.tmod (p * 7 + 3) b.length) = x2 at *
      generalize Int.tdiv p b.length = q at *
      rw [w64 (x := x1) (by omega) (by omega), w64 (x := x2) (by omega) (by omega), w64 (x := q) (by omega) (by omega), w64 (x := x1 * 131) (by omega) (by omega), w64 (x := x2 * 1117) (by omega) (by omega), w64 (x := x1 * 131 + x2 * 1117) (by omega) (by omega), w64 (x := p * 29) (by omega) (by omega), w64 (x := x1 * 131 + x2 * 1117 + p * 29) (by omega) (by omega), w64 (x := q * 53) (by omega) (by omega), w64 (x := x1 * 131 + x2 * 1117 + p * 29 + q * 53) (by omega) (by omega)]
      generalize hX : x1 * 131 + x2 * 1117 + p * 29 + q * 53 = X
      have X0 : 0 ≤ X := by omega
      have X1 : X < 9223372036854775808 := by omega
      have d0 : 0 ≤ Int.tdiv X 64 ∧ Int.tdiv X 64 ≤ X := by
        rw [Int.tdiv_eq_ediv_of_nonneg X0]; omega
      rw [w64 (x := Int.tdiv X 64) (by omega) (by omega)]
      exact tmod_pos (bits_xor_nonneg X0 X1 d0.1 (by omega)) h4
theorem l6Open_tot (l : List Int) (h8 : ∀ x ∈ l, (Lit.int .u8 x).wf = true) : ∃ v, spec_l6Open.f l = some v ∧ Rdr v.1 v.2 ∧ v.2 = 0 := by
  have hb : ∀ x ∈ l, 0 ≤ x ∧ x ≤ 255 := fun x hx => wf_u8 (h8 x hx)
  unfold spec_l6Open.f
  by_cases h : (l.length : Int) > 2000
  · rw [if_pos h, if_pos (by omega)]
    exact ⟨_, rfl, ⟨fun x hx => hb x (List.mem_of_mem_take hx), by simp; omega, by simp, by simp⟩, rfl⟩
  · rw [if_neg h]
    exact ⟨_, rfl, ⟨hb, by simp; omega, by simp, by simp⟩, rfl⟩
theorem Rdr.go {b : List Int} {p q : Int} (R : Rdr b p) (h : p ≤ q) (h' : q ≤ 1000000000000) : Rdr b q := ⟨R.bytes, R.len, Int.le_trans R.lo h, h'⟩
theorem of_tot {b : List Int} {p : Int} {l : List ByteArray} (R : Rdr b p) (hl : 1 ≤ l.length) : Tot (fun k => spec_l6Rd_of.f k b p l) (fun r => r.2 = p + 1 ∧ r.1 ∈ l) := by
  unfold spec_l6Rd_of.f
  refine Tot.bind (pick_tot R) fun a ⟨ha, hr⟩ => ?_
  have := hr (by omega)
  refine Tot.pos this.1 (Tot.pos this.2 (Tot.now ⟨ha, ?_⟩))
  unfold rdOf
  rw [List.getD_eq_getElem?_getD, List.getElem?_eq_getElem (show a.1.toNat < l.length by omega)]
  exact List.getElem_mem _
/-! ### a drawn piece -/
theorem mem_small {l : List ByteArray} {s : ByteArray} (n : Nat) (h : s ∈ l) (hl : l.all (fun x => decide (x.size ≤ n)) = true) : s.size ≤ n :=
  of_decide_eq_true (List.all_eq_true.1 hl s h)
theorem text_l0 {b : List Int} (d : Nat) : ∀ (s : ByteArray) (p : Int), s.size + d ≤ 1000 → Rdr b p → p + d ≤ 1000000000000 - 10 → Tot (fun k => spec_l71Text.l0 k s (d : Int) b p) (fun r => r.1.size ≤ s.size + d + 4 ∧ p ≤ r.2 ∧ r.2 ≤ p + d + 2) := by
  induction d with
  | zero =>
    intro s p hs R hp
    refine Tot.shift ?_
    simp only [spec_l71Text.l0]
    refine Tot.neg (by omega) (Tot.bind (pick_tot R) fun a ⟨ha, _⟩ => Tot.ite (fun _ => ?_) (fun _ => Tot.now ⟨by simp only []; omega, by simp only []; omega, by simp only []; omega⟩))
    refine Tot.bind (of_tot (R.go (q := a.2) (by omega) (by omega)) (by simp)) fun c ⟨hc, hm⟩ => ?_
    have hz := mem_small 4 hm (by decide +kernel)
    refine Tot.pos (by omega) (Tot.now ⟨?_, by simp only []; omega, by simp only []; omega⟩)
    rw [ByteArray.size_append]; omega
  | succ d ih =>
    intro s p hs R hp
    refine Tot.shift ?_
    simp only [spec_l71Text.l0]
    refine Tot.pos (by omega) (Tot.bind (of_tot R (by simp)) fun c ⟨hc, hm⟩ => ?_)
    have hz := mem_small 1 hm (by decide +kernel)
    have e : wrap64 (((d + 1 : Nat) : Int) - 1) = (d : Int) := by rw [w64 (by omega) (by omega)]; omega
    rw [e]
    have hsz : (s ++ c.1).size ≤ s.size + 1 := by rw [ByteArray.size_append]; omega
    exact Tot.pos (by omega) ((ih (s ++ c.1) c.2 (by omega) (R.go (by omega) (by omega)) (by omega)).mono fun r ⟨h1, h2, h3⟩ => ⟨by omega, by omega, by omega⟩)
theorem text_tot {b : List Int} {p : Int} (R : Rdr b p) (hp : p ≤ 1000000000000 - 100) : Tot (fun k => spec_l71Text.f k b p) (fun r => r.1.size ≤ 7 ∧ p ≤ r.2 ∧ r.2 ≤ p + 6) := by
  unfold spec_l71Text.f
  refine Tot.bind (pick_tot R) fun a ⟨ha, hr⟩ => ?_
  have h4 := hr (by omega)
  obtain ⟨d, hd⟩ := Int.eq_ofNat_of_zero_le h4.1
  rw [hd]
  have hz : (⟨#[]⟩ : ByteArray).size = 0 := rfl
  refine (text_l0 d _ a.2 (by omega) (R.go (by omega) (by omega)) (by omega)).mono fun r ⟨h1, h2, h3⟩ => ⟨?_, by omega, by omega⟩
  omega
theorem draw (l : List Int) (h8 : ∀ x ∈ l, (Lit.int .u8 x).wf = true) : Tot (fun k => spec_DrawTextPlace.f k l) (fun s => s.size ≤ 100) := by
  unfold spec_DrawTextPlace.f
  exact Tot.bindO (l6Open_tot l h8) fun v ⟨R, hv⟩ => Tot.bind (text_tot R (by omega)) fun a ⟨h1, _, _⟩ => Tot.now (by omega)
theorem next_step (n m : Int) (h : 1 ≤ n) (hm : 0 ≤ m) : next ((n - 1 + m) % 8 + 1) = (n - 1 + (m + 1)) % 8 + 1 := by
  unfold next
  rw [if_pos (by omega)]
  omega
theorem go_l0 (s t : ByteArray) (c n : Int) (hc : 0 ≤ c ∧ c ≤ 3) (hs : s.size ≤ 100) (h1 : 1 ≤ n ∧ n ≤ 8)
    (ht : t = (⟨#[97, 98, 99, 100]⟩ : ByteArray).extract c.toNat (c + 1).toNat) (hv : textOk (s ++ t) = true) (hp : place (s ++ t) = (n - 1 + ((s.size : Int) + 1) * (c + 1)) % 8 + 1)
    (d : Nat) : ∀ i : Int, 0 ≤ i → i + d = ((s.size : Int) + 1) * (c + 1) → Tot (fun k => laws_FnPlaceOf.l0 k s c ((n - 1 + i) % 8 + 1) i) (fun r => r = true) := by
  have hz : t.size ≤ 4 := by
    have := size_extract_le (⟨#[97, 98, 99, 100]⟩ : ByteArray) c.toNat (c + 1).toNat
    rw [ht]; exact this
  have hsz : (s ++ t).size = s.size + t.size := ByteArray.size_append
  have hb : ((s.size : Int) + 1) * (c + 1) ≤ 101 * 4 := Int.mul_le_mul (by omega) (by omega) (by omega) (by omega)
  have hb0 : 0 ≤ ((s.size : Int) + 1) * (c + 1) := Int.mul_nonneg (by omega) (by omega)
  induction d with
  | zero =>
    intro i h0 hi
    refine Tot.shift ?_
    simp only [laws_FnPlaceOf.l0]
    rw [w64 (x := (s.size : Int) + 1) (by omega) (by omega), w64 (x := c + 1) (by omega) (by omega), w64 (x := ((s.size : Int) + 1) * (c + 1)) (by omega) (by omega), ← ht]
    refine Tot.neg (by omega) (Tot.pos hc.1 (Tot.pos (by omega) (Tot.pos (by omega) (Tot.pos (by omega) (Tot.bindE (impl_TextPlace_tot _ (by omega)) (Tot.now ?_))))))
    rw [if_pos hv, hp, show i = ((s.size : Int) + 1) * (c + 1) from by omega]
    simp
  | succ d ih =>
    intro i h0 hi
    refine Tot.shift ?_
    simp only [laws_FnPlaceOf.l0]
    rw [w64 (x := (s.size : Int) + 1) (by omega) (by omega), w64 (x := c + 1) (by omega) (by omega), w64 (x := ((s.size : Int) + 1) * (c + 1)) (by omega) (by omega), ← ht, w64 (x := i + 1) (by omega) (by omega)]
    refine Tot.pos (by omega) (Tot.bindN (impl_TextNext_eq _) ?_)
    rw [next_step n i h1.1 h0]
    exact ih (i + 1) (by omega) (by omega)
theorem go_j2 (l1 : List Int) (s : ByteArray) (b : Bool) (hs : s.size ≤ 100) (ok : textOk s = true) (hb : b = false) : Tot (fun k => laws_FnPlaceOf.j2 k l1 s (place s) b) (fun r => r = true) := by
  subst hb
  refine Tot.shift ?_
  simp only [laws_FnPlaceOf.j2]
  refine Tot.neg (by simp) (Tot.ite (fun _ => Tot.now rfl) (fun h4 => ?_))
  have hlen : s.size ≤ 4 := textOk_size ok
  have pr := place_range s
  have c0 : 0 ≤ (l1.length : Int) % 4 := by omega
  have c1 : (l1.length : Int) % 4 ≤ 3 := by omega
  generalize (l1.length : Int) % 4 = c at *
  have hc : c = 0 ∨ c = 1 ∨ c = 2 ∨ c = 3 := by omega
  have ht : bytesOf ((⟨#[97, 98, 99, 100]⟩ : ByteArray).extract c.toNat (c + 1).toNat) = [97 + c] := by
    rcases hc with rfl | rfl | rfl | rfl <;> decide +kernel
  have hts : ((⟨#[97, 98, 99, 100]⟩ : ByteArray).extract c.toNat (c + 1).toNat).size = 1 := by
    rcases hc with rfl | rfl | rfl | rfl <;> decide +kernel
  have hl : (bytesOf s).length = s.size := bytesOf_length s
  have hv : textOk (s ++ (⟨#[97, 98, 99, 100]⟩ : ByteArray).extract c.toNat (c + 1).toNat) = true := by
    unfold textOk at ok ⊢
    rw [Bool.and_eq_true] at ok
    rw [bytesOf_append, List.all_append, ht, ok.1, ByteArray.size_append, hts, decide_eq_true (by omega)]
    simp [okc]; omega
  have hp : place (s ++ (⟨#[97, 98, 99, 100]⟩ : ByteArray).extract c.toNat (c + 1).toNat) = (place s - 1 + ((s.size : Int) + 1) * (c + 1)) % 8 + 1 := by
    unfold place
    rw [bytesOf_append, ht, psum_snoc, hl]
    have e : (0 : Int) + (s.size : Int) + 1 = (s.size : Int) + 1 := by omega
    have e2 : (97 + c - 96 : Int) = c + 1 := by omega
    rw [e, e2]
    generalize ((s.size : Int) + 1) * (c + 1) = y
    omega
  have := go_l0 s _ c (place s) ⟨c0, c1⟩ hs pr rfl hv hp (((s.size : Int) + 1) * (c + 1)).toNat 0 (by omega) (by
    have : 0 ≤ ((s.size : Int) + 1) * (c + 1) := Int.mul_nonneg (by omega) (by omega)
    omega)
  rwa [show (place s - 1 + 0) % 8 + 1 = place s from by omega] at this
theorem go_j1 (l1 : List Int) (s : ByteArray) (b : Bool) (hs : s.size ≤ 100) (hb : b = !(textOk s)) : Tot (fun k => laws_FnPlaceOf.j1 k l1 s (if textOk s = true then place s else 0) b) (fun r => r = true) := by
  refine Tot.shift ?_
  simp only [laws_FnPlaceOf.j1]
  refine Tot.ite (fun _ => Tot.bindE (spec_TextPlace_tot s (by omega)) (Tot.now (by simp))) (fun h => ?_)
  have ok : textOk s = true := by rw [hb] at h; simpa using h
  rw [if_pos ok]
  have pr := place_range s
  exact Tot.neg (by omega) (go_j2 l1 s _ hs ok (decide_eq_false (by omega)))
theorem go_j0 (l0 l1 : List Int) (h8 : ∀ x ∈ l0, (Lit.int .u8 x).wf = true) (b : Bool) : Tot (fun k => laws_FnPlaceOf.j0 k l0 l1 b) (fun r => r = true) := by
  refine Tot.shift ?_
  simp only [laws_FnPlaceOf.j0]
  refine Tot.ite (fun _ => Tot.now rfl) (fun _ => ?_)
  refine Tot.bind (draw l0 h8) fun s hs => Tot.bindE (impl_TextPlace_tot s (by omega)) (Tot.bindE (spec_TextPlace_tot s (by omega)) (Tot.pos rfl (Tot.bindE (spec_TextOk_tot s (by omega)) ?_)))
  exact go_j1 l1 s _ hs rfl
theorem FnPlaceOf : laws_FnPlaceOf.Pure := by
  intro l0 l1 _ _ h8 _ _ _
  refine Tot.rounds ?_
  unfold laws_FnPlaceOf.f
  exact Tot.ite (fun _ => go_j0 l0 l1 h8 _) (fun _ => go_j0 l0 l1 h8 _)
end Go.Proofs.Ytpoleflmmdlgjaa.Pure
