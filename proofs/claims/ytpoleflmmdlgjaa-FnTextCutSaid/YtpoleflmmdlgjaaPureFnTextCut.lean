/- What is cut of a drawn piece is a piece, and what is put to it as the law says is none. -/
import Derived.Test.YtpoleflmmdlgjaaQFnTextCut2
import Derived.Test.YtpoleflmmdlgjaaU
set_option linter.unusedVariables false
set_option linter.unusedSimpArgs false
namespace Go.Proofs.Ytpoleflmmdlgjaa.Pure
open Go.RowKit Go.Proofs.Ytpoleflmmdlgjaa.PFnTextCut Go.Proofs.YtpoleflmmdlgjaaW.PrintWords Go.Proofs.YtpoleflmmdlgjaaW.PrintLast Go.Proofs.YtpoleflmmdlgjaaU
/-! ### pieces -/
theorem spec_l6In_eq (a b c : Int) : spec_l6In.f a b c = some (decide (b ≤ a) && decide (a ≤ c)) := by
  unfold spec_l6In.f
  by_cases h : a ≥ b
  · rw [if_pos h]; simp [show b ≤ a from h]
  · rw [if_neg h]; simp [show ¬ b ≤ a from h]
theorem impl_within_eq (a b c : Int) : impl_within.f a b c = some (decide (b ≤ a) && decide (a ≤ c)) := by
  unfold impl_within.f
  by_cases h : a ≥ b
  · rw [if_pos h]; simp [show b ≤ a from h]
  · rw [if_neg h]; simp [show ¬ b ≤ a from h]
theorem spec_TextOk_l0 (s : ByteArray) (hs : s.size ≤ 140737488355328) (d : Nat) : ∀ i : Nat, i + d = s.size → Tot (fun k => spec_TextOk.l0 k s (i : Int)) (fun r => r = (((bytesOf s).drop i).all okc && decide ((s.size : Int) ≤ 4))) := by
  induction d with
  | zero =>
    intro i hi
    refine Tot.shift ?_
    simp only [spec_TextOk.l0]
    refine Tot.neg (by omega) (Tot.now ?_)
    rw [List.drop_of_length_le (by rw [bytesOf_length]; omega)]
    simp
  | succ d ih =>
    intro i hi
    refine Tot.shift ?_
    simp only [spec_TextOk.l0]
    refine Tot.pos (by omega) (Tot.pos (by omega) (Tot.bindN (spec_l6In_eq _ _ _) ?_))
    rw [w64_bt, w64 (x := (i : Int) + 1) (by omega) (by omega), drop_at s i (by omega), List.all_cons]
    have e : okc (bt s i) = (decide (97 ≤ bt s i) && decide (bt s i ≤ 100)) := rfl
    refine Tot.ite (fun h => ?_) (fun h => Tot.now ?_)
    · rw [e, h, Bool.true_and]; exact ih (i + 1) (by omega)
    · rw [e, Bool.eq_false_iff.2 h]; simp
theorem spec_TextOk_tot (s : ByteArray) (hs : s.size ≤ 140737488355328) : Tot (fun k => spec_TextOk.f k s) (fun r => r = textOk s) := by
  unfold spec_TextOk.f
  exact spec_TextOk_l0 s hs s.size 0 (by omega)
theorem impl_TextOk_l0 (s : ByteArray) (hs : s.size ≤ 140737488355328) (d : Nat) : ∀ i : Nat, i + d = s.size → Tot (fun k => impl_TextOk.l0 k s (s.size : Int) (i : Int)) (fun r => r = (((bytesOf s).drop i).all okc && decide ((s.size : Int) ≤ 4))) := by
  induction d with
  | zero =>
    intro i hi
    refine Tot.shift ?_
    simp only [impl_TextOk.l0]
    refine Tot.neg (by omega) (Tot.now ?_)
    rw [List.drop_of_length_le (by rw [bytesOf_length]; omega)]
    simp
  | succ d ih =>
    intro i hi
    refine Tot.shift ?_
    simp only [impl_TextOk.l0]
    refine Tot.pos (by omega) (Tot.pos (by omega) (Tot.pos (by omega) (Tot.bindN (impl_within_eq _ _ _) ?_)))
    rw [w64_bt, w64 (x := (i : Int) + 1) (by omega) (by omega), drop_at s i (by omega), List.all_cons]
    have e : okc (bt s i) = (decide (97 ≤ bt s i) && decide (bt s i ≤ 100)) := rfl
    refine Tot.ite (fun h => ?_) (fun h => Tot.now ?_)
    · rw [e, h, Bool.true_and]; exact ih (i + 1) (by omega)
    · rw [e, Bool.eq_false_iff.2 h]; simp
theorem impl_TextOk_tot (s : ByteArray) (hs : s.size ≤ 140737488355328) : Tot (fun k => impl_TextOk.f k s) (fun r => r = textOk s) := by
  unfold impl_TextOk.f
  exact impl_TextOk_l0 s hs s.size 0 (by omega)
/-! ### the reader of codes -/
/-- Its bytes are bytes, not too many, and its place is not far. -/
structure Rdr (b : List Int) (p : Int) : Prop where
  bytes : ∀ x ∈ b, 0 ≤ x ∧ x ≤ 255
  len : b.length ≤ 2000
  lo : 0 ≤ p
  hi : p ≤ 1000000000000
theorem rd_byte {b : List Int} (hb : ∀ x ∈ b, 0 ≤ x ∧ x ≤ 255) (i : Int) : 0 ≤ rd b i ∧ rd b i ≤ 255 := by
  unfold rd
  rw [List.getD_eq_getElem?_getD]
  by_cases h : i.toNat < b.length
  · rw [List.getElem?_eq_getElem h]
    exact hb _ (List.getElem_mem h)
  · rw [List.getElem?_eq_none (by omega)]
    exact ⟨by simp, by simp⟩
theorem tmod_pos {a n : Int} (h : 0 ≤ a) (hn : 1 ≤ n) : 0 ≤ Int.tmod a n ∧ Int.tmod a n < n := by
  rw [Int.tmod_eq_emod_of_nonneg h]
  exact ⟨Int.emod_nonneg _ (by omega), Int.emod_lt_of_pos _ (by omega)⟩
theorem pick_tot {b : List Int} {p n : Int} (R : Rdr b p) : Tot (fun k => spec_l6Rd_pick.f k b p n) (fun r => r.2 = p + 1 ∧ (1 ≤ n → 0 ≤ r.1 ∧ r.1 < n)) := by
  obtain ⟨hb, hl, h0, h1⟩ := R
  unfold spec_l6Rd_pick.f
  rw [w64 (x := p + 1) (by omega) (by omega)]
  refine Tot.ite (fun h => ?_) (fun h => ?_)
  · refine Tot.shift ?_
    simp only [spec_l6Rd_pick.j0]
    exact Tot.pos (by simp) (Tot.now ⟨rfl, fun h2 => ⟨Int.le_refl _, by omega⟩⟩)
  · refine Tot.shift ?_
    simp only [spec_l6Rd_pick.j0]
    rw [w64 (x := p + 1 - 1) (by omega) (by omega), show p + 1 - 1 = p from by omega]
    refine Tot.ite (fun h2 => Tot.now ⟨rfl, fun h3 => ⟨Int.le_refl _, by omega⟩⟩) (fun h2 => ?_)
    have hne : ¬ (b.length : Int) = 0 := by simpa using h2
    have hpos : (1 : Int) ≤ b.length := by omega
    refine Tot.ite (fun h3 => Tot.pos h0 (Tot.neg (by omega) (Tot.now ⟨rfl, fun h4 => ?_⟩))) (fun h3 => ?_)
    · have := rd_byte hb p
      rw [w64 (by omega) (by omega)]
      exact tmod_pos this.1 h4
    · have m1 := tmod_pos h0 hpos
      rw [w64 (x := p * 7) (by omega) (by omega), w64 (x := p * 7 + 3) (by omega) (by omega)]
      have m2 := tmod_pos (a := p * 7 + 3) (by omega) hpos
      have r1 := rd_byte hb (Int.tmod p b.length)
      have r2 := rd_byte hb (Int.tmod (p * 7 + 3) b.length)
      have q0 : 0 ≤ Int.tdiv p b.length ∧ Int.tdiv p b.length ≤ p := by
        rw [Int.tdiv_eq_ediv_of_nonneg h0]
        exact ⟨Int.ediv_nonneg h0 (by omega), Int.ediv_le_self _ h0⟩
      refine Tot.neg hne (Tot.pos m1.1 (Tot.pos m1.2 (Tot.pos m2.1 (Tot.pos m2.2 (Tot.neg (by omega) (Tot.now ⟨rfl, fun h4 => ?_⟩))))))
      generalize rd b (Int.tmod p b.length) = x1 at *
      generalize rd b (Int.tmod (p * 7 + 3) b.length) = x2 at *
      generalize Int.tdiv p b.length = q at *
      rw [w64 (x := x1) (by omega) (by omega), w64 (x := x2) (by omega) (by omega), w64 (x := q) (by omega) (by omega), w64 (x := x1 * 131) (by omega) (by omega), w64 (x := x2 * 1117) (by omega) (by omega), w64 (x := x1 * 131 + x2 * 1117) (by omega) (by omega), w64 (x := p * 29) (by omega) (by omega), w64 (x := x1 * 131 + x2 * 1117 + p * 29) (by omega) (by omega), w64 (x := q * 53) (by omega) (by omega), w64 (x := x1 * 131 + x2 * 1117 + p * 29 + q * 53) (by omega) (by omega)]
      generalize hX : x1 * 131 + x2 * 1117 + p * 29 + q * 53 = X
      have X0 : 0 ≤ X := by omega
      have X1 : X < 9223372036854775808 := by omega
      have d0 : 0 ≤ Int.tdiv X 64 ∧ Int.tdiv X 64 ≤ X := by
        rw [Int.tdiv_eq_ediv_of_nonneg X0]; omega
      rw [w64 (x := Int.tdiv X 64) (by omega) (by omega)]
      exact tmod_pos (bits_xor_nonneg X0 X1 d0.1 (by omega)) h4
theorem l6Open_tot (l : List Int) (h8 : ∀ x ∈ l, (Lit.int .u8 x).wf = true) : ∃ v, spec_l6Open.f l = some v ∧ Rdr v.1 v.2 ∧ v.2 = 0 := by
  have hb : ∀ x ∈ l, 0 ≤ x ∧ x ≤ 255 := fun x hx => wf_u8 (h8 x hx)
  unfold spec_l6Open.f
  by_cases h : (l.length : Int) > 2000
  · rw [if_pos h, if_pos (by omega)]
    exact ⟨_, rfl, ⟨fun x hx => hb x (List.mem_of_mem_take hx), by simp; omega, by simp, by simp⟩, rfl⟩
  · rw [if_neg h]
    exact ⟨_, rfl, ⟨hb, by simp; omega, by simp, by simp⟩, rfl⟩
theorem Rdr.go {b : List Int} {p q : Int} (R : Rdr b p) (h : p ≤ q) (h' : q ≤ 1000000000000) : Rdr b q := ⟨R.bytes, R.len, Int.le_trans R.lo h, h'⟩
theorem of_tot {b : List Int} {p : Int} {l : List ByteArray} (R : Rdr b p) (hl : 1 ≤ l.length) : Tot (fun k => spec_l6Rd_of.f k b p l) (fun r => r.2 = p + 1 ∧ r.1 ∈ l) := by
  unfold spec_l6Rd_of.f
  refine Tot.bind (pick_tot R) fun a ⟨ha, hr⟩ => ?_
  have := hr (by omega)
  refine Tot.pos this.1 (Tot.pos this.2 (Tot.now ⟨ha, ?_⟩))
  unfold rdOf
  rw [List.getD_eq_getElem?_getD, List.getElem?_eq_getElem (show a.1.toNat < l.length by omega)]
  exact List.getElem_mem _
/-! ### a drawn piece -/
theorem mem_small {l : List ByteArray} {s : ByteArray} (n : Nat) (h : s ∈ l) (hl : l.all (fun x => decide (x.size ≤ n)) = true) : s.size ≤ n :=
  of_decide_eq_true (List.all_eq_true.1 hl s h)
theorem text_l0 {b : List Int} (d : Nat) : ∀ (s : ByteArray) (p : Int), s.size + d ≤ 1000 → Rdr b p → p + d ≤ 1000000000000 - 10 → Tot (fun k => spec_l71Text.l0 k s (d : Int) b p) (fun r => r.1.size ≤ s.size + d + 4 ∧ p ≤ r.2 ∧ r.2 ≤ p + d + 2) := by
  induction d with
  | zero =>
    intro s p hs R hp
    refine Tot.shift ?_
    simp only [spec_l71Text.l0]
    refine Tot.neg (by omega) (Tot.bind (pick_tot R) fun a ⟨ha, _⟩ => Tot.ite (fun _ => ?_) (fun _ => Tot.now ⟨by simp only []; omega, by simp only []; omega, by simp only []; omega⟩))
    refine Tot.bind (of_tot (R.go (q := a.2) (by omega) (by omega)) (by simp)) fun c ⟨hc, hm⟩ => ?_
    have hz := mem_small 4 hm (by decide +kernel)
    refine Tot.pos (by omega) (Tot.now ⟨?_, by simp only []; omega, by simp only []; omega⟩)
    rw [ByteArray.size_append]; omega
  | succ d ih =>
    intro s p hs R hp
    refine Tot.shift ?_
    simp only [spec_l71Text.l0]
    refine Tot.pos (by omega) (Tot.bind (of_tot R (by simp)) fun c ⟨hc, hm⟩ => ?_)
    have hz := mem_small 1 hm (by decide +kernel)
    have e : wrap64 (((d + 1 : Nat) : Int) - 1) = (d : Int) := by rw [w64 (by omega) (by omega)]; omega
    rw [e]
    have hsz : (s ++ c.1).size ≤ s.size + 1 := by rw [ByteArray.size_append]; omega
    exact Tot.pos (by omega) ((ih (s ++ c.1) c.2 (by omega) (R.go (by omega) (by omega)) (by omega)).mono fun r ⟨h1, h2, h3⟩ => ⟨by omega, by omega, by omega⟩)
theorem text_tot {b : List Int} {p : Int} (R : Rdr b p) (hp : p ≤ 1000000000000 - 100) : Tot (fun k => spec_l71Text.f k b p) (fun r => r.1.size ≤ 7 ∧ p ≤ r.2 ∧ r.2 ≤ p + 6) := by
  unfold spec_l71Text.f
  refine Tot.bind (pick_tot R) fun a ⟨ha, hr⟩ => ?_
  have h4 := hr (by omega)
  obtain ⟨d, hd⟩ := Int.eq_ofNat_of_zero_le h4.1
  rw [hd]
  have hz : (⟨#[]⟩ : ByteArray).size = 0 := rfl
  refine (text_l0 d _ a.2 (by omega) (R.go (by omega) (by omega)) (by omega)).mono fun r ⟨h1, h2, h3⟩ => ⟨?_, by omega, by omega⟩
  omega
theorem draw (l : List Int) (h8 : ∀ x ∈ l, (Lit.int .u8 x).wf = true) : Tot (fun k => spec_DrawTextOk.f k l) (fun s => s.size ≤ 100) := by
  unfold spec_DrawTextOk.f
  refine Tot.bindO (l6Open_tot l h8) fun v ⟨R, hv⟩ => Tot.bind (text_tot R (by omega)) fun a ⟨h1, h2, h3⟩ => Tot.bind (pick_tot (R.go (by omega) (by omega))) fun c ⟨h4, _⟩ => Tot.ite (fun _ => ?_) (fun _ => Tot.now (by omega))
  refine Tot.bind (of_tot (R.go (q := c.2) (by omega) (by omega)) (by simp)) fun e ⟨h5, hm⟩ => ?_
  have hz := mem_small 4 hm (by decide +kernel)
  refine Tot.pos (by omega) (Tot.now ?_)
  rw [ByteArray.size_append]; omega
theorem cut_j1 (l1 : List Int) (s : ByteArray) (hs : s.size ≤ 100) (b : Bool) (h : b = false → textOk s = true) : Tot (fun k => laws_FnTextCut.j1 k l1 s (textOk s) b) (fun r => r = true) := by
  refine Tot.shift ?_
  simp only [laws_FnTextCut.j1]
  refine Tot.ite (fun _ => Tot.bindE (spec_TextOk_tot s (by omega)) (Tot.now (by simp))) (fun hb => ?_)
  have ok := h (by simpa using hb)
  rw [w64 (x := (s.size : Int) + 1) (by omega) (by omega)]
  have m0 : 0 ≤ (l1.length : Int) % ((s.size : Int) + 1) := Int.emod_nonneg _ (by omega)
  have m1 : (l1.length : Int) % ((s.size : Int) + 1) < (s.size : Int) + 1 := Int.emod_lt_of_pos _ (by omega)
  obtain ⟨m, hm⟩ := Int.eq_ofNat_of_zero_le m0
  rw [hm, Int.toNat_natCast]
  have a1 : textOk (s.extract 0 m) = true := textOk_extract ok _ _
  have a2 : textOk (s.extract m s.size) = true := textOk_extract ok _ _
  have z1 := size_extract_le s 0 m
  have z2 := size_extract_le s m s.size
  have s1 : (s ++ (⟨#[101]⟩ : ByteArray)).size = s.size + 1 := by rw [ByteArray.size_append]; rfl
  have s2 : (s.extract 0 m ++ (⟨#[32]⟩ : ByteArray)).size = (s.extract 0 m).size + 1 := by rw [ByteArray.size_append]; rfl
  have s3 : ((⟨#[97, 97, 97, 97, 97]⟩ : ByteArray) ++ s).size = 5 + s.size := by rw [ByteArray.size_append]; rfl
  have b1 : textOk (s ++ (⟨#[101]⟩ : ByteArray)) = false := by
    unfold textOk; rw [bytesOf_append, List.all_append, show (bytesOf (⟨#[101]⟩ : ByteArray)).all okc = false from by decide +kernel]; simp
  have b2 : textOk (s.extract 0 m ++ (⟨#[32]⟩ : ByteArray)) = false := by
    unfold textOk; rw [bytesOf_append, List.all_append, show (bytesOf (⟨#[32]⟩ : ByteArray)).all okc = false from by decide +kernel]; simp
  have b3 : textOk ((⟨#[97, 97, 97, 97, 97]⟩ : ByteArray) ++ s) = false := by
    unfold textOk; rw [s3, decide_eq_false (by omega)]; simp
  refine Tot.neg (by omega) (Tot.pos (by omega) (Tot.pos (by omega) ?_))
  refine Tot.bindE (impl_TextOk_tot _ (by omega)) (Tot.pos a1 (Tot.bindE (impl_TextOk_tot _ (by omega)) (Tot.pos a2 (Tot.pos (by omega) ?_))))
  refine Tot.bindE (impl_TextOk_tot _ (by omega)) (Tot.neg (by simp [b1]) (Tot.pos (by omega) ?_))
  refine Tot.bindE (impl_TextOk_tot _ (by omega)) (Tot.neg (by simp [b2]) (Tot.pos (by omega) ?_))
  exact Tot.bindE (impl_TextOk_tot _ (by omega)) (Tot.now (by simp [b3]))
theorem cut_j0 (l0 l1 : List Int) (h8 : ∀ x ∈ l0, (Lit.int .u8 x).wf = true) (b : Bool) : Tot (fun k => laws_FnTextCut.j0 k l0 l1 b) (fun r => r = true) := by
  refine Tot.shift ?_
  simp only [laws_FnTextCut.j0]
  refine Tot.ite (fun _ => Tot.now rfl) (fun _ => ?_)
  refine Tot.bind (draw l0 h8) fun s hs => Tot.bindE (impl_TextOk_tot s (by omega)) (Tot.bindE (spec_TextOk_tot s (by omega)) ?_)
  exact Tot.neg (by simp) (cut_j1 l1 s hs _ (by simp))
theorem FnTextCut : laws_FnTextCut.Pure := by
  intro l0 l1 _ _ h8 _ _ _
  refine Tot.rounds ?_
  unfold laws_FnTextCut.f
  exact Tot.ite (fun _ => cut_j0 l0 l1 h8 _) (fun _ => cut_j0 l0 l1 h8 _)
end Go.Proofs.Ytpoleflmmdlgjaa.Pure
