/- Two drawn changes have one text just if they are one change. -/
import Derived.Test.YtagfiehoodepbaaDoorQFnOpOne6
import Derived.Test.YtagfiehoodepbaaDoorU2
set_option linter.unusedVariables false
set_option linter.unusedSimpArgs false
namespace Go.Proofs.YtagfiehoodepbaaDoor.Pure
open Go.RowKit Go.Proofs.YtagfiehoodepbaaDoor.PFnOpOne Go.Proofs.YtagfiehoodepbaaDoorW.PrintWords Go.Proofs.YtagfiehoodepbaaDoorW.PrintLast Go.Proofs.YtagfiehoodepbaaDoorU
/-! ### pieces -/
theorem spec_l6In_eq (a b c : Int) : spec_l6In.f a b c = some (decide (b ≤ a) && decide (a ≤ c)) := by
  unfold spec_l6In.f
  by_cases h : a ≥ b
  · rw [if_pos h]; simp [show b ≤ a from h]
  · rw [if_neg h]; simp [show ¬ b ≤ a from h]
theorem impl_within_eq (a b c : Int) : impl_within.f a b c = some (decide (b ≤ a) && decide (a ≤ c)) := by
  unfold impl_within.f
  by_cases h : a ≥ b
  · rw [if_pos h]; simp [show b ≤ a from h]
  · rw [if_neg h]; simp [show ¬ b ≤ a from h]
theorem spec_TextOk_l0 (s : ByteArray) (hs : s.size ≤ 140737488355328) (d : Nat) : ∀ i : Nat, i + d = s.size → Tot (fun k => spec_TextOk.l0 k s (i : Int)) (fun r => r = (((bytesOf s).drop i).all okc && decide ((s.size : Int) ≤ 4))) := by
  induction d with
  | zero =>
    intro i hi
    refine Tot.shift ?_
    simp only [spec_TextOk.l0]
    refine Tot.neg (by omega) (Tot.now ?_)
    rw [List.drop_of_length_le (by rw [bytesOf_length]; omega)]
    simp
  | succ d ih =>
    intro i hi
    refine Tot.shift ?_
    simp only [spec_TextOk.l0]
    refine Tot.pos (by omega) (Tot.pos (by omega) (Tot.bindN (spec_l6In_eq _ _ _) ?_))
    rw [w64_bt, w64 (x := (i : Int) + 1) (by omega) (by omega), drop_at s i (by omega), List.all_cons]
    have e : okc (bt s i) = (decide (97 ≤ bt s i) && decide (bt s i ≤ 100)) := rfl
    refine Tot.ite (fun h => ?_) (fun h => Tot.now ?_)
    · rw [e, h, Bool.true_and]; exact ih (i + 1) (by omega)
    · rw [e, Bool.eq_false_iff.2 h]; simp
theorem spec_TextOk_tot (s : ByteArray) (hs : s.size ≤ 140737488355328) : Tot (fun k => spec_TextOk.f k s) (fun r => r = textOk s) := by
  unfold spec_TextOk.f
  exact spec_TextOk_l0 s hs s.size 0 (by omega)
theorem impl_TextOk_l0 (s : ByteArray) (hs : s.size ≤ 140737488355328) (d : Nat) : ∀ i : Nat, i + d = s.size → Tot (fun k => impl_TextOk.l0 k s (s.size : Int) (i : Int)) (fun r => r = (((bytesOf s).drop i).all okc && decide ((s.size : Int) ≤ 4))) := by
  induction d with
  | zero =>
    intro i hi
    refine Tot.shift ?_
    simp only [impl_TextOk.l0]
    refine Tot.neg (by omega) (Tot.now ?_)
    rw [List.drop_of_length_le (by rw [bytesOf_length]; omega)]
    simp
  | succ d ih =>
    intro i hi
    refine Tot.shift ?_
    simp only [impl_TextOk.l0]
    refine Tot.pos (by omega) (Tot.pos (by omega) (Tot.pos (by omega) (Tot.bindN (impl_within_eq _ _ _) ?_)))
    rw [w64_bt, w64 (x := (i : Int) + 1) (by omega) (by omega), drop_at s i (by omega), List.all_cons]
    have e : okc (bt s i) = (decide (97 ≤ bt s i) && decide (bt s i ≤ 100)) := rfl
    refine Tot.ite (fun h => ?_) (fun h => Tot.now ?_)
    · rw [e, h, Bool.true_and]; exact ih (i + 1) (by omega)
    · rw [e, Bool.eq_false_iff.2 h]; simp
theorem impl_TextOk_tot (s : ByteArray) (hs : s.size ≤ 140737488355328) : Tot (fun k => impl_TextOk.f k s) (fun r => r = textOk s) := by
  unfold impl_TextOk.f
  exact impl_TextOk_l0 s hs s.size 0 (by omega)
/-! ### the reader of codes -/
/-- Its bytes are bytes, not too many, and its place is not far. -/
structure Rdr (b : List Int) (p : Int) : Prop where
  bytes : ∀ x ∈ b, 0 ≤ x ∧ x ≤ 255
  len : b.length ≤ 2000
  lo : 0 ≤ p
  hi : p ≤ 1000000000000
theorem rd_byte {b : List Int} (hb : ∀ x ∈ b, 0 ≤ x ∧ x ≤ 255) (i : Int) : 0 ≤ rd b i ∧ rd b i ≤ 255 := by
  unfold rd
  rw [List.getD_eq_getElem?_getD]
  by_cases h : i.toNat < b.length
  · rw [List.getElem?_eq_getElem h]
    exact hb _ (List.getElem_mem h)
  · rw [List.getElem?_eq_none (by omega)]
    exact ⟨by simp, by simp⟩
theorem tmod_pos {a n : Int} (h : 0 ≤ a) (hn : 1 ≤ n) : 0 ≤ Int.tmod a n ∧ Int.tmod a n < n := by
  rw [Int.tmod_eq_emod_of_nonneg h]
  exact ⟨Int.emod_nonneg _ (by omega), Int.emod_lt_of_pos _ (by omega)⟩
theorem pick_tot {b : List Int} {p n : Int} (R : Rdr b p) : Tot (fun k => spec_l6Rd_pick.f k b p n) (fun r => r.2 = p + 1 ∧ (1 ≤ n → 0 ≤ r.1 ∧ r.1 < n)) := by
  obtain ⟨hb, hl, h0, h1⟩ := R
  unfold spec_l6Rd_pick.f
  rw [w64 (x := p + 1) (by omega) (by omega)]
  refine Tot.ite (fun h => ?_) (fun h => ?_)
  · refine Tot.shift ?_
    simp only [spec_l6Rd_pick.j0]
    exact Tot.pos (by simp) (Tot.now ⟨rfl, fun h2 => ⟨Int.le_refl _, by omega⟩⟩)
  · refine Tot.shift ?_
    simp only [spec_l6Rd_pick.j0]
    rw [w64 (x := p + 1 - 1) (by omega) (by omega), show p + 1 - 1 = p from by omega]
    refine Tot.ite (fun h2 => Tot.now ⟨rfl, fun h3 => ⟨Int.le_refl _, by omega⟩⟩) (fun h2 => ?_)
    have hne : ¬ (b.length : Int) = 0 := by simpa using h2
    have hpos : (1 : Int) ≤ b.length := by omega
    refine Tot.ite (fun h3 => Tot.pos h0 (Tot.neg (by omega) (Tot.now ⟨rfl, fun h4 => ?_⟩))) (fun h3 => ?_)
    · have := rd_byte hb p
      rw [w64 (by omega) (by omega)]
      exact tmod_pos this.1 h4
    · have m1 := tmod_pos h0 hpos
      rw [w64 (x := p * 7) (by omega) (by omega), w64 (x := p * 7 + 3) (by omega) (by omega)]
      have m2 := tmod_pos (a := p * 7 + 3) (by omega) hpos
      have r1 := rd_byte hb (Int.tmod p b.length)
      have r2 := rd_byte hb (Int.tmod (p * 7 + 3) b.length)
      have q0 : 0 ≤ Int.tdiv p b.length ∧ Int.tdiv p b.length ≤ p := by
        rw [Int.tdiv_eq_ediv_of_nonneg h0]
        exact ⟨Int.ediv_nonneg h0 (by omega), Int.ediv_le_self _ h0⟩
      refine Tot.neg hne (Tot.pos m1.1 (Tot.pos m1.2 (Tot.pos m2.1 (Tot.pos m2.2 (Tot.neg (by omega) (Tot.now ⟨rfl, fun h4 => ?_⟩))))))
      generalize rd b (Int.tmod p b.length) = x1 at *
      generalize rd b (Int.tmod (p * 7 + 3) b.length) = x2 at *
      generalize Int.tdiv p b.length = q at *
      rw [w64 (x := x1) (by omega) (by omega), w64 (x := x2) (by omega) (by omega), w64 (x := q) (by omega) (by omega), w64 (x := x1 * 131) (by omega) (by omega), w64 (x := x2 * 1117) (by omega) (by omega), w64 (x := x1 * 131 + x2 * 1117) (by omega) (by omega), w64 (x := p * 29) (by omega) (by omega), w64 (x := x1 * 131 + x2 * 1117 + p * 29) (by omega) (by omega), w64 (x := q * 53) (by omega) (by omega), w64 (x := x1 * 131 + x2 * 1117 + p * 29 + q * 53) (by omega) (by omega)]
      generalize hX : x1 * 131 + x2 * 1117 + p * 29 + q * 53 = X
      have X0 : 0 ≤ X := by omega
      have X1 : X < 9223372036854775808 := by omega
      have d0 : 0 ≤ Int.tdiv X 64 ∧ Int.tdiv X 64 ≤ X := by
        rw [Int.tdiv_eq_ediv_of_nonneg X0]; omega
      rw [w64 (x := Int.tdiv X 64) (by omega) (by omega)]
      exact tmod_pos (bits_xor_nonneg X0 X1 d0.1 (by omega)) h4
theorem l6Open_tot (l : List Int) (h8 : ∀ x ∈ l, (Lit.int .u8 x).wf = true) : ∃ v, spec_l6Open.f l = some v ∧ Rdr v.1 v.2 ∧ v.2 = 0 := by
  have hb : ∀ x ∈ l, 0 ≤ x ∧ x ≤ 255 := fun x hx => wf_u8 (h8 x hx)
  unfold spec_l6Open.f
  by_cases h : (l.length : Int) > 2000
  · rw [if_pos h, if_pos (by omega)]
    exact ⟨_, rfl, ⟨fun x hx => hb x (List.mem_of_mem_take hx), by simp; omega, by simp, by simp⟩, rfl⟩
  · rw [if_neg h]
    exact ⟨_, rfl, ⟨hb, by simp; omega, by simp, by simp⟩, rfl⟩
theorem Rdr.go {b : List Int} {p q : Int} (R : Rdr b p) (h : p ≤ q) (h' : q ≤ 1000000000000) : Rdr b q := ⟨R.bytes, R.len, Int.le_trans R.lo h, h'⟩
theorem of_tot {b : List Int} {p : Int} {l : List ByteArray} (R : Rdr b p) (hl : 1 ≤ l.length) : Tot (fun k => spec_l6Rd_of.f k b p l) (fun r => r.2 = p + 1 ∧ r.1 ∈ l) := by
  unfold spec_l6Rd_of.f
  refine Tot.bind (pick_tot R) fun a ⟨ha, hr⟩ => ?_
  have := hr (by omega)
  refine Tot.pos this.1 (Tot.pos this.2 (Tot.now ⟨ha, ?_⟩))
  unfold rdOf
  rw [List.getD_eq_getElem?_getD, List.getElem?_eq_getElem (show a.1.toNat < l.length by omega)]
  exact List.getElem_mem _
/-! ### a drawn piece -/
theorem mem_small {l : List ByteArray} {s : ByteArray} (n : Nat) (h : s ∈ l) (hl : l.all (fun x => decide (x.size ≤ n)) = true) : s.size ≤ n :=
  of_decide_eq_true (List.all_eq_true.1 hl s h)
theorem text_l0 {b : List Int} (d : Nat) : ∀ (s : ByteArray) (p : Int), s.size + d ≤ 1000 → Rdr b p → p + d ≤ 1000000000000 - 10 → Tot (fun k => spec_l71Text.l0 k s (d : Int) b p) (fun r => r.1.size ≤ s.size + d + 4 ∧ p ≤ r.2 ∧ r.2 ≤ p + d + 2) := by
  induction d with
  | zero =>
    intro s p hs R hp
    refine Tot.shift ?_
    simp only [spec_l71Text.l0]
    refine Tot.neg (by omega) (Tot.bind (pick_tot R) fun a ⟨ha, _⟩ => Tot.ite (fun _ => ?_) (fun _ => Tot.now ⟨by simp only []; omega, by simp only []; omega, by simp only []; omega⟩))
    refine Tot.bind (of_tot (R.go (q := a.2) (by omega) (by omega)) (by simp)) fun c ⟨hc, hm⟩ => ?_
    have hz := mem_small 4 hm (by decide +kernel)
    refine Tot.pos (by omega) (Tot.now ⟨?_, by simp only []; omega, by simp only []; omega⟩)
    rw [ByteArray.size_append]; omega
  | succ d ih =>
    intro s p hs R hp
    refine Tot.shift ?_
    simp only [spec_l71Text.l0]
    refine Tot.pos (by omega) (Tot.bind (of_tot R (by simp)) fun c ⟨hc, hm⟩ => ?_)
    have hz := mem_small 1 hm (by decide +kernel)
    have e : wrap64 (((d + 1 : Nat) : Int) - 1) = (d : Int) := by rw [w64 (by omega) (by omega)]; omega
    rw [e]
    have hsz : (s ++ c.1).size ≤ s.size + 1 := by rw [ByteArray.size_append]; omega
    exact Tot.pos (by omega) ((ih (s ++ c.1) c.2 (by omega) (R.go (by omega) (by omega)) (by omega)).mono fun r ⟨h1, h2, h3⟩ => ⟨by omega, by omega, by omega⟩)
theorem text_tot {b : List Int} {p : Int} (R : Rdr b p) (hp : p ≤ 1000000000000 - 100) : Tot (fun k => spec_l71Text.f k b p) (fun r => r.1.size ≤ 7 ∧ p ≤ r.2 ∧ r.2 ≤ p + 6) := by
  unfold spec_l71Text.f
  refine Tot.bind (pick_tot R) fun a ⟨ha, hr⟩ => ?_
  have h4 := hr (by omega)
  obtain ⟨d, hd⟩ := Int.eq_ofNat_of_zero_le h4.1
  rw [hd]
  have hz : (⟨#[]⟩ : ByteArray).size = 0 := rfl
  refine (text_l0 d _ a.2 (by omega) (R.go (by omega) (by omega)) (by omega)).mono fun r ⟨h1, h2, h3⟩ => ⟨?_, by omega, by omega⟩
  omega
/-! ### a drawn change -/
theorem op_j1 {b : List Int} {p : Int} (R : Rdr b p) (hp : p ≤ 1000000000000 - 100) (kind : Int) (nm dst : ByteArray) (n : Int) (t : ByteArray) (h : nm.size ≤ 100 ∧ dst.size ≤ 100 ∧ t.size ≤ 100) :
    Tot (fun k => spec_l71Op.j1 k b p kind nm dst n t) (fun r => (r.2.1.size ≤ 100 ∧ r.2.2.1.size ≤ 100 ∧ r.2.2.2.2.1.size ≤ 100) ∧ p ≤ r.2.2.2.2.2 ∧ r.2.2.2.2.2 ≤ p + 2) := by
  refine Tot.shift ?_
  simp only [spec_l71Op.j1]
  refine Tot.bind (pick_tot R) fun a ⟨ha, _⟩ => Tot.ite (fun _ => ?_) (fun _ => Tot.ite (fun _ => ?_) (fun _ => Tot.ite (fun _ => ?_) (fun _ => Tot.now ⟨h, by simp only []; omega, by simp only []; omega⟩)))
  · refine Tot.bind (of_tot (R.go (q := a.2) (by omega) (by omega)) (by simp)) fun c ⟨hc, hm⟩ => Tot.now ⟨⟨?_, h.2⟩, by simp only []; omega, by simp only []; omega⟩
    have := mem_small 2 hm (by decide +kernel)
    simp only []; omega
  · exact Tot.bind (pick_tot (R.go (q := a.2) (by omega) (by omega))) fun c ⟨hc, _⟩ => Tot.now ⟨h, by simp only []; omega, by simp only []; omega⟩
  · exact Tot.bind (pick_tot (R.go (q := a.2) (by omega) (by omega))) fun c ⟨hc, _⟩ => Tot.now ⟨h, by simp only []; omega, by simp only []; omega⟩
theorem op_j0 {b : List Int} {p : Int} (R : Rdr b p) (hp : p ≤ 1000000000000 - 200) (c : Int) (x : Bool) (kind : Int) (nm dst : ByteArray) (n : Int) (t : ByteArray) (h : nm.size ≤ 100 ∧ dst.size ≤ 100 ∧ t.size ≤ 100) :
    Tot (fun k => spec_l71Op.j0 k c x b p kind nm dst n t) (fun r => (r.2.1.size ≤ 100 ∧ r.2.2.1.size ≤ 100 ∧ r.2.2.2.2.1.size ≤ 100) ∧ p ≤ r.2.2.2.2.2 ∧ r.2.2.2.2.2 ≤ p + 3) := by
  have z : (⟨#[]⟩ : ByteArray).size = 0 := rfl
  refine Tot.shift ?_
  simp only [spec_l71Op.j0]
  refine Tot.ite (fun _ => ?_) (fun _ => Tot.ite (fun _ => ?_) (fun _ => Tot.ite (fun _ => ?_) (fun _ => ?_)))
  · exact Tot.bind (pick_tot R) fun a ⟨ha, _⟩ => (op_j1 (R.go (q := a.2) (by omega) (by omega)) (by omega) _ _ _ _ _ ⟨h.1, by omega, by omega⟩).mono fun r hr => ⟨hr.1, by omega, by omega⟩
  · refine Tot.bind (of_tot R (by simp)) fun a ⟨ha, hm⟩ => ?_
    have := mem_small 1 hm (by decide +kernel)
    exact (op_j1 (R.go (q := a.2) (by omega) (by omega)) (by omega) _ _ _ _ _ ⟨h.1, by omega, by omega⟩).mono fun r hr => ⟨hr.1, by omega, by omega⟩
  · exact (op_j1 R (by omega) _ _ _ _ _ ⟨h.1, by omega, by omega⟩).mono fun r hr => ⟨hr.1, by omega, by omega⟩
  · exact (op_j1 R (by omega) _ _ _ _ _ h).mono fun r hr => ⟨hr.1, by omega, by omega⟩
theorem op_tot {b : List Int} {p : Int} (R : Rdr b p) (hp : p ≤ 1000000000000 - 300) :
    Tot (fun k => spec_l71Op.f k b p) (fun r => (r.2.1.size ≤ 100 ∧ r.2.2.1.size ≤ 100 ∧ r.2.2.2.2.1.size ≤ 100) ∧ p ≤ r.2.2.2.2.2 ∧ r.2.2.2.2.2 ≤ p + 12) := by
  have z : (⟨#[]⟩ : ByteArray).size = 0 := rfl
  unfold spec_l71Op.f
  refine Tot.bind (of_tot R (by simp)) fun a ⟨ha, hm⟩ => Tot.bind (pick_tot (R.go (q := a.2) (by omega) (by omega))) fun c ⟨hc, _⟩ => Tot.bind (text_tot (R.go (q := c.2) (by omega) (by omega)) (by omega)) fun t ⟨ht, ht2, ht3⟩ => Tot.bind (pick_tot (R.go (q := t.2) (by omega) (by omega))) fun d ⟨hd, _⟩ => ?_
  have := mem_small 1 hm (by decide +kernel)
  refine Tot.ite (fun _ => ?_) (fun _ => ?_)
  · exact (op_j0 (R.go (q := d.2) (by omega) (by omega)) (by omega) _ _ _ _ _ _ _ ⟨by omega, by omega, by omega⟩).mono fun r hr => ⟨hr.1, by omega, by omega⟩
  · exact (op_j0 (R.go (q := d.2) (by omega) (by omega)) (by omega) _ _ _ _ _ _ _ ⟨by omega, by omega, by omega⟩).mono fun r hr => ⟨hr.1, by omega, by omega⟩
/-! ### names -/
theorem size_toList (s : ByteArray) : s.size = s.toList.length := by
  rw [ByteArray.toList_eq]; exact (data_length s).symm
theorem bt0_toList (s : ByteArray) (c : UInt8) (l : List UInt8) (h : s.toList = c :: l) : bt s 0 = (c.toNat : Int) := by
  rw [bt_rd, toList_bytes, h]
  rfl
theorem isName_toList (s : ByteArray) : isName s = (s.toList == [65] || s.toList == [66] || s.toList == [67] || s.toList == [68]) := by
  unfold isName
  cases h : s.toList with
  | nil => rw [size_toList, h]; simp
  | cons c l =>
    rw [bt0_toList s c l h, size_toList, h]
    cases l with
    | nil =>
      have hc := c.toNat_lt
      have e : ∀ n : Nat, n < 256 → ((c == UInt8.ofNat n) = decide ((c.toNat : Int) = n)) := fun n hn => by
        rw [Bool.eq_iff_iff]
        simp only [beq_iff_eq, decide_eq_true_eq]
        constructor
        · rintro rfl; simp; omega
        · intro h2
          have h3 : c.toNat = n := by exact_mod_cast h2
          rw [← h3]; simp
      have e65 := e 65 (by omega); have e66 := e 66 (by omega); have e67 := e 67 (by omega); have e68 := e 68 (by omega)
      simp only [List.cons_beq_cons, List.length_cons, List.length_nil]
      rw [show (65 : UInt8) = UInt8.ofNat 65 from rfl, show (66 : UInt8) = UInt8.ofNat 66 from rfl, show (67 : UInt8) = UInt8.ofNat 67 from rfl, show (68 : UInt8) = UInt8.ofNat 68 from rfl, e65, e66, e67, e68]
      rw [Bool.eq_iff_iff]
      simp
      omega
    | cons d l => simp; omega
theorem spec_l3Name_eq (s : ByteArray) : spec_l3Name.f s = some (isName s) := by
  unfold spec_l3Name.f isName
  by_cases h : (s.size : Int) = 1
  · rw [if_pos h, if_pos (by omega), spec_l6In_eq, w64_bt, Option.bind_some, decide_eq_true h, Bool.true_and]
  · rw [if_neg h, decide_eq_false h, Bool.false_and]
theorem impl_isName_eq (s : ByteArray) : impl_isName.f s = some (isName s) := by
  rw [isName_toList]
  unfold impl_isName.f
  by_cases h1 : s.toList = ([65] : List UInt8)
  · rw [if_pos h1]; simp [h1]
  by_cases h2 : s.toList = ([66] : List UInt8)
  · rw [if_neg h1, if_pos h2]; simp [h2]
  by_cases h3 : s.toList = ([67] : List UInt8)
  · rw [if_neg h1, if_neg h2, if_pos h3]; simp [h3]
  · rw [if_neg h1, if_neg h2, if_neg h3]; simp [h1, h2, h3]
/-! ### changes -/
theorem beq_dec (a : Int) : (a == 0) = decide (a = 0) := rfl
theorem toList_empty (s : ByteArray) : (s.toList == ([] : List UInt8)) = empty s := rfl
theorem spec_OpOk_tot (kind : Int) (nm dst : ByteArray) (n : Int) (t : ByteArray) (ht : t.size ≤ 140737488355328) : Tot (fun k => spec_OpOk.f k kind nm dst n t) (fun r => r = opOk kind nm dst n t) := by
  unfold spec_OpOk.f
  refine Tot.bindN (spec_l3Name_eq nm) (Tot.ite (fun hn => ?_) (fun hn => Tot.now (by simp [opOk, hn])))
  refine Tot.ite (fun h1 => ?_) (fun h1 => Tot.ite (fun h2 => ?_) (fun h2 => Tot.ite (fun h3 => ?_) (fun h3 => Tot.ite (fun h4 => ?_) (fun h4 => Tot.now (by simp [opOk, h1, h2, h3, h4])))))
  · subst h1
    refine Tot.ite (fun he => Tot.bindN (spec_l6In_eq _ _ _) (Tot.ite (fun h => Tot.now ?_) (fun h => Tot.now ?_))) (fun he => Tot.now ?_)
    · rw [toList_empty]; simp at h; simp [opOk, hn, h, empty, he]
    · simp only [opOk]; simp at h; simp [hn, empty, he]; omega
    · simp [opOk, empty, he]
  · subst h2
    refine Tot.ite (fun he => Tot.bindN (spec_l6In_eq _ _ _) (Tot.ite (fun h => Tot.bindE (spec_TextOk_tot t ht) (Tot.now ?_)) (fun h => Tot.now ?_))) (fun he => Tot.now ?_)
    · simp at h; simp [opOk, hn, empty, he, h]
    · simp at h; simp [opOk, hn, empty, he]; omega
    · simp [opOk, empty, he]
  · subst h3
    refine Tot.bindN (spec_l3Name_eq dst) (Tot.ite (fun hm => Tot.ite (fun h => Tot.now ?_) (fun h => Tot.now ?_)) (fun hm => Tot.now ?_))
    · rw [toList_empty]; simp [opOk, hn, hm, h]
    · simp [opOk, h]
    · simp [opOk, hm]
  · subst h4
    refine Tot.ite (fun he => Tot.ite (fun h => Tot.now ?_) (fun h => Tot.now ?_)) (fun he => Tot.now ?_)
    · rw [toList_empty]; simp [opOk, hn, empty, he, h]
    · simp [opOk, h]
    · simp [opOk, empty, he]
theorem impl_OpOk_tot (kind : Int) (nm dst : ByteArray) (n : Int) (t : ByteArray) (ht : t.size ≤ 140737488355328) : Tot (fun k => impl_OpOk.f k kind nm dst n t) (fun r => r = opOk kind nm dst n t) := by
  unfold impl_OpOk.f
  refine Tot.ite (fun h1 => ?_) (fun h1 => Tot.ite (fun h2 => ?_) (fun h2 => Tot.ite (fun h3 => ?_) (fun h3 => Tot.ite (fun h4 => ?_) (fun h4 => Tot.now (by simp [opOk, h1, h2, h3, h4])))))
  · subst h1
    refine Tot.bindN (impl_within_eq _ _ _) (Tot.ite (fun h => Tot.bindN (impl_isName_eq nm) (Tot.ite (fun hn => Tot.now ?_) (fun hn => Tot.now ?_))) (fun h => Tot.now ?_))
    · rw [toList_empty, toList_empty]; simp at h; simp [opOk, hn, h]
    · simp [opOk, hn]
    · simp at h; simp [opOk]; omega
  · subst h2
    refine Tot.bindN (impl_within_eq _ _ _) (Tot.ite (fun h => Tot.bindE (impl_TextOk_tot t ht) (Tot.ite (fun hk => Tot.bindN (impl_isName_eq nm) (Tot.ite (fun hn => Tot.now ?_) (fun hn => Tot.now ?_))) (fun hk => Tot.now ?_))) (fun h => Tot.now ?_))
    · rw [toList_empty]; simp at h; simp [opOk, hn, h, hk]
    · simp [opOk, hn]
    · simp [opOk, hk]
    · simp at h; simp [opOk]; omega
  · subst h3
    refine Tot.bindN (impl_isName_eq dst) (Tot.ite (fun hm => Tot.bindN (impl_isName_eq nm) (Tot.ite (fun hn => Tot.now ?_) (fun hn => Tot.now ?_))) (fun hm => Tot.now ?_))
    · rw [toList_empty, beq_dec]; simp [opOk, hn, hm]
    · simp [opOk, hn]
    · simp [opOk, hm]
  · subst h4
    refine Tot.bindN (impl_isName_eq nm) (Tot.ite (fun hn => Tot.now ?_) (fun hn => Tot.now ?_))
    · rw [toList_empty, toList_empty, beq_dec]; simp [opOk, hn, Bool.and_assoc]
    · simp [opOk, hn]
/-! ### the text of a change -/
def dig (n : Int) : ByteArray := ⟨(Lib.decDigits n.toNat).toArray⟩
theorem dig_eq : ∀ i : Fin 10, strOfNums [(wrap64 (48 + (i.val : Int))) % 256] = dig (i.val : Int) ∧ (dig (i.val : Int)).size = 1 := by decide +kernel
theorem dig_spec {n : Int} (h0 : 0 ≤ n) (h1 : n ≤ 9) : strOfNums [(wrap64 (48 + n)) % 256] = dig n ∧ (dig n).size = 1 := by
  have := dig_eq ⟨n.toNat, by omega⟩
  rw [show (((⟨n.toNat, by omega⟩ : Fin 10).val : Nat) : Int) = n from by show ((n.toNat : Nat) : Int) = n; omega] at this
  exact this
theorem l6Dec_tot {n : Int} (h0 : 0 ≤ n) (h1 : n ≤ 9) : Tot (fun k => spec_l6Dec.f k n) (fun r => r = dig n) := by
  refine Tot.shift ?_
  simp only [spec_l6Dec.f]
  exact Tot.neg (by omega) (Tot.neg (by omega) (Tot.pos (by omega) (Tot.now (dig_spec h0 h1).1)))
theorem itoa_eq {n : Int} (h0 : 0 ≤ n) (h1 : n ≤ 9) : strconv_Itoa_22.f n = some (dig n) := by
  unfold strconv_Itoa_22.f
  rw [if_pos (by omega)]
  rfl
def opText (kind : Int) (nm dst : ByteArray) (n : Int) (t : ByteArray) : ByteArray :=
  if opOk kind nm dst n t = true then
    (if kind = 1 then (((⟨#[109, 97, 107, 101, 32]⟩ : ByteArray) ++ nm) ++ (⟨#[32]⟩ : ByteArray)) ++ dig n
     else if kind = 3 then (((⟨#[99, 108, 111, 110, 101, 32]⟩ : ByteArray) ++ nm) ++ (⟨#[32]⟩ : ByteArray)) ++ dst
     else if kind = 4 then (⟨#[103, 111, 110, 101, 32]⟩ : ByteArray) ++ nm
     else if t.toList = ([] : List UInt8) then (((⟨#[102, 114, 101, 101, 32]⟩ : ByteArray) ++ nm) ++ (⟨#[32]⟩ : ByteArray)) ++ dig n
     else (((((⟨#[119, 114, 105, 116, 101, 32]⟩ : ByteArray) ++ nm) ++ (⟨#[32]⟩ : ByteArray)) ++ dig n) ++ (⟨#[32]⟩ : ByteArray)) ++ t)
  else ⟨#[]⟩
theorem opOk_n {kind : Int} {nm dst : ByteArray} {n : Int} {t : ByteArray} (h : opOk kind nm dst n t = true) : 0 ≤ n ∧ n ≤ 9 ∧ (kind = 1 ∨ kind = 2 ∨ kind = 3 ∨ kind = 4) := by
  by_cases h1 : kind = 1
  · subst h1; simp [opOk] at h; omega
  by_cases h2 : kind = 2
  · subst h2; simp [opOk] at h; omega
  by_cases h3 : kind = 3
  · subst h3; simp [opOk] at h; omega
  by_cases h4 : kind = 4
  · subst h4; simp [opOk] at h; omega
  · simp [opOk, h1, h2, h3, h4] at h
theorem impl_OpText_tot (kind : Int) (nm dst : ByteArray) (n : Int) (t : ByteArray) (hn : nm.size ≤ 1048576) (hd : dst.size ≤ 1048576) (ht : t.size ≤ 1048576) : Tot (fun k => impl_OpText.f k kind nm dst n t) (fun r => r = opText kind nm dst n t) := by
  unfold impl_OpText.f opText
  refine Tot.bindE (impl_OpOk_tot kind nm dst n t (by omega)) (Tot.ite (fun h => ?_) (fun h => Tot.now (by rw [if_neg h])))
  rw [if_pos h]
  obtain ⟨n0, n9, _⟩ := opOk_n h
  have dz := (dig_spec n0 n9).2
  have z1 : (⟨#[32]⟩ : ByteArray).size = 1 := rfl
  have z5 : (⟨#[109, 97, 107, 101, 32]⟩ : ByteArray).size = 5 := rfl
  have z6 : (⟨#[99, 108, 111, 110, 101, 32]⟩ : ByteArray).size = 6 := rfl
  have z7 : (⟨#[102, 114, 101, 101, 32]⟩ : ByteArray).size = 5 := rfl
  have z8 : (⟨#[119, 114, 105, 116, 101, 32]⟩ : ByteArray).size = 6 := rfl
  refine Tot.bindN (itoa_eq n0 n9) (Tot.ite (fun h1 => ?_) (fun h1 => Tot.ite (fun h3 => ?_) (fun h3 => Tot.ite (fun h4 => ?_) (fun h4 => Tot.ite (fun he => ?_) (fun he => ?_)))))
  · rw [if_pos h1]
    exact Tot.pos (by omega) (Tot.pos (by simp only [ByteArray.size_append]; omega) (Tot.pos (by simp only [ByteArray.size_append]; omega) (Tot.now rfl)))
  · rw [if_neg h1, if_pos h3]
    exact Tot.pos (by omega) (Tot.pos (by simp only [ByteArray.size_append]; omega) (Tot.pos (by simp only [ByteArray.size_append]; omega) (Tot.now rfl)))
  · rw [if_neg h1, if_neg h3, if_pos h4]
    exact Tot.pos (by omega) (Tot.now rfl)
  · rw [if_neg h1, if_neg h3, if_neg h4, if_pos he]
    exact Tot.pos (by omega) (Tot.pos (by simp only [ByteArray.size_append]; omega) (Tot.pos (by simp only [ByteArray.size_append]; omega) (Tot.now rfl)))
  · rw [if_neg h1, if_neg h3, if_neg h4, if_neg he]
    exact Tot.pos (by omega) (Tot.pos (by simp only [ByteArray.size_append]; omega) (Tot.pos (by simp only [ByteArray.size_append]; omega) (Tot.pos (by simp only [ByteArray.size_append]; omega) (Tot.pos (by simp only [ByteArray.size_append]; omega) (Tot.now rfl)))))
theorem spec_OpText_tot (kind : Int) (nm dst : ByteArray) (n : Int) (t : ByteArray) (hn : nm.size ≤ 1048576) (hd : dst.size ≤ 1048576) (ht : t.size ≤ 1048576) : Tot (fun k => spec_OpText.f k kind nm dst n t) (fun r => r = opText kind nm dst n t) := by
  unfold spec_OpText.f opText
  refine Tot.bindE (spec_OpOk_tot kind nm dst n t (by omega)) (Tot.ite (fun h => ?_) (fun h => Tot.now (by rw [if_neg h])))
  rw [if_pos h]
  obtain ⟨n0, n9, hk⟩ := opOk_n h
  have dz := (dig_spec n0 n9).2
  have z1 : (⟨#[32]⟩ : ByteArray).size = 1 := rfl
  have z5 : (⟨#[109, 97, 107, 101, 32]⟩ : ByteArray).size = 5 := rfl
  have z6 : (⟨#[99, 108, 111, 110, 101, 32]⟩ : ByteArray).size = 6 := rfl
  have z7 : (⟨#[102, 114, 101, 101, 32]⟩ : ByteArray).size = 5 := rfl
  have z8 : (⟨#[119, 114, 105, 116, 101, 32]⟩ : ByteArray).size = 6 := rfl
  refine Tot.ite (fun h1 => ?_) (fun h1 => Tot.ite (fun h2 => Tot.ite (fun he => ?_) (fun he => ?_)) (fun h2 => Tot.ite (fun h3 => ?_) (fun h3 => ?_)))
  · rw [if_pos h1]
    exact Tot.pos (by omega) (Tot.pos (by simp only [ByteArray.size_append]; omega) (Tot.bindE (l6Dec_tot n0 n9) (Tot.pos (by simp only [ByteArray.size_append]; omega) (Tot.now rfl))))
  · rw [if_neg h1, if_neg (show ¬ kind = 3 by omega), if_neg (show ¬ kind = 4 by omega), if_pos he]
    exact Tot.pos (by omega) (Tot.pos (by simp only [ByteArray.size_append]; omega) (Tot.bindE (l6Dec_tot n0 n9) (Tot.pos (by simp only [ByteArray.size_append]; omega) (Tot.now rfl))))
  · rw [if_neg h1, if_neg (show ¬ kind = 3 by omega), if_neg (show ¬ kind = 4 by omega), if_neg he]
    exact Tot.pos (by omega) (Tot.pos (by simp only [ByteArray.size_append]; omega) (Tot.bindE (l6Dec_tot n0 n9) (Tot.pos (by simp only [ByteArray.size_append]; omega) (Tot.pos (by simp only [ByteArray.size_append]; omega) (Tot.pos (by simp only [ByteArray.size_append]; omega) (Tot.now rfl))))))
  · rw [if_neg h1, if_pos h3]
    exact Tot.pos (by omega) (Tot.pos (by simp only [ByteArray.size_append]; omega) (Tot.pos (by simp only [ByteArray.size_append]; omega) (Tot.now rfl)))
  · rw [if_neg h1, if_neg h3, if_pos (show kind = 4 by omega)]
    exact Tot.pos (by omega) (Tot.now rfl)
theorem drawT (l : List Int) (h8 : ∀ x ∈ l, (Lit.int .u8 x).wf = true) : Tot (fun k => spec_DrawOpText.f k l) (fun r => r.2.1.size ≤ 100 ∧ r.2.2.1.size ≤ 100 ∧ r.2.2.2.2.size ≤ 100) := by
  unfold spec_DrawOpText.f
  exact Tot.bindO (l6Open_tot l h8) fun v ⟨R, hv⟩ => Tot.bind (op_tot R (by omega)) fun a ⟨h, _, _⟩ => Tot.now h
theorem drawO (l : List Int) (h8 : ∀ x ∈ l, (Lit.int .u8 x).wf = true) : Tot (fun k => spec_DrawOpOk.f k l) (fun r => r.2.1.size ≤ 100 ∧ r.2.2.1.size ≤ 100 ∧ r.2.2.2.2.size ≤ 100) := by
  unfold spec_DrawOpOk.f
  refine Tot.bindO (l6Open_tot l h8) fun v ⟨R, hv⟩ => Tot.bind (op_tot R (by omega)) fun a ⟨h, h1, h2⟩ => Tot.bind (pick_tot (R.go h1 (by omega))) fun c ⟨hc, _⟩ => Tot.ite (fun _ => ?_) (fun _ => Tot.now h)
  refine Tot.bind (of_tot (R.go (q := c.2) (by omega) (by omega)) (by simp)) fun e ⟨he, hm⟩ => Tot.now ⟨h.1, ?_, h.2.2⟩
  have := mem_small 1 hm (by decide +kernel)
  simp only []; omega
theorem data_inj {a b : ByteArray} (h : a.data.toList = b.data.toList) : a = b := by
  cases a; cases b; simp only at h; congr; exact Array.toList_inj.1 h
theorem tl (x : ByteArray) : x.toList = x.data.toList := ByteArray.toList_eq x
theorem app (a b : ByteArray) : (a ++ b).data.toList = a.data.toList ++ b.data.toList := by simp
theorem lit (l : List UInt8) : (⟨l.toArray⟩ : ByteArray).data.toList = l := by simp
theorem one_byte {a : ByteArray} (h : a.size = 1) : ∃ c, a.data.toList = [c] := by
  have : a.data.toList.length = 1 := by rw [Array.length_toList]; exact h
  exact List.length_eq_one_iff.1 this
theorem name_one {nm : ByteArray} (h : isName nm = true) : nm.size = 1 := by
  unfold isName at h
  simp at h
  omega
theorem dig_inj : ∀ i j : Fin 10, (dig (i.val : Int)).data.toList = (dig (j.val : Int)).data.toList → i = j := by decide +kernel
theorem dig_eq' {n m : Int} (n0 : 0 ≤ n) (n9 : n ≤ 9) (m0 : 0 ≤ m) (m9 : m ≤ 9) (h : (dig n).data.toList = (dig m).data.toList) : n = m := by
  have := dig_inj ⟨n.toNat, by omega⟩ ⟨m.toNat, by omega⟩ (by
    show (dig ((n.toNat : Nat) : Int)).data.toList = (dig ((m.toNat : Nat) : Int)).data.toList
    rw [show ((n.toNat : Nat) : Int) = n from by omega, show ((m.toNat : Nat) : Int) = m from by omega]; exact h)
  have := congrArg Fin.val this
  simp only at this
  omega
theorem empty_eq {t : ByteArray} (h : empty t = true) : t = (⟨#[]⟩ : ByteArray) := by
  unfold empty at h
  exact toList_inj.1 (by rw [beq_iff_eq.1 h]; decide +kernel)
theorem form {kind : Int} {nm dst : ByteArray} {n : Int} {t : ByteArray} (h : opOk kind nm dst n t = true) :
    isName nm = true ∧ (kind = 1 ∧ dst = ⟨#[]⟩ ∧ t = ⟨#[]⟩ ∨ kind = 2 ∧ dst = ⟨#[]⟩ ∨ kind = 3 ∧ isName dst = true ∧ n = 0 ∧ t = ⟨#[]⟩ ∨ kind = 4 ∧ dst = ⟨#[]⟩ ∧ n = 0 ∧ t = ⟨#[]⟩) := by
  by_cases h1 : kind = 1
  · subst h1; simp [opOk] at h; exact ⟨by simp_all, Or.inl ⟨rfl, empty_eq (by simp_all), empty_eq (by simp_all)⟩⟩
  by_cases h2 : kind = 2
  · subst h2; simp [opOk] at h; exact ⟨by simp_all, Or.inr (Or.inl ⟨rfl, empty_eq (by simp_all)⟩)⟩
  by_cases h3 : kind = 3
  · subst h3; simp [opOk] at h; exact ⟨by simp_all, Or.inr (Or.inr (Or.inl ⟨rfl, by simp_all, by simp_all, empty_eq (by simp_all)⟩))⟩
  by_cases h4 : kind = 4
  · subst h4; simp [opOk] at h; exact ⟨by simp_all, Or.inr (Or.inr (Or.inr ⟨rfl, empty_eq (by simp_all), by simp_all, empty_eq (by simp_all)⟩))⟩
  · simp [opOk, h1, h2, h3, h4] at h
theorem nil_list : (⟨#[]⟩ : ByteArray).toList = ([] : List UInt8) := by decide +kernel
theorem opText_inj {k k' : Int} {nm nm' dst dst' : ByteArray} {n n' : Int} {t t' : ByteArray} (h1 : opOk k nm dst n t = true) (h2 : opOk k' nm' dst' n' t' = true) (h : opText k nm dst n t = opText k' nm' dst' n' t') :
    k = k' ∧ nm = nm' ∧ dst = dst' ∧ n = n' ∧ t = t' := by
  obtain ⟨i1, f1⟩ := form h1
  obtain ⟨i2, f2⟩ := form h2
  obtain ⟨n0, n9, _⟩ := opOk_n h1
  obtain ⟨m0, m9, _⟩ := opOk_n h2
  obtain ⟨c, hc⟩ := one_byte (name_one i1)
  obtain ⟨c', hc'⟩ := one_byte (name_one i2)
  obtain ⟨d, hd⟩ := one_byte (dig_spec n0 n9).2
  obtain ⟨d', hd'⟩ := one_byte (dig_spec m0 m9).2
  have nmeq : c = c' → nm = nm' := fun z => data_inj (by rw [hc, hc', z])
  have neq : d = d' → n = n' := fun z => dig_eq' n0 n9 m0 m9 (by rw [hd, hd', z])
  have e : (opText k nm dst n t).data.toList = (opText k' nm' dst' n' t').data.toList := by rw [h]
  unfold opText at e
  rw [if_pos h1, if_pos h2] at e
  by_cases t1 : t.toList = ([] : List UInt8) <;> by_cases t2 : t'.toList = ([] : List UInt8) <;>
  rcases f1 with ⟨rfl, rfl, rfl⟩ | ⟨rfl, rfl⟩ | ⟨rfl, j1, rfl, rfl⟩ | ⟨rfl, rfl, rfl, rfl⟩ <;>
  rcases f2 with ⟨rfl, rfl, rfl⟩ | ⟨rfl, rfl⟩ | ⟨rfl, j2, rfl, rfl⟩ | ⟨rfl, rfl, rfl, rfl⟩ <;>
  simp [t1, t2, hc, hc', hd, hd'] at e <;> first
    | exact absurd nil_list t1
    | exact absurd nil_list t2
    | exact ⟨rfl, nmeq e.1, rfl, neq e.2, rfl⟩
    | exact ⟨rfl, nmeq e.1, rfl, neq e.2, toList_inj.1 (t1.trans t2.symm)⟩
    | exact ⟨rfl, nmeq e.1, rfl, neq e.2.1, data_inj (by rw [e.2.2])⟩
    | exact ⟨rfl, nmeq e.1, data_inj (by rw [e.2]), rfl, rfl⟩
    | exact ⟨rfl, nmeq e, rfl, rfl, rfl⟩
    | skip
theorem ok_of_text {k : Int} {nm dst : ByteArray} {n : Int} {t : ByteArray} (h : ¬ (opText k nm dst n t).toList = ([] : List UInt8)) : opOk k nm dst n t = true := by
  cases e : opOk k nm dst n t with
  | true => rfl
  | false => exact absurd (by unfold opText; rw [e]; exact nil_list) h
theorem FnOpOne (l0 : List Int) (l1 : List Int) (h1 : l0.length ≤ maxLen) (h2 : l0.length * 1 ≤ 140737488351232) (h8 : ∀ x ∈ l0, (Lit.int .u8 x).wf = true) (g1 : l1.length ≤ maxLen) (g2 : l1.length * 1 ≤ 140737488351232) (g8 : ∀ x ∈ l1, (Lit.int .u8 x).wf = true) : ∃ k, laws_FnOpOne.f k l0 l1 = some true := by
  refine Tot.rounds ?_
  have go : ∀ b : Bool, Tot (fun k => laws_FnOpOne.j0 k l0 l1 b) (fun r => r = true) := by
    intro b
    refine Tot.shift ?_
    simp only [laws_FnOpOne.j0]
    refine Tot.ite (fun _ => Tot.now rfl) (fun _ => Tot.bind (drawT l0 h8) fun a ha => Tot.bind (drawO l1 g8) fun b hb => ?_)
    have ta := spec_OpText_tot a.1 a.2.1 a.2.2.1 a.2.2.2.1 a.2.2.2.2 (by omega) (by omega) (by omega)
    refine Tot.bindE (impl_OpText_tot a.1 a.2.1 a.2.2.1 a.2.2.2.1 a.2.2.2.2 (by omega) (by omega) (by omega)) (Tot.bindE (impl_OpText_tot b.1 b.2.1 b.2.2.1 b.2.2.2.1 b.2.2.2.2 (by omega) (by omega) (by omega)) (Tot.bindE ta (Tot.pos (by first | rfl | trivial) (Tot.ite (fun _ => Tot.bindE ta (Tot.now (by simp))) (fun ea => Tot.ite (fun _ => Tot.bindE ta (Tot.now (by simp))) (fun eb => Tot.now ?_))))))
    have oa := ok_of_text ea
    have ob := ok_of_text eb
    rw [beq_iff_eq, Bool.eq_iff_iff]
    simp only [Bool.and_eq_true, beq_iff_eq, toList_inj]
    constructor
    · exact fun h => opText_inj oa ob h
    · rintro ⟨e1, e2, e3, e4, e5⟩
      rw [e1, e2, e3, e4, e5]
  unfold laws_FnOpOne.f
  exact Tot.ite (fun _ => go _) (fun _ => go _)
end Go.Proofs.YtagfiehoodepbaaDoor.Pure
