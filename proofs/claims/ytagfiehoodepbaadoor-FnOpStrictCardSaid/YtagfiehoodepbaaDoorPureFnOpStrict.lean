/- A drawn text is read alike by the two readers, and what is read has this text. -/
import Derived.Test.YtagfiehoodepbaaDoorQFnOpStrict10
import Derived.Test.YtagfiehoodepbaaDoorU2
set_option linter.unusedVariables false
set_option linter.unusedSimpArgs false
namespace Go.Proofs.YtagfiehoodepbaaDoor.Pure
open Go.RowKit Go.Proofs.YtagfiehoodepbaaDoor.PFnOpStrict Go.Proofs.YtagfiehoodepbaaDoorW.PrintWords Go.Proofs.YtagfiehoodepbaaDoorW.PrintLast Go.Proofs.YtagfiehoodepbaaDoorU
/-! ### pieces -/
theorem spec_l6In_eq (a b c : Int) : spec_l6In.f a b c = some (decide (b ≤ a) && decide (a ≤ c)) := by
  unfold spec_l6In.f
  by_cases h : a ≥ b
  · rw [if_pos h]; simp [show b ≤ a from h]
  · rw [if_neg h]; simp [show ¬ b ≤ a from h]
theorem impl_within_eq (a b c : Int) : impl_within.f a b c = some (decide (b ≤ a) && decide (a ≤ c)) := by
  unfold impl_within.f
  by_cases h : a ≥ b
  · rw [if_pos h]; simp [show b ≤ a from h]
  · rw [if_neg h]; simp [show ¬ b ≤ a from h]
theorem spec_TextOk_l0 (s : ByteArray) (hs : s.size ≤ 140737488355328) (d : Nat) : ∀ i : Nat, i + d = s.size → Tot (fun k => spec_TextOk.l0 k s (i : Int)) (fun r => r = (((bytesOf s).drop i).all okc && decide ((s.size : Int) ≤ 4))) := by
  induction d with
  | zero =>
    intro i hi
    refine Tot.shift ?_
    simp only [spec_TextOk.l0]
    refine Tot.neg (by omega) (Tot.now ?_)
    rw [List.drop_of_length_le (by rw [bytesOf_length]; omega)]
    simp
  | succ d ih =>
    intro i hi
    refine Tot.shift ?_
    simp only [spec_TextOk.l0]
    refine Tot.pos (by omega) (Tot.pos (by omega) (Tot.bindN (spec_l6In_eq _ _ _) ?_))
    rw [w64_bt, w64 (x := (i : Int) + 1) (by omega) (by omega), drop_at s i (by omega), List.all_cons]
    have e : okc (bt s i) = (decide (97 ≤ bt s i) && decide (bt s i ≤ 100)) := rfl
    refine Tot.ite (fun h => ?_) (fun h => Tot.now ?_)
    · rw [e, h, Bool.true_and]; exact ih (i + 1) (by omega)
    · rw [e, Bool.eq_false_iff.2 h]; simp
theorem spec_TextOk_tot (s : ByteArray) (hs : s.size ≤ 140737488355328) : Tot (fun k => spec_TextOk.f k s) (fun r => r = textOk s) := by
  unfold spec_TextOk.f
  exact spec_TextOk_l0 s hs s.size 0 (by omega)
theorem impl_TextOk_l0 (s : ByteArray) (hs : s.size ≤ 140737488355328) (d : Nat) : ∀ i : Nat, i + d = s.size → Tot (fun k => impl_TextOk.l0 k s (s.size : Int) (i : Int)) (fun r => r = (((bytesOf s).drop i).all okc && decide ((s.size : Int) ≤ 4))) := by
  induction d with
  | zero =>
    intro i hi
    refine Tot.shift ?_
    simp only [impl_TextOk.l0]
    refine Tot.neg (by omega) (Tot.now ?_)
    rw [List.drop_of_length_le (by rw [bytesOf_length]; omega)]
    simp
  | succ d ih =>
    intro i hi
    refine Tot.shift ?_
    simp only [impl_TextOk.l0]
    refine Tot.pos (by omega) (Tot.pos (by omega) (Tot.pos (by omega) (Tot.bindN (impl_within_eq _ _ _) ?_)))
    rw [w64_bt, w64 (x := (i : Int) + 1) (by omega) (by omega), drop_at s i (by omega), List.all_cons]
    have e : okc (bt s i) = (decide (97 ≤ bt s i) && decide (bt s i ≤ 100)) := rfl
    refine Tot.ite (fun h => ?_) (fun h => Tot.now ?_)
    · rw [e, h, Bool.true_and]; exact ih (i + 1) (by omega)
    · rw [e, Bool.eq_false_iff.2 h]; simp
theorem impl_TextOk_tot (s : ByteArray) (hs : s.size ≤ 140737488355328) : Tot (fun k => impl_TextOk.f k s) (fun r => r = textOk s) := by
  unfold impl_TextOk.f
  exact impl_TextOk_l0 s hs s.size 0 (by omega)
/-! ### the reader of codes -/
/-- Its bytes are bytes, not too many, and its place is not far. -/
structure Rdr (b : List Int) (p : Int) : Prop where
  bytes : ∀ x ∈ b, 0 ≤ x ∧ x ≤ 255
  len : b.length ≤ 2000
  lo : 0 ≤ p
  hi : p ≤ 1000000000000
theorem rd_byte {b : List Int} (hb : ∀ x ∈ b, 0 ≤ x ∧ x ≤ 255) (i : Int) : 0 ≤ rd b i ∧ rd b i ≤ 255 := by
  unfold rd
  rw [List.getD_eq_getElem?_getD]
  by_cases h : i.toNat < b.length
  · rw [List.getElem?_eq_getElem h]
    exact hb _ (List.getElem_mem h)
  · rw [List.getElem?_eq_none (by omega)]
    exact ⟨by simp, by simp⟩
theorem tmod_pos {a n : Int} (h : 0 ≤ a) (hn : 1 ≤ n) : 0 ≤ Int.tmod a n ∧ Int.tmod a n < n := by
  rw [Int.tmod_eq_emod_of_nonneg h]
  exact ⟨Int.emod_nonneg _ (by omega), Int.emod_lt_of_pos _ (by omega)⟩
theorem pick_tot {b : List Int} {p n : Int} (R : Rdr b p) : Tot (fun k => spec_l6Rd_pick.f k b p n) (fun r => r.2 = p + 1 ∧ (1 ≤ n → 0 ≤ r.1 ∧ r.1 < n)) := by
  obtain ⟨hb, hl, h0, h1⟩ := R
  unfold spec_l6Rd_pick.f
  rw [w64 (x := p + 1) (by omega) (by omega)]
  refine Tot.ite (fun h => ?_) (fun h => ?_)
  · refine Tot.shift ?_
    simp only [spec_l6Rd_pick.j0]
    exact Tot.pos (by simp) (Tot.now ⟨rfl, fun h2 => ⟨Int.le_refl _, by omega⟩⟩)
  · refine Tot.shift ?_
    simp only [spec_l6Rd_pick.j0]
    rw [w64 (x := p + 1 - 1) (by omega) (by omega), show p + 1 - 1 = p from by omega]
    refine Tot.ite (fun h2 => Tot.now ⟨rfl, fun h3 => ⟨Int.le_refl _, by omega⟩⟩) (fun h2 => ?_)
    have hne : ¬ (b.length : Int) = 0 := by simpa using h2
    have hpos : (1 : Int) ≤ b.length := by omega
    refine Tot.ite (fun h3 => Tot.pos h0 (Tot.neg (by omega) (Tot.now ⟨rfl, fun h4 => ?_⟩))) (fun h3 => ?_)
    · have := rd_byte hb p
      rw [w64 (by omega) (by omega)]
      exact tmod_pos this.1 h4
    · have m1 := tmod_pos h0 hpos
      rw [w64 (x := p * 7) (by omega) (by omega), w64 (x := p * 7 + 3) (by omega) (by omega)]
      have m2 := tmod_pos (a := p * 7 + 3) (by omega) hpos
      have r1 := rd_byte hb (Int.tmod p b.length)
      have r2 := rd_byte hb (Int.tmod (p * 7 + 3) b.length)
      have q0 : 0 ≤ Int.tdiv p b.length ∧ Int.tdiv p b.length ≤ p := by
        rw [Int.tdiv_eq_ediv_of_nonneg h0]
        exact ⟨Int.ediv_nonneg h0 (by omega), Int.ediv_le_self _ h0⟩
      refine Tot.neg hne (Tot.pos m1.1 (Tot.pos m1.2 (Tot.pos m2.1 (Tot.pos m2.2 (Tot.neg (by omega) (Tot.now ⟨rfl, fun h4 => ?_⟩))))))
      generalize rd b (Int.tmod p b.length) = x1 at *
      generalize rd b (Int.tmod (p * 7 + 3) b.length) = x2 at *
      generalize Int.tdiv p b.length = q at *
      rw [w64 (x := x1) (by omega) (by omega), w64 (x := x2) (by omega) (by omega), w64 (x := q) (by omega) (by omega), w64 (x := x1 * 131) (by omega) (by omega), w64 (x := x2 * 1117) (by omega) (by omega), w64 (x := x1 * 131 + x2 * 1117) (by omega) (by omega), w64 (x := p * 29) (by omega) (by omega), w64 (x := x1 * 131 + x2 * 1117 + p * 29) (by omega) (by omega), w64 (x := q * 53) (by omega) (by omega), w64 (x := x1 * 131 + x2 * 1117 + p * 29 + q * 53) (by omega) (by omega)]
      generalize hX : x1 * 131 + x2 * 1117 + p * 29 + q * 53 = X
      have X0 : 0 ≤ X := by omega
      have X1 : X < 9223372036854775808 := by omega
      have d0 : 0 ≤ Int.tdiv X 64 ∧ Int.tdiv X 64 ≤ X := by
        rw [Int.tdiv_eq_ediv_of_nonneg X0]; omega
      rw [w64 (x := Int.tdiv X 64) (by omega) (by omega)]
      exact tmod_pos (bits_xor_nonneg X0 X1 d0.1 (by omega)) h4
theorem l6Open_tot (l : List Int) (h8 : ∀ x ∈ l, (Lit.int .u8 x).wf = true) : ∃ v, spec_l6Open.f l = some v ∧ Rdr v.1 v.2 ∧ v.2 = 0 := by
  have hb : ∀ x ∈ l, 0 ≤ x ∧ x ≤ 255 := fun x hx => wf_u8 (h8 x hx)
  unfold spec_l6Open.f
  by_cases h : (l.length : Int) > 2000
  · rw [if_pos h, if_pos (by omega)]
    exact ⟨_, rfl, ⟨fun x hx => hb x (List.mem_of_mem_take hx), by simp; omega, by simp, by simp⟩, rfl⟩
  · rw [if_neg h]
    exact ⟨_, rfl, ⟨hb, by simp; omega, by simp, by simp⟩, rfl⟩
theorem Rdr.go {b : List Int} {p q : Int} (R : Rdr b p) (h : p ≤ q) (h' : q ≤ 1000000000000) : Rdr b q := ⟨R.bytes, R.len, Int.le_trans R.lo h, h'⟩
theorem of_tot {b : List Int} {p : Int} {l : List ByteArray} (R : Rdr b p) (hl : 1 ≤ l.length) : Tot (fun k => spec_l6Rd_of.f k b p l) (fun r => r.2 = p + 1 ∧ r.1 ∈ l) := by
  unfold spec_l6Rd_of.f
  refine Tot.bind (pick_tot R) fun a ⟨ha, hr⟩ => ?_
  have := hr (by omega)
  refine Tot.pos this.1 (Tot.pos this.2 (Tot.now ⟨ha, ?_⟩))
  unfold rdOf
  rw [List.getD_eq_getElem?_getD, List.getElem?_eq_getElem (show a.1.toNat < l.length by omega)]
  exact List.getElem_mem _
/-! ### a drawn piece -/
theorem mem_small {l : List ByteArray} {s : ByteArray} (n : Nat) (h : s ∈ l) (hl : l.all (fun x => decide (x.size ≤ n)) = true) : s.size ≤ n :=
  of_decide_eq_true (List.all_eq_true.1 hl s h)
theorem text_l0 {b : List Int} (d : Nat) : ∀ (s : ByteArray) (p : Int), s.size + d ≤ 1000 → Rdr b p → p + d ≤ 1000000000000 - 10 → Tot (fun k => spec_l71Text.l0 k s (d : Int) b p) (fun r => r.1.size ≤ s.size + d + 4 ∧ p ≤ r.2 ∧ r.2 ≤ p + d + 2) := by
  induction d with
  | zero =>
    intro s p hs R hp
    refine Tot.shift ?_
    simp only [spec_l71Text.l0]
    refine Tot.neg (by omega) (Tot.bind (pick_tot R) fun a ⟨ha, _⟩ => Tot.ite (fun _ => ?_) (fun _ => Tot.now ⟨by simp only []; omega, by simp only []; omega, by simp only []; omega⟩))
    refine Tot.bind (of_tot (R.go (q := a.2) (by omega) (by omega)) (by simp)) fun c ⟨hc, hm⟩ => ?_
    have hz := mem_small 4 hm (by decide +kernel)
    refine Tot.pos (by omega) (Tot.now ⟨?_, by simp only []; omega, by simp only []; omega⟩)
    rw [ByteArray.size_append]; omega
  | succ d ih =>
    intro s p hs R hp
    refine Tot.shift ?_
    simp only [spec_l71Text.l0]
    refine Tot.pos (by omega) (Tot.bind (of_tot R (by simp)) fun c ⟨hc, hm⟩ => ?_)
    have hz := mem_small 1 hm (by decide +kernel)
    have e : wrap64 (((d + 1 : Nat) : Int) - 1) = (d : Int) := by rw [w64 (by omega) (by omega)]; omega
    rw [e]
    have hsz : (s ++ c.1).size ≤ s.size + 1 := by rw [ByteArray.size_append]; omega
    exact Tot.pos (by omega) ((ih (s ++ c.1) c.2 (by omega) (R.go (by omega) (by omega)) (by omega)).mono fun r ⟨h1, h2, h3⟩ => ⟨by omega, by omega, by omega⟩)
theorem text_tot {b : List Int} {p : Int} (R : Rdr b p) (hp : p ≤ 1000000000000 - 100) : Tot (fun k => spec_l71Text.f k b p) (fun r => r.1.size ≤ 7 ∧ p ≤ r.2 ∧ r.2 ≤ p + 6) := by
  unfold spec_l71Text.f
  refine Tot.bind (pick_tot R) fun a ⟨ha, hr⟩ => ?_
  have h4 := hr (by omega)
  obtain ⟨d, hd⟩ := Int.eq_ofNat_of_zero_le h4.1
  rw [hd]
  have hz : (⟨#[]⟩ : ByteArray).size = 0 := rfl
  refine (text_l0 d _ a.2 (by omega) (R.go (by omega) (by omega)) (by omega)).mono fun r ⟨h1, h2, h3⟩ => ⟨?_, by omega, by omega⟩
  omega
/-! ### a drawn change -/
theorem op_j1 {b : List Int} {p : Int} (R : Rdr b p) (hp : p ≤ 1000000000000 - 100) (kind : Int) (nm dst : ByteArray) (n : Int) (t : ByteArray) (h : nm.size ≤ 100 ∧ dst.size ≤ 100 ∧ t.size ≤ 100) :
    Tot (fun k => spec_l71Op.j1 k b p kind nm dst n t) (fun r => (r.2.1.size ≤ 100 ∧ r.2.2.1.size ≤ 100 ∧ r.2.2.2.2.1.size ≤ 100) ∧ p ≤ r.2.2.2.2.2 ∧ r.2.2.2.2.2 ≤ p + 2) := by
  refine Tot.shift ?_
  simp only [spec_l71Op.j1]
  refine Tot.bind (pick_tot R) fun a ⟨ha, _⟩ => Tot.ite (fun _ => ?_) (fun _ => Tot.ite (fun _ => ?_) (fun _ => Tot.ite (fun _ => ?_) (fun _ => Tot.now ⟨h, by simp only []; omega, by simp only []; omega⟩)))
  · refine Tot.bind (of_tot (R.go (q := a.2) (by omega) (by omega)) (by simp)) fun c ⟨hc, hm⟩ => Tot.now ⟨⟨?_, h.2⟩, by simp only []; omega, by simp only []; omega⟩
    have := mem_small 2 hm (by decide +kernel)
    simp only []; omega
  · exact Tot.bind (pick_tot (R.go (q := a.2) (by omega) (by omega))) fun c ⟨hc, _⟩ => Tot.now ⟨h, by simp only []; omega, by simp only []; omega⟩
  · exact Tot.bind (pick_tot (R.go (q := a.2) (by omega) (by omega))) fun c ⟨hc, _⟩ => Tot.now ⟨h, by simp only []; omega, by simp only []; omega⟩
theorem op_j0 {b : List Int} {p : Int} (R : Rdr b p) (hp : p ≤ 1000000000000 - 200) (c : Int) (x : Bool) (kind : Int) (nm dst : ByteArray) (n : Int) (t : ByteArray) (h : nm.size ≤ 100 ∧ dst.size ≤ 100 ∧ t.size ≤ 100) :
    Tot (fun k => spec_l71Op.j0 k c x b p kind nm dst n t) (fun r => (r.2.1.size ≤ 100 ∧ r.2.2.1.size ≤ 100 ∧ r.2.2.2.2.1.size ≤ 100) ∧ p ≤ r.2.2.2.2.2 ∧ r.2.2.2.2.2 ≤ p + 3) := by
  have z : (⟨#[]⟩ : ByteArray).size = 0 := rfl
  refine Tot.shift ?_
  simp only [spec_l71Op.j0]
  refine Tot.ite (fun _ => ?_) (fun _ => Tot.ite (fun _ => ?_) (fun _ => Tot.ite (fun _ => ?_) (fun _ => ?_)))
  · exact Tot.bind (pick_tot R) fun a ⟨ha, _⟩ => (op_j1 (R.go (q := a.2) (by omega) (by omega)) (by omega) _ _ _ _ _ ⟨h.1, by omega, by omega⟩).mono fun r hr => ⟨hr.1, by omega, by omega⟩
  · refine Tot.bind (of_tot R (by simp)) fun a ⟨ha, hm⟩ => ?_
    have := mem_small 1 hm (by decide +kernel)
    exact (op_j1 (R.go (q := a.2) (by omega) (by omega)) (by omega) _ _ _ _ _ ⟨h.1, by omega, by omega⟩).mono fun r hr => ⟨hr.1, by omega, by omega⟩
  · exact (op_j1 R (by omega) _ _ _ _ _ ⟨h.1, by omega, by omega⟩).mono fun r hr => ⟨hr.1, by omega, by omega⟩
  · exact (op_j1 R (by omega) _ _ _ _ _ h).mono fun r hr => ⟨hr.1, by omega, by omega⟩
theorem op_tot {b : List Int} {p : Int} (R : Rdr b p) (hp : p ≤ 1000000000000 - 300) :
    Tot (fun k => spec_l71Op.f k b p) (fun r => (r.2.1.size ≤ 100 ∧ r.2.2.1.size ≤ 100 ∧ r.2.2.2.2.1.size ≤ 100) ∧ p ≤ r.2.2.2.2.2 ∧ r.2.2.2.2.2 ≤ p + 12) := by
  have z : (⟨#[]⟩ : ByteArray).size = 0 := rfl
  unfold spec_l71Op.f
  refine Tot.bind (of_tot R (by simp)) fun a ⟨ha, hm⟩ => Tot.bind (pick_tot (R.go (q := a.2) (by omega) (by omega))) fun c ⟨hc, _⟩ => Tot.bind (text_tot (R.go (q := c.2) (by omega) (by omega)) (by omega)) fun t ⟨ht, ht2, ht3⟩ => Tot.bind (pick_tot (R.go (q := t.2) (by omega) (by omega))) fun d ⟨hd, _⟩ => ?_
  have := mem_small 1 hm (by decide +kernel)
  refine Tot.ite (fun _ => ?_) (fun _ => ?_)
  · exact (op_j0 (R.go (q := d.2) (by omega) (by omega)) (by omega) _ _ _ _ _ _ _ ⟨by omega, by omega, by omega⟩).mono fun r hr => ⟨hr.1, by omega, by omega⟩
  · exact (op_j0 (R.go (q := d.2) (by omega) (by omega)) (by omega) _ _ _ _ _ _ _ ⟨by omega, by omega, by omega⟩).mono fun r hr => ⟨hr.1, by omega, by omega⟩
/-! ### names -/
theorem size_toList (s : ByteArray) : s.size = s.toList.length := by
  rw [ByteArray.toList_eq]; exact (data_length s).symm
theorem bt0_toList (s : ByteArray) (c : UInt8) (l : List UInt8) (h : s.toList = c :: l) : bt s 0 = (c.toNat : Int) := by
  rw [bt_rd, toList_bytes, h]
  rfl
theorem isName_toList (s : ByteArray) : isName s = (s.toList == [65] || s.toList == [66] || s.toList == [67] || s.toList == [68]) := by
  unfold isName
  cases h : s.toList with
  | nil => rw [size_toList, h]; simp
  | cons c l =>
    rw [bt0_toList s c l h, size_toList, h]
    cases l with
    | nil =>
      have hc := c.toNat_lt
      have e : ∀ n : Nat, n < 256 → ((c == UInt8.ofNat n) = decide ((c.toNat : Int) = n)) := fun n hn => by
        rw [Bool.eq_iff_iff]
        simp only [beq_iff_eq, decide_eq_true_eq]
        constructor
        · rintro rfl; simp; omega
        · intro h2
          have h3 : c.toNat = n := by exact_mod_cast h2
          rw [← h3]; simp
      have e65 := e 65 (by omega); have e66 := e 66 (by omega); have e67 := e 67 (by omega); have e68 := e 68 (by omega)
      simp only [List.cons_beq_cons, List.length_cons, List.length_nil]
      rw [show (65 : UInt8) = UInt8.ofNat 65 from rfl, show (66 : UInt8) = UInt8.ofNat 66 from rfl, show (67 : UInt8) = UInt8.ofNat 67 from rfl, show (68 : UInt8) = UInt8.ofNat 68 from rfl, e65, e66, e67, e68]
      rw [Bool.eq_iff_iff]
      simp
      omega
    | cons d l => simp; omega
theorem spec_l3Name_eq (s : ByteArray) : spec_l3Name.f s = some (isName s) := by
  unfold spec_l3Name.f isName
  by_cases h : (s.size : Int) = 1
  · rw [if_pos h, if_pos (by omega), spec_l6In_eq, w64_bt, Option.bind_some, decide_eq_true h, Bool.true_and]
  · rw [if_neg h, decide_eq_false h, Bool.false_and]
theorem impl_isName_eq (s : ByteArray) : impl_isName.f s = some (isName s) := by
  rw [isName_toList]
  unfold impl_isName.f
  by_cases h1 : s.toList = ([65] : List UInt8)
  · rw [if_pos h1]; simp [h1]
  by_cases h2 : s.toList = ([66] : List UInt8)
  · rw [if_neg h1, if_pos h2]; simp [h2]
  by_cases h3 : s.toList = ([67] : List UInt8)
  · rw [if_neg h1, if_neg h2, if_pos h3]; simp [h3]
  · rw [if_neg h1, if_neg h2, if_neg h3]; simp [h1, h2, h3]
/-! ### changes -/
theorem beq_dec (a : Int) : (a == 0) = decide (a = 0) := rfl
theorem toList_empty (s : ByteArray) : (s.toList == ([] : List UInt8)) = empty s := rfl
theorem spec_OpOk_tot (kind : Int) (nm dst : ByteArray) (n : Int) (t : ByteArray) (ht : t.size ≤ 140737488355328) : Tot (fun k => spec_OpOk.f k kind nm dst n t) (fun r => r = opOk kind nm dst n t) := by
  unfold spec_OpOk.f
  refine Tot.bindN (spec_l3Name_eq nm) (Tot.ite (fun hn => ?_) (fun hn => Tot.now (by simp [opOk, hn])))
  refine Tot.ite (fun h1 => ?_) (fun h1 => Tot.ite (fun h2 => ?_) (fun h2 => Tot.ite (fun h3 => ?_) (fun h3 => Tot.ite (fun h4 => ?_) (fun h4 => Tot.now (by simp [opOk, h1, h2, h3, h4])))))
  · subst h1
    refine Tot.ite (fun he => Tot.bindN (spec_l6In_eq _ _ _) (Tot.ite (fun h => Tot.now ?_) (fun h => Tot.now ?_))) (fun he => Tot.now ?_)
    · rw [toList_empty]; simp at h; simp [opOk, hn, h, empty, he]
    · simp only [opOk]; simp at h; simp [hn, empty, he]; omega
    · simp [opOk, empty, he]
  · subst h2
    refine Tot.ite (fun he => Tot.bindN (spec_l6In_eq _ _ _) (Tot.ite (fun h => Tot.bindE (spec_TextOk_tot t ht) (Tot.now ?_)) (fun h => Tot.now ?_))) (fun he => Tot.now ?_)
    · simp at h; simp [opOk, hn, empty, he, h]
    · simp at h; simp [opOk, hn, empty, he]; omega
    · simp [opOk, empty, he]
  · subst h3
    refine Tot.bindN (spec_l3Name_eq dst) (Tot.ite (fun hm => Tot.ite (fun h => Tot.now ?_) (fun h => Tot.now ?_)) (fun hm => Tot.now ?_))
    · rw [toList_empty]; simp [opOk, hn, hm, h]
    · simp [opOk, h]
    · simp [opOk, hm]
  · subst h4
    refine Tot.ite (fun he => Tot.ite (fun h => Tot.now ?_) (fun h => Tot.now ?_)) (fun he => Tot.now ?_)
    · rw [toList_empty]; simp [opOk, hn, empty, he, h]
    · simp [opOk, h]
    · simp [opOk, empty, he]
theorem impl_OpOk_tot (kind : Int) (nm dst : ByteArray) (n : Int) (t : ByteArray) (ht : t.size ≤ 140737488355328) : Tot (fun k => impl_OpOk.f k kind nm dst n t) (fun r => r = opOk kind nm dst n t) := by
  unfold impl_OpOk.f
  refine Tot.ite (fun h1 => ?_) (fun h1 => Tot.ite (fun h2 => ?_) (fun h2 => Tot.ite (fun h3 => ?_) (fun h3 => Tot.ite (fun h4 => ?_) (fun h4 => Tot.now (by simp [opOk, h1, h2, h3, h4])))))
  · subst h1
    refine Tot.bindN (impl_within_eq _ _ _) (Tot.ite (fun h => Tot.bindN (impl_isName_eq nm) (Tot.ite (fun hn => Tot.now ?_) (fun hn => Tot.now ?_))) (fun h => Tot.now ?_))
    · rw [toList_empty, toList_empty]; simp at h; simp [opOk, hn, h]
    · simp [opOk, hn]
    · simp at h; simp [opOk]; omega
  · subst h2
    refine Tot.bindN (impl_within_eq _ _ _) (Tot.ite (fun h => Tot.bindE (impl_TextOk_tot t ht) (Tot.ite (fun hk => Tot.bindN (impl_isName_eq nm) (Tot.ite (fun hn => Tot.now ?_) (fun hn => Tot.now ?_))) (fun hk => Tot.now ?_))) (fun h => Tot.now ?_))
    · rw [toList_empty]; simp at h; simp [opOk, hn, h, hk]
    · simp [opOk, hn]
    · simp [opOk, hk]
    · simp at h; simp [opOk]; omega
  · subst h3
    refine Tot.bindN (impl_isName_eq dst) (Tot.ite (fun hm => Tot.bindN (impl_isName_eq nm) (Tot.ite (fun hn => Tot.now ?_) (fun hn => Tot.now ?_))) (fun hm => Tot.now ?_))
    · rw [toList_empty, beq_dec]; simp [opOk, hn, hm]
    · simp [opOk, hn]
    · simp [opOk, hm]
  · subst h4
    refine Tot.bindN (impl_isName_eq nm) (Tot.ite (fun hn => Tot.now ?_) (fun hn => Tot.now ?_))
    · rw [toList_empty, toList_empty, beq_dec]; simp [opOk, hn, Bool.and_assoc]
    · simp [opOk, hn]
/-! ### the text of a change -/
def dig (n : Int) : ByteArray := ⟨(Lib.decDigits n.toNat).toArray⟩
theorem dig_eq : ∀ i : Fin 10, strOfNums [(wrap64 (48 + (i.val : Int))) % 256] = dig (i.val : Int) ∧ (dig (i.val : Int)).size = 1 := by decide +kernel
theorem dig_spec {n : Int} (h0 : 0 ≤ n) (h1 : n ≤ 9) : strOfNums [(wrap64 (48 + n)) % 256] = dig n ∧ (dig n).size = 1 := by
  have := dig_eq ⟨n.toNat, by omega⟩
  rw [show (((⟨n.toNat, by omega⟩ : Fin 10).val : Nat) : Int) = n from by show ((n.toNat : Nat) : Int) = n; omega] at this
  exact this
theorem l6Dec_tot {n : Int} (h0 : 0 ≤ n) (h1 : n ≤ 9) : Tot (fun k => spec_l6Dec.f k n) (fun r => r = dig n) := by
  refine Tot.shift ?_
  simp only [spec_l6Dec.f]
  exact Tot.neg (by omega) (Tot.neg (by omega) (Tot.pos (by omega) (Tot.now (dig_spec h0 h1).1)))
theorem itoa_eq {n : Int} (h0 : 0 ≤ n) (h1 : n ≤ 9) : strconv_Itoa_22.f n = some (dig n) := by
  unfold strconv_Itoa_22.f
  rw [if_pos (by omega)]
  rfl
def opText (kind : Int) (nm dst : ByteArray) (n : Int) (t : ByteArray) : ByteArray :=
  if opOk kind nm dst n t = true then
    (if kind = 1 then (((⟨#[109, 97, 107, 101, 32]⟩ : ByteArray) ++ nm) ++ (⟨#[32]⟩ : ByteArray)) ++ dig n
     else if kind = 3 then (((⟨#[99, 108, 111, 110, 101, 32]⟩ : ByteArray) ++ nm) ++ (⟨#[32]⟩ : ByteArray)) ++ dst
     else if kind = 4 then (⟨#[103, 111, 110, 101, 32]⟩ : ByteArray) ++ nm
     else if t.toList = ([] : List UInt8) then (((⟨#[102, 114, 101, 101, 32]⟩ : ByteArray) ++ nm) ++ (⟨#[32]⟩ : ByteArray)) ++ dig n
     else (((((⟨#[119, 114, 105, 116, 101, 32]⟩ : ByteArray) ++ nm) ++ (⟨#[32]⟩ : ByteArray)) ++ dig n) ++ (⟨#[32]⟩ : ByteArray)) ++ t)
  else ⟨#[]⟩
theorem opOk_n {kind : Int} {nm dst : ByteArray} {n : Int} {t : ByteArray} (h : opOk kind nm dst n t = true) : 0 ≤ n ∧ n ≤ 9 ∧ (kind = 1 ∨ kind = 2 ∨ kind = 3 ∨ kind = 4) := by
  by_cases h1 : kind = 1
  · subst h1; simp [opOk] at h; omega
  by_cases h2 : kind = 2
  · subst h2; simp [opOk] at h; omega
  by_cases h3 : kind = 3
  · subst h3; simp [opOk] at h; omega
  by_cases h4 : kind = 4
  · subst h4; simp [opOk] at h; omega
  · simp [opOk, h1, h2, h3, h4] at h
theorem impl_OpText_tot (kind : Int) (nm dst : ByteArray) (n : Int) (t : ByteArray) (hn : nm.size ≤ 1048576) (hd : dst.size ≤ 1048576) (ht : t.size ≤ 1048576) : Tot (fun k => impl_OpText.f k kind nm dst n t) (fun r => r = opText kind nm dst n t) := by
  unfold impl_OpText.f opText
  refine Tot.bindE (impl_OpOk_tot kind nm dst n t (by omega)) (Tot.ite (fun h => ?_) (fun h => Tot.now (by rw [if_neg h])))
  rw [if_pos h]
  obtain ⟨n0, n9, _⟩ := opOk_n h
  have dz := (dig_spec n0 n9).2
  have z1 : (⟨#[32]⟩ : ByteArray).size = 1 := rfl
  have z5 : (⟨#[109, 97, 107, 101, 32]⟩ : ByteArray).size = 5 := rfl
  have z6 : (⟨#[99, 108, 111, 110, 101, 32]⟩ : ByteArray).size = 6 := rfl
  have z7 : (⟨#[102, 114, 101, 101, 32]⟩ : ByteArray).size = 5 := rfl
  have z8 : (⟨#[119, 114, 105, 116, 101, 32]⟩ : ByteArray).size = 6 := rfl
  refine Tot.bindN (itoa_eq n0 n9) (Tot.ite (fun h1 => ?_) (fun h1 => Tot.ite (fun h3 => ?_) (fun h3 => Tot.ite (fun h4 => ?_) (fun h4 => Tot.ite (fun he => ?_) (fun he => ?_)))))
  · rw [if_pos h1]
    exact Tot.pos (by omega) (Tot.pos (by simp only [ByteArray.size_append]; omega) (Tot.pos (by simp only [ByteArray.size_append]; omega) (Tot.now rfl)))
  · rw [if_neg h1, if_pos h3]
    exact Tot.pos (by omega) (Tot.pos (by simp only [ByteArray.size_append]; omega) (Tot.pos (by simp only [ByteArray.size_append]; omega) (Tot.now rfl)))
  · rw [if_neg h1, if_neg h3, if_pos h4]
    exact Tot.pos (by omega) (Tot.now rfl)
  · rw [if_neg h1, if_neg h3, if_neg h4, if_pos he]
    exact Tot.pos (by omega) (Tot.pos (by simp only [ByteArray.size_append]; omega) (Tot.pos (by simp only [ByteArray.size_append]; omega) (Tot.now rfl)))
  · rw [if_neg h1, if_neg h3, if_neg h4, if_neg he]
    exact Tot.pos (by omega) (Tot.pos (by simp only [ByteArray.size_append]; omega) (Tot.pos (by simp only [ByteArray.size_append]; omega) (Tot.pos (by simp only [ByteArray.size_append]; omega) (Tot.pos (by simp only [ByteArray.size_append]; omega) (Tot.now rfl)))))
theorem spec_OpText_tot (kind : Int) (nm dst : ByteArray) (n : Int) (t : ByteArray) (hn : nm.size ≤ 1048576) (hd : dst.size ≤ 1048576) (ht : t.size ≤ 1048576) : Tot (fun k => spec_OpText.f k kind nm dst n t) (fun r => r = opText kind nm dst n t) := by
  unfold spec_OpText.f opText
  refine Tot.bindE (spec_OpOk_tot kind nm dst n t (by omega)) (Tot.ite (fun h => ?_) (fun h => Tot.now (by rw [if_neg h])))
  rw [if_pos h]
  obtain ⟨n0, n9, hk⟩ := opOk_n h
  have dz := (dig_spec n0 n9).2
  have z1 : (⟨#[32]⟩ : ByteArray).size = 1 := rfl
  have z5 : (⟨#[109, 97, 107, 101, 32]⟩ : ByteArray).size = 5 := rfl
  have z6 : (⟨#[99, 108, 111, 110, 101, 32]⟩ : ByteArray).size = 6 := rfl
  have z7 : (⟨#[102, 114, 101, 101, 32]⟩ : ByteArray).size = 5 := rfl
  have z8 : (⟨#[119, 114, 105, 116, 101, 32]⟩ : ByteArray).size = 6 := rfl
  refine Tot.ite (fun h1 => ?_) (fun h1 => Tot.ite (fun h2 => Tot.ite (fun he => ?_) (fun he => ?_)) (fun h2 => Tot.ite (fun h3 => ?_) (fun h3 => ?_)))
  · rw [if_pos h1]
    exact Tot.pos (by omega) (Tot.pos (by simp only [ByteArray.size_append]; omega) (Tot.bindE (l6Dec_tot n0 n9) (Tot.pos (by simp only [ByteArray.size_append]; omega) (Tot.now rfl))))
  · rw [if_neg h1, if_neg (show ¬ kind = 3 by omega), if_neg (show ¬ kind = 4 by omega), if_pos he]
    exact Tot.pos (by omega) (Tot.pos (by simp only [ByteArray.size_append]; omega) (Tot.bindE (l6Dec_tot n0 n9) (Tot.pos (by simp only [ByteArray.size_append]; omega) (Tot.now rfl))))
  · rw [if_neg h1, if_neg (show ¬ kind = 3 by omega), if_neg (show ¬ kind = 4 by omega), if_neg he]
    exact Tot.pos (by omega) (Tot.pos (by simp only [ByteArray.size_append]; omega) (Tot.bindE (l6Dec_tot n0 n9) (Tot.pos (by simp only [ByteArray.size_append]; omega) (Tot.pos (by simp only [ByteArray.size_append]; omega) (Tot.pos (by simp only [ByteArray.size_append]; omega) (Tot.now rfl))))))
  · rw [if_neg h1, if_pos h3]
    exact Tot.pos (by omega) (Tot.pos (by simp only [ByteArray.size_append]; omega) (Tot.pos (by simp only [ByteArray.size_append]; omega) (Tot.now rfl)))
  · rw [if_neg h1, if_neg h3, if_pos (show kind = 4 by omega)]
    exact Tot.pos (by omega) (Tot.now rfl)
/-! ### the words of a text -/
def nosp (l : List UInt8) : Prop := ∀ b ∈ l, b ≠ 32
theorem nosp_nil : nosp [] := fun _ h => by simp at h
theorem nosp_one {c : UInt8} (h : c ≠ 32) : nosp [c] := fun b hb => by rw [List.mem_singleton.1 hb]; exact h
theorem nosp_cons {b : UInt8} {l : List UInt8} (h : b ≠ 32) (hl : nosp l) : nosp (b :: l) := fun x hx => by
  rcases List.mem_cons.1 hx with rfl | hx
  · exact h
  · exact hl x hx
theorem nosp_tail {b : UInt8} {l : List UInt8} (h : nosp (b :: l)) : nosp l := fun x hx => h x (List.mem_cons_of_mem _ hx)
theorem index_app : ∀ (l m : List UInt8), nosp l → Lib.index (l ++ 32 :: m) [32] = (l.length : Int)
  | [], m, _ => by rw [List.nil_append, Lib.index]; simp [List.isPrefixOf]
  | b :: l, m, h => by
    have ih := index_app l m (nosp_tail h)
    have hb : b ≠ 32 := h b List.mem_cons_self
    rw [List.cons_append, Lib.index, ih]
    have e : ([32] : List UInt8).isPrefixOf (b :: (l ++ 32 :: m)) = false := by simp [List.isPrefixOf, Ne.symm hb]
    rw [e, if_neg (by simp), if_neg (by simp)]
    simp
/-- What stands between the spaces. -/
def pieces (l : List UInt8) : List (List UInt8) := Lib.splitK [32] 0 (l.count 32) l
theorem count_nosp {l : List UInt8} (h : nosp l) : l.count 32 = 0 := List.count_eq_zero.2 fun hm => h 32 hm rfl
theorem pieces_one {l : List UInt8} (h : nosp l) : pieces l = [l] := by
  unfold pieces
  rw [count_nosp h]
  rfl
theorem pieces_app {l : List UInt8} (h : nosp l) (m : List UInt8) : pieces (l ++ 32 :: m) = l :: pieces m := by
  unfold pieces
  rw [show (l ++ 32 :: m).count 32 = m.count 32 + 1 from by rw [List.count_append, count_nosp h, List.count_cons_self]; omega]
  rw [Lib.splitK, index_app l m h, if_neg (by simp)]
  simp
theorem parts : ∀ l : List UInt8, nosp l ∨ ∃ l1 l2, nosp l1 ∧ l = l1 ++ 32 :: l2
  | [] => .inl nosp_nil
  | b :: l => by
    by_cases h : b = 32
    · subst h; exact .inr ⟨[], l, nosp_nil, rfl⟩
    · rcases parts l with h2 | ⟨l1, l2, h2, rfl⟩
      · exact .inl (nosp_cons h h2)
      · exact .inr ⟨b :: l1, l2, nosp_cons h h2, rfl⟩
theorem pieces_len (j : Nat) : ∀ l : List UInt8, ((pieces l).getD j []).length + j ≤ l.length ∨ (pieces l).getD j [] = [] := by
  induction j with
  | zero =>
    intro l
    rcases parts l with h | ⟨l1, l2, h, rfl⟩
    · rw [pieces_one h]; left; simp
    · rw [pieces_app h]; left; simp
  | succ j ih =>
    intro l
    rcases parts l with h | ⟨l1, l2, h, rfl⟩
    · rw [pieces_one h]; right; simp
    · rw [pieces_app h]
      rcases ih l2 with h2 | h2
      · left; simp at h2 ⊢; omega
      · right; simpa using h2
theorem pieces_ne (l : List UInt8) : 0 < (pieces l).length := by
  rcases parts l with h | ⟨l1, l2, h, rfl⟩
  · rw [pieces_one h]; simp
  · rw [pieces_app h]; simp
/-- Cut from the left, cur behind the last space. -/
def cutR (cur : List UInt8) : List UInt8 → List (List UInt8)
  | [] => [cur]
  | b :: l => if b = 32 then cur :: cutR [] l else cutR (cur ++ [b]) l
theorem cutR_one : ∀ (l cur : List UInt8), nosp l → cutR cur l = [cur ++ l]
  | [], cur, _ => by simp [cutR]
  | b :: l, cur, h => by
    rw [cutR, if_neg (h b List.mem_cons_self), cutR_one l _ (nosp_tail h)]
    simp
theorem cutR_app : ∀ (l m cur : List UInt8), nosp l → cutR cur (l ++ 32 :: m) = (cur ++ l) :: cutR [] m
  | [], m, cur, _ => by simp [cutR]
  | b :: l, m, cur, h => by
    rw [List.cons_append, cutR, if_neg (h b List.mem_cons_self), cutR_app l m _ (nosp_tail h)]
    simp
theorem cutR_eq (n : Nat) : ∀ l : List UInt8, l.length ≤ n → cutR [] l = pieces l := by
  induction n with
  | zero =>
    intro l hl
    obtain rfl := List.eq_nil_of_length_eq_zero (Nat.le_zero.1 hl)
    rfl
  | succ n ih =>
    intro l hl
    rcases parts l with h | ⟨l1, l2, h, rfl⟩
    · rw [pieces_one h, cutR_one l [] h]; rfl
    · rw [pieces_app h, cutR_app l1 l2 [] h, ih l2 (by simp at hl; omega)]; rfl
/-- The j-th word; empty, if there is none. -/
def W (s : ByteArray) (j : Nat) : ByteArray := ⟨((pieces s.data.toList).getD j []).toArray⟩
theorem W_data (s : ByteArray) (j : Nat) : (W s j).data.toList = (pieces s.data.toList).getD j [] := rfl
theorem data_inj {a b : ByteArray} (h : a.data.toList = b.data.toList) : a = b := by
  cases a; cases b; simp only at h; congr; exact Array.toList_inj.1 h
theorem W_of {s x : ByteArray} {j : Nat} (h : x.data.toList = (pieces s.data.toList).getD j []) : x = W s j := data_inj h
theorem W_size (s : ByteArray) (j : Nat) : (W s j).size + j ≤ s.size ∨ (W s j).size = 0 := by
  have e : (W s j).size = ((pieces s.data.toList).getD j []).length := by rw [← data_length]; rfl
  rw [e, ← data_length s]
  rcases pieces_len j s.data.toList with h | h
  · exact .inl h
  · right; rw [h]; rfl
theorem split_eq (s : ByteArray) (h : s.size < 4294967281) : ∃ ws, strings_Split.f s (⟨#[32]⟩ : ByteArray) = some ws ∧ ws.map (·.data.toList) = pieces s.data.toList := by
  unfold strings_Split.f
  rw [if_pos ⟨h, by decide⟩]
  refine ⟨_, rfl, ?_⟩
  rw [Lib.splitB_data]
  unfold pieces
  rw [show Lib.countB s (⟨#[32]⟩ : ByteArray) = s.data.toList.count 32 from Lib.count_one 32 s.data.toList]
theorem word_at {ws : List ByteArray} {P : List (List UInt8)} (h : ws.map (·.data.toList) = P) (j : Nat) : (ws.getD j ByteArray.empty).data.toList = P.getD j [] := by
  subst h
  simp only [List.getD_eq_getElem?_getD, List.getElem?_map]
  cases ws[j]? with
  | none => rfl
  | some x => rfl
/-! ### a change and its text -/
abbrev OpT := Int × ByteArray × ByteArray × Int × ByteArray
def okT (o : OpT) : Bool := opOk o.1 o.2.1 o.2.2.1 o.2.2.2.1 o.2.2.2.2
def txt (o : OpT) : ByteArray := opText o.1 o.2.1 o.2.2.1 o.2.2.2.1 o.2.2.2.2
abbrev ResT := Int × ByteArray × ByteArray × Int × ByteArray × Bool
def opOf (r : ResT) : OpT := (r.1, r.2.1, r.2.2.1, r.2.2.2.1, r.2.2.2.2.1)
def resOf (o : OpT) (b : Bool) : ResT := (o.1, o.2.1, o.2.2.1, o.2.2.2.1, o.2.2.2.2, b)
def zf : ResT := (0, (⟨#[]⟩ : ByteArray), (⟨#[]⟩ : ByteArray), 0, (⟨#[]⟩ : ByteArray), false)
theorem dig_one (n : Fin 10) : (dig (n.val : Int)).data.toList = [UInt8.ofNat (48 + n.val)] ∧ UInt8.ofNat (48 + n.val) ≠ 32 ∧ (Lib.atoi (dig (n.val : Int)).data.toList).getD 0 = (n.val : Int) := by
  revert n; decide +kernel
theorem dig_form {n : Int} (h0 : 0 ≤ n) (h9 : n ≤ 9) : (∃ d, (dig n).data.toList = [d] ∧ d ≠ 32 ∧ 48 ≤ d.toNat ∧ d.toNat ≤ 57 ∧ (d.toNat : Int) = 48 + n) ∧ (Lib.atoi (dig n).data.toList).getD 0 = n := by
  have := dig_one ⟨n.toNat, by omega⟩
  rw [show (((⟨n.toNat, by omega⟩ : Fin 10).val : Nat) : Int) = n from by show ((n.toNat : Nat) : Int) = n; omega] at this
  have e : (UInt8.ofNat (48 + n.toNat)).toNat = 48 + n.toNat := by simp; omega
  exact ⟨⟨_, this.1, this.2.1, by show 48 ≤ (UInt8.ofNat (48 + n.toNat)).toNat; omega, by show (UInt8.ofNat (48 + n.toNat)).toNat ≤ 57; omega, by show ((UInt8.ofNat (48 + n.toNat)).toNat : Int) = 48 + n; omega⟩, this.2.2⟩
theorem empty_eq {t : ByteArray} (h : empty t = true) : t = (⟨#[]⟩ : ByteArray) := by
  unfold empty at h
  exact toList_inj.1 (by rw [beq_iff_eq.1 h]; decide +kernel)
theorem form {kind : Int} {nm dst : ByteArray} {n : Int} {t : ByteArray} (h : opOk kind nm dst n t = true) :
    isName nm = true ∧ (kind = 1 ∧ dst = ⟨#[]⟩ ∧ t = ⟨#[]⟩ ∨ kind = 2 ∧ dst = ⟨#[]⟩ ∧ textOk t = true ∨ kind = 3 ∧ isName dst = true ∧ n = 0 ∧ t = ⟨#[]⟩ ∨ kind = 4 ∧ dst = ⟨#[]⟩ ∧ n = 0 ∧ t = ⟨#[]⟩) := by
  by_cases h1 : kind = 1
  · subst h1; simp [opOk] at h; exact ⟨by simp_all, Or.inl ⟨rfl, empty_eq (by simp_all), empty_eq (by simp_all)⟩⟩
  by_cases h2 : kind = 2
  · subst h2; simp [opOk] at h; exact ⟨by simp_all, Or.inr (Or.inl ⟨rfl, empty_eq (by simp_all), by simp_all⟩)⟩
  by_cases h3 : kind = 3
  · subst h3; simp [opOk] at h; exact ⟨by simp_all, Or.inr (Or.inr (Or.inl ⟨rfl, by simp_all, by simp_all, empty_eq (by simp_all)⟩))⟩
  by_cases h4 : kind = 4
  · subst h4; simp [opOk] at h; exact ⟨by simp_all, Or.inr (Or.inr (Or.inr ⟨rfl, empty_eq (by simp_all), by simp_all, empty_eq (by simp_all)⟩))⟩
  · simp [opOk, h1, h2, h3, h4] at h
theorem name_form {nm : ByteArray} (h : isName nm = true) : ∃ c, nm.data.toList = [c] ∧ c ≠ 32 := by
  rw [isName_toList] at h
  simp only [Bool.or_eq_true, beq_iff_eq, ByteArray.toList_eq] at h
  rcases h with ((h | h) | h) | h <;> exact ⟨_, h, by decide⟩
theorem text_form {t : ByteArray} (h : textOk t = true) : nosp t.data.toList ∧ t.data.toList.length ≤ 4 := by
  have hs := textOk_size h
  unfold textOk at h
  rw [Bool.and_eq_true] at h
  refine ⟨fun b hb => ?_, by rw [data_length]; exact hs⟩
  have := List.all_eq_true.1 h.1 (b.toNat : Int) (List.mem_map.2 ⟨b, hb, rfl⟩)
  rintro rfl
  exact absurd this (by decide)
theorem nil_list : (⟨#[]⟩ : ByteArray).toList = ([] : List UInt8) := by decide +kernel
/-- A change's text, letter by letter. -/
theorem shape {k : Int} {nm dst : ByteArray} {n : Int} {t : ByteArray} (h : opOk k nm dst n t = true) : 0 ≤ n ∧ n ≤ 9 ∧ ∃ c d : UInt8, nm.data.toList = [c] ∧ c ≠ 32 ∧ (dig n).data.toList = [d] ∧ d ≠ 32 ∧
    (k = 1 ∧ dst = ⟨#[]⟩ ∧ t = ⟨#[]⟩ ∧ (opText k nm dst n t).data.toList = [109, 97, 107, 101] ++ 32 :: ([c] ++ 32 :: [d]) ∨
     k = 2 ∧ dst = ⟨#[]⟩ ∧ t = ⟨#[]⟩ ∧ (opText k nm dst n t).data.toList = [102, 114, 101, 101] ++ 32 :: ([c] ++ 32 :: [d]) ∨
     k = 2 ∧ dst = ⟨#[]⟩ ∧ t.data.toList ≠ [] ∧ nosp t.data.toList ∧ t.data.toList.length ≤ 4 ∧ (opText k nm dst n t).data.toList = [119, 114, 105, 116, 101] ++ 32 :: ([c] ++ 32 :: ([d] ++ 32 :: t.data.toList)) ∨
     k = 3 ∧ n = 0 ∧ t = ⟨#[]⟩ ∧ (∃ e : UInt8, dst.data.toList = [e] ∧ e ≠ 32 ∧ (opText k nm dst n t).data.toList = [99, 108, 111, 110, 101] ++ 32 :: ([c] ++ 32 :: [e])) ∨
     k = 4 ∧ dst = ⟨#[]⟩ ∧ n = 0 ∧ t = ⟨#[]⟩ ∧ (opText k nm dst n t).data.toList = [103, 111, 110, 101] ++ 32 :: [c]) := by
  obtain ⟨n0, n9, _⟩ := opOk_n h
  obtain ⟨hn, f⟩ := form h
  obtain ⟨c, hc, c32⟩ := name_form hn
  obtain ⟨⟨d, hd, d32, _, _, _⟩, _⟩ := dig_form n0 n9
  refine ⟨n0, n9, c, d, hc, c32, hd, d32, ?_⟩
  unfold opText
  rw [if_pos h]
  rcases f with ⟨rfl, rfl, rfl⟩ | ⟨rfl, rfl, ht⟩ | ⟨rfl, hm, rfl, rfl⟩ | ⟨rfl, rfl, rfl, rfl⟩
  · left
    refine ⟨rfl, rfl, rfl, ?_⟩
    rw [if_pos rfl]
    simp [hc, hd]
  · right
    rw [if_neg (by decide), if_neg (by decide), if_neg (by decide)]
    by_cases he : t.toList = ([] : List UInt8)
    · left
      rw [if_pos he]
      have : t = ⟨#[]⟩ := toList_inj.1 (he.trans nil_list.symm)
      refine ⟨rfl, rfl, this, ?_⟩
      simp [hc, hd]
    · right; left
      rw [if_neg he]
      refine ⟨rfl, rfl, fun e => he (by rw [ByteArray.toList_eq]; exact e), (text_form ht).1, (text_form ht).2, ?_⟩
      simp [hc, hd]
  · right; right; right; left
    obtain ⟨e, he, e32⟩ := name_form hm
    refine ⟨rfl, rfl, rfl, e, he, e32, ?_⟩
    rw [if_neg (by decide), if_pos rfl]
    simp [hc, he]
  · right; right; right; right
    refine ⟨rfl, rfl, rfl, rfl, ?_⟩
    rw [if_neg (by decide), if_neg (by decide), if_pos rfl]
    simp [hc]
theorem ok_of_text {k : Int} {nm dst : ByteArray} {n : Int} {t : ByteArray} (h : ¬ (opText k nm dst n t).toList = ([] : List UInt8)) : opOk k nm dst n t = true := by
  cases e : opOk k nm dst n t with
  | true => rfl
  | false => exact absurd (by unfold opText; rw [e]; exact nil_list) h
/-- The text begins and ends with a letter, and is short. -/
theorem ends {o : OpT} (h : okT o = true) : (∃ b l, (txt o).data.toList = b :: l ∧ b ≠ 32) ∧ (∃ l b, (txt o).data.toList = l ++ [b] ∧ b ≠ 32) ∧ (txt o).size ≤ 20 := by
  obtain ⟨n0, n9, c, d, hc, c32, hd, d32, f⟩ := shape h
  rw [← data_length (txt o)]
  rcases f with ⟨_, _, _, e⟩ | ⟨_, _, _, e⟩ | ⟨_, _, t0, ts, tl, e⟩ | ⟨_, _, _, x, _, x32, e⟩ | ⟨_, _, _, _, e⟩
  · rw [show (txt o).data.toList = _ from e]
    exact ⟨⟨_, _, rfl, by decide⟩, ⟨[109, 97, 107, 101, 32, c, 32], d, by simp, d32⟩, by simp⟩
  · rw [show (txt o).data.toList = _ from e]
    exact ⟨⟨_, _, rfl, by decide⟩, ⟨[102, 114, 101, 101, 32, c, 32], d, by simp, d32⟩, by simp⟩
  · rw [show (txt o).data.toList = _ from e]
    refine ⟨⟨_, _, rfl, by decide⟩, ⟨[119, 114, 105, 116, 101, 32, c, 32, d, 32] ++ o.2.2.2.2.data.toList.dropLast, o.2.2.2.2.data.toList.getLast t0, ?_, ts _ (List.getLast_mem t0)⟩, by simp; simp at tl; omega⟩
    rw [List.append_assoc, List.dropLast_concat_getLast]
    simp
  · rw [show (txt o).data.toList = _ from e]
    exact ⟨⟨_, _, rfl, by decide⟩, ⟨[99, 108, 111, 110, 101, 32, c, 32], x, by simp, x32⟩, by simp⟩
  · rw [show (txt o).data.toList = _ from e]
    exact ⟨⟨_, _, rfl, by decide⟩, ⟨[103, 111, 110, 101, 32], c, by simp, c32⟩, by simp⟩
theorem txt_ne {o : OpT} (h : okT o = true) : ¬ (txt o).toList = ([] : List UInt8) := by
  obtain ⟨⟨b, l, e, _⟩, _⟩ := ends h
  rw [ByteArray.toList_eq, e]
  simp
/-- What a reader answers: the change with this text, if there is one. -/
def Canon (s : ByteArray) (r : ResT) : Prop := (∃ o, okT o = true ∧ txt o = s ∧ r = resOf o true) ∨ (r = zf ∧ ∀ o, okT o = true → txt o ≠ s)
/-- The answer for a candidate. -/
def res (c : OpT) (s : ByteArray) : ResT := if s.toList = ([] : List UInt8) then zf else if (txt c).toList = s.toList then resOf c true else zf
theorem res_canon (s : ByteArray) (c : OpT) (hc : ∀ o, okT o = true → txt o = s → c = o) : Canon s (res c s) := by
  unfold res
  by_cases h0 : s.toList = ([] : List UInt8)
  · rw [if_pos h0]
    exact .inr ⟨rfl, fun o ho e => txt_ne ho (by rw [e]; exact h0)⟩
  · rw [if_neg h0]
    by_cases h1 : (txt c).toList = s.toList
    · rw [if_pos h1]
      exact .inl ⟨c, ok_of_text (show ¬ (txt c).toList = [] by rw [h1]; exact h0), toList_inj.1 h1, rfl⟩
    · rw [if_neg h1]
      exact .inr ⟨rfl, fun o ho e => h1 (by rw [hc o ho e, e])⟩
theorem canon_long {s : ByteArray} (h : 20 < s.size) : Canon s zf := .inr ⟨rfl, fun o ho e => by have := (ends ho).2.2; rw [e] at this; omega⟩
theorem canon_bool {s : ByteArray} {r : ResT} (h : Canon s r) (hr : r.2.2.2.2.2 = true) : okT (opOf r) = true ∧ txt (opOf r) = s := by
  rcases h with ⟨o, ho, e, rfl⟩ | ⟨rfl, _⟩
  · exact ⟨ho, e⟩
  · simp [zf] at hr
/-! ### the program's reader -/
def candI (s : ByteArray) : OpT :=
  if (W s 0).toList = ([109, 97, 107, 101] : List UInt8) then (1, W s 1, ⟨#[]⟩, (Lib.atoi (W s 2).data.toList).getD 0, ⟨#[]⟩)
  else if (W s 0).toList = ([119, 114, 105, 116, 101] : List UInt8) then (2, W s 1, ⟨#[]⟩, (Lib.atoi (W s 2).data.toList).getD 0, W s 3)
  else if (W s 0).toList = ([102, 114, 101, 101] : List UInt8) then (2, W s 1, ⟨#[]⟩, (Lib.atoi (W s 2).data.toList).getD 0, ⟨#[]⟩)
  else if (W s 0).toList = ([99, 108, 111, 110, 101] : List UInt8) then (3, W s 1, W s 2, 0, ⟨#[]⟩)
  else if (W s 0).toList = ([103, 111, 110, 101] : List UInt8) then (4, W s 1, ⟨#[]⟩, 0, ⟨#[]⟩)
  else (0, W s 1, ⟨#[]⟩, 0, ⟨#[]⟩)
theorem Wt (s : ByteArray) (j : Nat) : (W s j).toList = (pieces s.data.toList).getD j [] := by rw [ByteArray.toList_eq]; rfl
theorem candI_ok (o : OpT) (s : ByteArray) (h : okT o = true) (e : txt o = s) : candI s = o := by
  obtain ⟨k, nm, dst, n, t⟩ := o
  obtain ⟨n0, n9, c, d, hc, c32, hd, d32, f⟩ := shape h
  have hn := (dig_form n0 n9).2
  simp only at n0 n9 hc hd f hn
  rw [hd] at hn
  have e' : s.data.toList = (opText k nm dst n t).data.toList := by rw [← e]; rfl
  have nc := nosp_one c32
  have nd := nosp_one d32
  have ne : (⟨#[]⟩ : ByteArray).data.toList = [] := rfl
  have p1 : nosp [109, 97, 107, 101] := by unfold nosp; decide
  have p2 : nosp [102, 114, 101, 101] := by unfold nosp; decide
  have p3 : nosp [119, 114, 105, 116, 101] := by unfold nosp; decide
  have p4 : nosp [99, 108, 111, 110, 101] := by unfold nosp; decide
  have p5 : nosp [103, 111, 110, 101] := by unfold nosp; decide
  rcases f with ⟨rfl, rfl, rfl, x⟩ | ⟨rfl, rfl, rfl, x⟩ | ⟨rfl, rfl, t0, ts, _, x⟩ | ⟨rfl, rfl, rfl, y, hy, y32, x⟩ | ⟨rfl, rfl, rfl, rfl, x⟩
  · have P : pieces s.data.toList = [[109, 97, 107, 101], [c], [d]] := by rw [e', x, pieces_app p1, pieces_app nc, pieces_one nd]
    unfold candI
    rw [if_pos (by rw [Wt, P]; rfl), W_data, P]
    refine Prod.ext rfl (Prod.ext (data_inj ?_) (Prod.ext rfl (Prod.ext hn rfl)))
    rw [W_data, P, hc]; rfl
  · have P : pieces s.data.toList = [[102, 114, 101, 101], [c], [d]] := by rw [e', x, pieces_app p2, pieces_app nc, pieces_one nd]
    unfold candI
    rw [if_neg (by rw [Wt, P]; simp), if_neg (by rw [Wt, P]; simp), if_pos (by rw [Wt, P]; rfl), W_data, P]
    refine Prod.ext rfl (Prod.ext (data_inj ?_) (Prod.ext rfl (Prod.ext hn rfl)))
    rw [W_data, P, hc]; rfl
  · have P : pieces s.data.toList = [[119, 114, 105, 116, 101], [c], [d], t.data.toList] := by rw [e', x, pieces_app p3, pieces_app nc, pieces_app nd, pieces_one ts]
    unfold candI
    rw [if_neg (by rw [Wt, P]; simp), if_pos (by rw [Wt, P]; rfl), W_data, P]
    refine Prod.ext rfl (Prod.ext (data_inj ?_) (Prod.ext rfl (Prod.ext hn (data_inj ?_))))
    · rw [W_data, P, hc]; rfl
    · rw [W_data, P]; rfl
  · have P : pieces s.data.toList = [[99, 108, 111, 110, 101], [c], [y]] := by rw [e', x, pieces_app p4, pieces_app nc, pieces_one (nosp_one y32)]
    unfold candI
    rw [if_neg (by rw [Wt, P]; simp), if_neg (by rw [Wt, P]; simp), if_neg (by rw [Wt, P]; simp), if_pos (by rw [Wt, P]; rfl)]
    refine Prod.ext rfl (Prod.ext (data_inj ?_) (Prod.ext (data_inj ?_) rfl))
    · rw [W_data, P, hc]; rfl
    · rw [W_data, P, hy]; rfl
  · have P : pieces s.data.toList = [[103, 111, 110, 101], [c]] := by rw [e', x, pieces_app p5, pieces_one nc]
    unfold candI
    rw [if_neg (by rw [Wt, P]; simp), if_neg (by rw [Wt, P]; simp), if_neg (by rw [Wt, P]; simp), if_neg (by rw [Wt, P]; simp), if_pos (by rw [Wt, P]; rfl)]
    refine Prod.ext rfl (Prod.ext (data_inj ?_) rfl)
    rw [W_data, P, hc]; rfl
theorem impl_OpRead_tot (s : ByteArray) : Tot (fun k => impl_OpRead.f k s) (fun r => Canon s r) := by
  unfold impl_OpRead.f
  refine Tot.ite (fun h => Tot.now (canon_long (by omega))) (fun h => ?_)
  obtain ⟨ws, hw, hm⟩ := split_eq s (by omega)
  have hl : 0 < ws.length := by have := pieces_ne s.data.toList; rw [← hm, List.length_map] at this; exact this
  have hl2 : ws.length ≤ 22 := by
    have h2 := congrArg List.length hm
    rw [List.length_map] at h2
    have : ∀ (n : Nat) (l : List UInt8), l.length ≤ n → (pieces l).length ≤ l.length + 1 := by
      intro n
      induction n with
      | zero => intro l hl; obtain rfl := List.eq_nil_of_length_eq_zero (Nat.le_zero.1 hl); exact Nat.le_refl _
      | succ n ih =>
        intro l hl
        rcases parts l with h | ⟨l1, l2, h, rfl⟩
        · rw [pieces_one h]; simp
        · rw [pieces_app h]
          have := ih l2 (by simp at hl; omega)
          simp at this ⊢; omega
    have := this _ s.data.toList (Nat.le_refl _)
    rw [data_length] at this
    omega
  have at_ : ∀ j : Nat, j ≤ 3 → rdOf ByteArray.empty (ws ++ [(⟨#[]⟩ : ByteArray), (⟨#[]⟩ : ByteArray), (⟨#[]⟩ : ByteArray)]) (j : Int) = W s j := by
    intro j hj
    refine W_of ?_
    rw [← hm, ← word_at rfl]
    unfold rdOf
    rw [Int.toNat_natCast]
    congr 1
    simp only [List.getD_eq_getElem?_getD, List.getElem?_append]
    by_cases hlt : j < ws.length
    · rw [if_pos hlt]
    · rw [if_neg hlt, show ws[j]? = none from List.getElem?_eq_none (by omega)]
      rcases (show j - ws.length = 0 ∨ j - ws.length = 1 ∨ j - ws.length = 2 by omega) with e | e | e <;> rw [e] <;> rfl
  have a0 := at_ 0 (by omega)
  have a1 := at_ 1 (by omega)
  have a2 := at_ 2 (by omega)
  have a3 := at_ 3 (by omega)
  have hz : (ws ++ [(⟨#[]⟩ : ByteArray), (⟨#[]⟩ : ByteArray), (⟨#[]⟩ : ByteArray)]).length = ws.length + 3 := by simp
  have sz : ∀ j, (W s j).size ≤ 20 := fun j => by rcases W_size s j with h | h <;> omega
  have s2 : (W s 2).size ≤ 18 := by rcases W_size s 2 with h | h <;> omega
  have z0 : (⟨#[]⟩ : ByteArray).size = 0 := rfl
  have hA : strconv_Atoi_26.f (W s 2) = some ((Lib.atoi (W s 2).data.toList).getD 0, none) := by unfold strconv_Atoi_26.f; rw [if_pos s2]
  have C := res_canon s (candI s) (fun o ho e => candI_ok o s ho e)
  refine Tot.bindN hw (Tot.bindN rfl (Tot.pos (by simp; omega) (Tot.bindN rfl (Tot.pos (by rw [hz]; omega) (Tot.pos (by rw [hz]; omega) ?_)))))
  simp only [show rdOf ByteArray.empty (ws ++ [(⟨#[]⟩ : ByteArray), (⟨#[]⟩ : ByteArray), (⟨#[]⟩ : ByteArray)]) 0 = W s 0 from a0, show rdOf ByteArray.empty (ws ++ [(⟨#[]⟩ : ByteArray), (⟨#[]⟩ : ByteArray), (⟨#[]⟩ : ByteArray)]) 1 = W s 1 from a1, show rdOf ByteArray.empty (ws ++ [(⟨#[]⟩ : ByteArray), (⟨#[]⟩ : ByteArray), (⟨#[]⟩ : ByteArray)]) 2 = W s 2 from a2, show rdOf ByteArray.empty (ws ++ [(⟨#[]⟩ : ByteArray), (⟨#[]⟩ : ByteArray), (⟨#[]⟩ : ByteArray)]) 3 = W s 3 from a3]
  refine Tot.bindN hA (Tot.pos (by rw [hz]; omega) ?_)
  have fin : ∀ c : OpT, candI s = c → c.2.1.size ≤ 1048576 → c.2.2.1.size ≤ 1048576 → c.2.2.2.2.size ≤ 1048576 → Tot (fun k => if s.toList = ([] : List UInt8) then some (0, (⟨#[]⟩ : ByteArray), (⟨#[]⟩ : ByteArray), 0, (⟨#[]⟩ : ByteArray), false) else (impl_OpText.f k c.1 c.2.1 c.2.2.1 c.2.2.2.1 c.2.2.2.2).bind fun t => if t.toList = s.toList then some (c.1, c.2.1, c.2.2.1, c.2.2.2.1, c.2.2.2.2, true) else some (0, (⟨#[]⟩ : ByteArray), (⟨#[]⟩ : ByteArray), 0, (⟨#[]⟩ : ByteArray), false)) (fun r => Canon s r) := by
    intro c hc h1 h2 h3
    rw [hc] at C
    unfold res at C
    refine Tot.ite (fun he => Tot.now (by rw [if_pos he] at C; exact C)) (fun he => ?_)
    rw [if_neg he] at C
    refine Tot.bindE (impl_OpText_tot _ _ _ _ _ h1 h2 h3) (Tot.ite (fun ht => Tot.now ?_) (fun ht => Tot.now ?_))
    · rw [if_pos (show (txt c).toList = s.toList from ht)] at C; exact C
    · rw [if_neg (show ¬ (txt c).toList = s.toList from ht)] at C; exact C
  have s1 := sz 1
  have s3 := sz 3
  have s2' := sz 2
  refine Tot.ite (fun k1 => ?_) (fun k1 => Tot.ite (fun k2 => Tot.pos (by rw [hz]; omega) ?_) (fun k2 => Tot.ite (fun k3 => ?_) (fun k3 => Tot.ite (fun k4 => ?_) (fun k4 => Tot.ite (fun k5 => ?_) (fun k5 => ?_)))))
  · exact fin _ (by unfold candI; rw [if_pos k1]) (by show (W s 1).size ≤ _; omega) (by show (⟨#[]⟩ : ByteArray).size ≤ _; omega) (by show (⟨#[]⟩ : ByteArray).size ≤ _; omega)
  · exact fin _ (by unfold candI; rw [if_neg k1, if_pos k2]) (by show (W s 1).size ≤ _; omega) (by show (⟨#[]⟩ : ByteArray).size ≤ _; omega) (by show (W s 3).size ≤ _; omega)
  · exact fin _ (by unfold candI; rw [if_neg k1, if_neg k2, if_pos k3]) (by show (W s 1).size ≤ _; omega) (by show (⟨#[]⟩ : ByteArray).size ≤ _; omega) (by show (⟨#[]⟩ : ByteArray).size ≤ _; omega)
  · exact fin _ (by unfold candI; rw [if_neg k1, if_neg k2, if_neg k3, if_pos k4]) (by show (W s 1).size ≤ _; omega) (by show (W s 2).size ≤ _; omega) (by show (⟨#[]⟩ : ByteArray).size ≤ _; omega)
  · exact fin _ (by unfold candI; rw [if_neg k1, if_neg k2, if_neg k3, if_neg k4, if_pos k5]) (by show (W s 1).size ≤ _; omega) (by show (⟨#[]⟩ : ByteArray).size ≤ _; omega) (by show (⟨#[]⟩ : ByteArray).size ≤ _; omega)
  · exact fin _ (by unfold candI; rw [if_neg k1, if_neg k2, if_neg k3, if_neg k4, if_neg k5]) (by show (W s 1).size ≤ _; omega) (by show (⟨#[]⟩ : ByteArray).size ≤ _; omega) (by show (⟨#[]⟩ : ByteArray).size ≤ _; omega)
theorem canon_of {o : OpT} {r : ResT} (h : okT o = true) (c : Canon (txt o) r) : r = resOf o true := by
  rcases c with ⟨o', h', e, rfl⟩ | ⟨_, n⟩
  · rw [← candI_ok o' (txt o) h' e, candI_ok o (txt o) h rfl]
  · exact absurd rfl (n o h)
/-! ### the other reader -/
theorem data_drop (s : ByteArray) (i : Nat) (h : i < s.size) : ∃ b : UInt8, s.data.toList.drop i = b :: s.data.toList.drop (i + 1) ∧ bt s (i : Int) = (b.toNat : Int) := by
  have hl : i < s.data.toList.length := by rw [data_length]; exact h
  have e := drop_at s i h
  rw [show bytesOf s = s.data.toList.map (fun b => (b.toNat : Int)) from rfl, ← List.map_drop, List.drop_eq_getElem_cons hl] at e
  exact ⟨_, List.drop_eq_getElem_cons hl, (List.cons.inj e).1.symm⟩
theorem strOfNums_one (b : UInt8) : (strOfNums [(b.toNat : Int)]).data.toList = [b] := by
  unfold strOfNums
  simp
theorem strOfNums_size (b : UInt8) : (strOfNums [(b.toNat : Int)]).size = 1 := by
  rw [← data_length, strOfNums_one]; rfl
theorem l12Cut_l0 (s : ByteArray) (hs : s.size ≤ 1000000) (d : Nat) : ∀ (i : Nat) (o : List ByteArray) (c : ByteArray), i + d = s.size → o.length ≤ i → c.size ≤ i →
    Tot (fun k => spec_l12Cut.l0 k s 32 (o ++ [c]) (i : Int)) (fun r => r.map (·.data.toList) = o.map (·.data.toList) ++ cutR c.data.toList (s.data.toList.drop i)) := by
  induction d with
  | zero =>
    intro i o c hi ho hc
    refine Tot.shift ?_
    simp only [spec_l12Cut.l0]
    refine Tot.neg (by omega) (Tot.now ?_)
    rw [List.drop_of_length_le (by rw [data_length]; omega)]
    simp [cutR]
  | succ d ih =>
    intro i o c hi ho hc
    obtain ⟨b, hb, hv⟩ := data_drop s i (by omega)
    have el : ((o ++ [c]).length : Int) = (o.length : Int) + 1 := by simp
    have e : wrap64 (((o ++ [c]).length : Int) - 1) = (o.length : Int) := by rw [el, w64 (by omega) (by omega)]; omega
    have er : rdOf ByteArray.empty (o ++ [c]) (o.length : Int) = c := by simp [rdOf]
    refine Tot.shift ?_
    simp only [spec_l12Cut.l0]
    rw [w64 (x := (i : Int) + 1) (by omega) (by omega), hb, e, er, hv]
    refine Tot.pos (by omega) (Tot.pos (by omega) (Tot.ite (fun h => Tot.pos (by omega) ?_) (fun h => Tot.pos (by omega) (Tot.pos (by omega) (Tot.bindN rfl (Tot.pos (by rw [strOfNums_size]; omega) ?_))))))
    · have b32 : b = 32 := UInt8.toNat_inj.1 (by have : b.toNat = 32 := by exact_mod_cast h
                                                 rw [this]; rfl)
      subst b32
      rw [cutR, if_pos rfl]
      have hz : (⟨#[]⟩ : ByteArray).size = 0 := rfl
      refine (ih (i + 1) (o ++ [c]) ⟨#[]⟩ (by omega) (by simp; omega) (by omega)).mono fun r hr => ?_
      rw [hr]
      simp
    · have b32 : ¬ b = 32 := fun hb => h (by rw [hb]; rfl)
      rw [cutR, if_neg b32]
      have es : (o ++ [c]).set ((o.length : Int)).toNat (c ++ strOfNums [(b.toNat : Int)]) = o ++ [c ++ strOfNums [(b.toNat : Int)]] := by simp
      rw [es]
      refine (ih (i + 1) o (c ++ strOfNums [(b.toNat : Int)]) (by omega) (by omega) (by rw [ByteArray.size_append, strOfNums_size]; omega)).mono fun r hr => ?_
      rw [hr, ByteArray.data_append, Array.toList_append, strOfNums_one]
theorem l12Cut_tot (s : ByteArray) (hs : s.size ≤ 1000000) : Tot (fun k => spec_l12Cut.f k s 32) (fun r => r.map (·.data.toList) = pieces s.data.toList) := by
  unfold spec_l12Cut.f
  have hz : (⟨#[]⟩ : ByteArray).size = 0 := rfl
  refine (l12Cut_l0 s hs s.size 0 [] ⟨#[]⟩ (by omega) (by simp) (by omega)).mono fun r hr => ?_
  rw [hr, List.drop_zero]
  exact cutR_eq _ _ (Nat.le_refl _)
theorem word_eq {s : ByteArray} {ws : List ByteArray} (h : ws.map (·.data.toList) = pieces s.data.toList) (j : Nat) : spec_l12Word.f ws (j : Int) = some (W s j) := by
  unfold spec_l12Word.f
  have hw := word_at h j
  by_cases hj : (j : Int) < (ws.length : Int)
  · rw [if_pos hj, if_pos (by omega)]
    congr 1
    refine W_of ?_
    unfold rdOf
    rw [Int.toNat_natCast]
    exact hw
  · rw [if_neg hj]
    congr 1
    refine W_of ?_
    rw [← hw, List.getD_eq_getElem?_getD, List.getElem?_eq_none (by omega)]
    rfl
theorem l12Dec_l0 (x : ByteArray) (d : Nat) : ∀ (i : Nat) (v : Int), i + d = x.size → x.size ≤ 1000 → Tot (fun k => spec_l12Dec.l0 k x v (i : Int)) (fun _ => True) := by
  induction d with
  | zero =>
    intro i v hi hx
    refine Tot.shift ?_
    simp only [spec_l12Dec.l0]
    exact Tot.neg (by omega) (Tot.now trivial)
  | succ d ih =>
    intro i v hi hx
    refine Tot.shift ?_
    simp only [spec_l12Dec.l0]
    rw [w64 (x := (i : Int) + 1) (by omega) (by omega)]
    exact Tot.pos (by omega) (Tot.pos (by omega) (Tot.ite (fun _ => Tot.now trivial) (fun _ => Tot.ite (fun _ => Tot.now trivial) (fun _ => ih (i + 1) _ (by omega) hx))))
theorem dig_uniq {n m : Int} (n0 : 0 ≤ n) (n9 : n ≤ 9) (m0 : 0 ≤ m) (m9 : m ≤ 9) (h : dig n = dig m) : n = m := by
  obtain ⟨⟨d, hd, _, _, _, e⟩, _⟩ := dig_form n0 n9
  obtain ⟨⟨d', hd', _, _, _, e'⟩, _⟩ := dig_form m0 m9
  rw [h, hd'] at hd
  obtain rfl := (List.cons.inj hd).1
  omega
theorem l12Dec_tot (x : ByteArray) (hx : x.size ≤ 1000) : Tot (fun k => spec_l12Dec.f k x) (fun r => ∀ n, 0 ≤ n → n ≤ 9 → x = dig n → r = n) := by
  by_cases hd : ∃ n, 0 ≤ n ∧ n ≤ 9 ∧ x = dig n
  · obtain ⟨n, n0, n9, rfl⟩ := hd
    obtain ⟨⟨d, hd, _, l48, l57, ed⟩, _⟩ := dig_form n0 n9
    have hz : (dig n).size = 1 := by rw [← data_length, hd]; rfl
    obtain ⟨b, hb, hv⟩ := data_drop (dig n) 0 (by omega)
    rw [hd] at hb
    obtain rfl := (List.cons.inj hb).1
    unfold spec_l12Dec.f
    refine Tot.bindN (spec_l6In_eq _ _ _) (Tot.pos (by rw [hz]; rfl) (Tot.shift ?_))
    simp only [spec_l12Dec.l0]
    rw [show ((0 : Nat) : Int) = 0 from rfl] at hv
    rw [hv]
    refine Tot.pos (by omega) (Tot.pos (by omega) (Tot.neg (by omega) (Tot.neg (by omega) (Tot.shift ?_))))
    simp only [spec_l12Dec.l0]
    refine Tot.neg (by rw [hz, show wrap64 (0 + 1) = 1 from by unfold wrap64; omega]; omega) (Tot.now fun m m0 m9 hm => ?_)
    rw [← dig_uniq n0 n9 m0 m9 hm, w64 (x := 10 * 0) (by omega) (by omega), w64 (by omega) (by omega)]
    omega
  · have no : ∀ r : Int, ∀ n, 0 ≤ n → n ≤ 9 → x = dig n → r = n := fun r n n0 n9 e => absurd ⟨n, n0, n9, e⟩ hd
    unfold spec_l12Dec.f
    refine Tot.bindN (spec_l6In_eq _ _ _) (Tot.ite (fun _ => ?_) (fun _ => Tot.now (no _)))
    exact (l12Dec_l0 x x.size 0 0 (by omega) hx).mono fun r _ => no r
def candS (s : ByteArray) (nd : Int) : OpT :=
  if (W s 0).toList = ([109, 97, 107, 101] : List UInt8) then (1, W s 1, ⟨#[]⟩, nd, ⟨#[]⟩)
  else if (W s 0).toList = ([102, 114, 101, 101] : List UInt8) ∨ (W s 0).toList = ([119, 114, 105, 116, 101] : List UInt8) then (2, W s 1, ⟨#[]⟩, nd, W s 3)
  else if (W s 0).toList = ([99, 108, 111, 110, 101] : List UInt8) then (3, W s 1, W s 2, 0, ⟨#[]⟩)
  else if (W s 0).toList = ([103, 111, 110, 101] : List UInt8) then (4, W s 1, ⟨#[]⟩, 0, ⟨#[]⟩)
  else (0, W s 1, ⟨#[]⟩, 0, ⟨#[]⟩)
theorem candS_ok (o : OpT) (s : ByteArray) (nd : Int) (hnd : ∀ n, 0 ≤ n → n ≤ 9 → W s 2 = dig n → nd = n) (h : okT o = true) (e : txt o = s) : candS s nd = o := by
  obtain ⟨k, nm, dst, n, t⟩ := o
  obtain ⟨n0, n9, c, d, hc, c32, hd, d32, f⟩ := shape h
  simp only at n0 n9 hc hd f
  have e' : s.data.toList = (opText k nm dst n t).data.toList := by rw [← e]; rfl
  have nc := nosp_one c32
  have nd' := nosp_one d32
  have p1 : nosp [109, 97, 107, 101] := by unfold nosp; decide
  have p2 : nosp [102, 114, 101, 101] := by unfold nosp; decide
  have p3 : nosp [119, 114, 105, 116, 101] := by unfold nosp; decide
  have p4 : nosp [99, 108, 111, 110, 101] := by unfold nosp; decide
  have p5 : nosp [103, 111, 110, 101] := by unfold nosp; decide
  have two : ∀ P : List (List UInt8), pieces s.data.toList = P → P.getD 2 [] = [d] → nd = n := fun P hP h2 => hnd n n0 n9 (data_inj (by rw [W_data, hP, h2, hd]))
  rcases f with ⟨rfl, rfl, rfl, x⟩ | ⟨rfl, rfl, rfl, x⟩ | ⟨rfl, rfl, t0, ts, _, x⟩ | ⟨rfl, rfl, rfl, y, hy, y32, x⟩ | ⟨rfl, rfl, rfl, rfl, x⟩
  · have P : pieces s.data.toList = [[109, 97, 107, 101], [c], [d]] := by rw [e', x, pieces_app p1, pieces_app nc, pieces_one nd']
    unfold candS
    rw [if_pos (by rw [Wt, P]; rfl)]
    refine Prod.ext rfl (Prod.ext (data_inj ?_) (Prod.ext rfl (Prod.ext (two _ P rfl) rfl)))
    rw [W_data, P, hc]; rfl
  · have P : pieces s.data.toList = [[102, 114, 101, 101], [c], [d]] := by rw [e', x, pieces_app p2, pieces_app nc, pieces_one nd']
    unfold candS
    rw [if_neg (by rw [Wt, P]; simp), if_pos (.inl (by rw [Wt, P]; rfl))]
    refine Prod.ext rfl (Prod.ext (data_inj ?_) (Prod.ext rfl (Prod.ext (two _ P rfl) (data_inj ?_))))
    · rw [W_data, P, hc]; rfl
    · rw [W_data, P]; rfl
  · have P : pieces s.data.toList = [[119, 114, 105, 116, 101], [c], [d], t.data.toList] := by rw [e', x, pieces_app p3, pieces_app nc, pieces_app nd', pieces_one ts]
    unfold candS
    rw [if_neg (by rw [Wt, P]; simp), if_pos (.inr (by rw [Wt, P]; rfl))]
    refine Prod.ext rfl (Prod.ext (data_inj ?_) (Prod.ext rfl (Prod.ext (two _ P rfl) (data_inj ?_))))
    · rw [W_data, P, hc]; rfl
    · rw [W_data, P]; rfl
  · have P : pieces s.data.toList = [[99, 108, 111, 110, 101], [c], [y]] := by rw [e', x, pieces_app p4, pieces_app nc, pieces_one (nosp_one y32)]
    unfold candS
    rw [if_neg (by rw [Wt, P]; simp), if_neg (by rw [Wt, P]; simp), if_pos (by rw [Wt, P]; rfl)]
    refine Prod.ext rfl (Prod.ext (data_inj ?_) (Prod.ext (data_inj ?_) rfl))
    · rw [W_data, P, hc]; rfl
    · rw [W_data, P, hy]; rfl
  · have P : pieces s.data.toList = [[103, 111, 110, 101], [c]] := by rw [e', x, pieces_app p5, pieces_one nc]
    unfold candS
    rw [if_neg (by rw [Wt, P]; simp), if_neg (by rw [Wt, P]; simp), if_neg (by rw [Wt, P]; simp), if_pos (by rw [Wt, P]; rfl)]
    refine Prod.ext rfl (Prod.ext (data_inj ?_) rfl)
    rw [W_data, P, hc]; rfl
theorem finS {s : ByteArray} {c : OpT} (C : Canon s (res c s)) (h1 : c.2.1.size ≤ 1048576) (h2 : c.2.2.1.size ≤ 1048576) (h3 : c.2.2.2.2.size ≤ 1048576) : Tot (fun k => if s.toList = ([] : List UInt8) then some (0, (⟨#[]⟩ : ByteArray), (⟨#[]⟩ : ByteArray), 0, (⟨#[]⟩ : ByteArray), false) else (spec_OpText.f k c.1 c.2.1 c.2.2.1 c.2.2.2.1 c.2.2.2.2).bind fun t => if t.toList = s.toList then some (c.1, c.2.1, c.2.2.1, c.2.2.2.1, c.2.2.2.2, true) else some (0, (⟨#[]⟩ : ByteArray), (⟨#[]⟩ : ByteArray), 0, (⟨#[]⟩ : ByteArray), false)) (fun r => Canon s r) := by
  unfold res at C
  refine Tot.ite (fun he => Tot.now (by rw [if_pos he] at C; exact C)) (fun he => ?_)
  rw [if_neg he] at C
  refine Tot.bindE (spec_OpText_tot _ _ _ _ _ h1 h2 h3) (Tot.ite (fun ht => Tot.now ?_) (fun ht => Tot.now ?_))
  · rw [if_pos (show (txt c).toList = s.toList from ht)] at C; exact C
  · rw [if_neg (show ¬ (txt c).toList = s.toList from ht)] at C; exact C
set_option maxHeartbeats 2000000 in
theorem spec_j0 (s : ByteArray) (ws : List ByteArray) (hm : ws.map (·.data.toList) = pieces s.data.toList) (h20 : s.size ≤ 20) (k1 : ¬ (W s 0).toList = ([109, 97, 107, 101] : List UInt8)) (b : Bool) (hb : b = true ↔ ((W s 0).toList = ([102, 114, 101, 101] : List UInt8) ∨ (W s 0).toList = ([119, 114, 105, 116, 101] : List UInt8))) :
    Tot (fun k => spec_OpRead.j0 k s ws (W s 0) b 0 (W s 1) (⟨#[]⟩ : ByteArray) 0 (⟨#[]⟩ : ByteArray)) (fun r => Canon s r) := by
  have sz : ∀ j, (W s j).size ≤ 20 := fun j => by rcases W_size s j with h | h <;> omega
  have s1 := sz 1
  have s2 := sz 2
  have s3 := sz 3
  have z0 : (⟨#[]⟩ : ByteArray).size = 0 := rfl
  have C0 : ¬ b = true → Canon s (res (candS s 0) s) := fun hf => by
    refine res_canon s _ fun o ho e => ?_
    by_cases h2 : ∃ n, 0 ≤ n ∧ n ≤ 9 ∧ W s 2 = dig n
    · obtain ⟨n, n0, n9, hn⟩ := h2
      rw [← candS_ok o s n (fun m m0 m9 hm => dig_uniq n0 n9 m0 m9 (hn.symm.trans hm)) ho e]
      unfold candS
      rw [if_neg k1, if_neg (fun h => hf (hb.2 h)), if_neg k1, if_neg (fun h => hf (hb.2 h))]
    · exact candS_ok o s 0 (fun n n0 n9 hn => absurd ⟨n, n0, n9, hn⟩ h2) ho e
  refine Tot.shift ?_
  simp only [spec_OpRead.j0]
  refine Tot.ite (fun hbt => ?_) (fun hbf => ?_)
  · refine Tot.bindN (word_eq hm 2) (Tot.bind (l12Dec_tot _ (by omega)) fun nd hnd => Tot.bindN (word_eq hm 3) ?_)
    have C := res_canon s (candS s nd) (fun o ho e => candS_ok o s nd hnd ho e)
    rw [show candS s nd = (2, W s 1, ⟨#[]⟩, nd, W s 3) from by unfold candS; rw [if_neg k1, if_pos (hb.1 hbt)]] at C
    exact finS C (by show (W s 1).size ≤ _; omega) (by show (⟨#[]⟩ : ByteArray).size ≤ _; omega) (by show (W s 3).size ≤ _; omega)
  · have C := C0 hbf
    have nb := fun h => hbf (hb.2 h)
    refine Tot.ite (fun k4 => Tot.bindN (word_eq hm 2) ?_) (fun k4 => Tot.ite (fun k5 => ?_) (fun k5 => ?_))
    · rw [show candS s 0 = (3, W s 1, W s 2, 0, ⟨#[]⟩) from by unfold candS; rw [if_neg k1, if_neg nb, if_pos k4]] at C
      exact finS C (by show (W s 1).size ≤ _; omega) (by show (W s 2).size ≤ _; omega) (by show (⟨#[]⟩ : ByteArray).size ≤ _; omega)
    · rw [show candS s 0 = (4, W s 1, ⟨#[]⟩, 0, ⟨#[]⟩) from by unfold candS; rw [if_neg k1, if_neg nb, if_neg k4, if_pos k5]] at C
      exact finS C (by show (W s 1).size ≤ _; omega) (by show (⟨#[]⟩ : ByteArray).size ≤ _; omega) (by show (⟨#[]⟩ : ByteArray).size ≤ _; omega)
    · rw [show candS s 0 = (0, W s 1, ⟨#[]⟩, 0, ⟨#[]⟩) from by unfold candS; rw [if_neg k1, if_neg nb, if_neg k4, if_neg k5]] at C
      exact finS C (by show (W s 1).size ≤ _; omega) (by show (⟨#[]⟩ : ByteArray).size ≤ _; omega) (by show (⟨#[]⟩ : ByteArray).size ≤ _; omega)
theorem spec_OpRead_tot (s : ByteArray) : Tot (fun k => spec_OpRead.f k s) (fun r => Canon s r) := by
  unfold spec_OpRead.f
  refine Tot.ite (fun h => Tot.now (canon_long (by omega))) (fun h => Tot.bind (l12Cut_tot s (by omega)) fun ws hm => Tot.bindN (word_eq hm 1) ?_)
  have hl : 0 < ws.length := by have := pieces_ne s.data.toList; rw [← hm, List.length_map] at this; exact this
  have sz : ∀ j, (W s j).size ≤ 20 := fun j => by rcases W_size s j with h | h <;> omega
  have s1 := sz 1
  have s2 := sz 2
  have z0 : (⟨#[]⟩ : ByteArray).size = 0 := rfl
  have a0 : rdOf ByteArray.empty ws 0 = W s 0 := W_of (word_at hm 0)
  simp only [a0]
  refine Tot.pos (by omega) (Tot.ite (fun k1 => Tot.bindN (word_eq hm 2) (Tot.bind (l12Dec_tot _ (by omega)) fun nd hnd => ?_)) (fun k1 => Tot.ite (fun k2 => ?_) (fun k2 => ?_)))
  · have C := res_canon s (candS s nd) (fun o ho e => candS_ok o s nd hnd ho e)
    rw [show candS s nd = (1, W s 1, ⟨#[]⟩, nd, ⟨#[]⟩) from by unfold candS; rw [if_pos k1]] at C
    exact finS C (by show (W s 1).size ≤ _; omega) (by show (⟨#[]⟩ : ByteArray).size ≤ _; omega) (by show (⟨#[]⟩ : ByteArray).size ≤ _; omega)
  · exact spec_j0 s ws hm (by omega) k1 _ (by rw [k2]; simp)
  · exact spec_j0 s ws hm (by omega) k1 _ (by simp [k2])
theorem canon_unique {s : ByteArray} {r r' : ResT} (h : Canon s r) (h' : Canon s r') : r = r' := by
  rcases h with ⟨o, ho, rfl, rfl⟩ | ⟨rfl, n⟩
  · exact (canon_of ho h').symm
  · rcases h' with ⟨o', ho', e, rfl⟩ | ⟨rfl, _⟩
    · exact absurd e (n o' ho')
    · rfl
theorem text_small (k : Int) (nm dst : ByteArray) (n : Int) (t : ByteArray) : (opText k nm dst n t).size ≤ 20 := by
  cases h : opOk k nm dst n t with
  | true => exact (ends (o := (k, nm, dst, n, t)) h).2.2
  | false =>
    unfold opText
    rw [h, if_neg (by simp)]
    exact Nat.zero_le _
theorem ok_small {o : OpT} (h : okT o = true) : o.2.1.size ≤ 10 ∧ o.2.2.1.size ≤ 10 ∧ o.2.2.2.2.size ≤ 10 := by
  obtain ⟨n0, n9, c, d, hc, c32, hd, d32, f⟩ := shape h
  have z : (⟨#[]⟩ : ByteArray).size = 0 := rfl
  have h1 : o.2.1.size = 1 := by rw [← data_length, hc]; rfl
  rcases f with ⟨_, e1, e2, _⟩ | ⟨_, e1, e2, _⟩ | ⟨_, e1, _, _, tl, _⟩ | ⟨_, _, e2, x, e1, _, _⟩ | ⟨_, e1, _, e2, _⟩
  · rw [e1, e2, z]; omega
  · rw [e1, e2, z]; omega
  · rw [data_length] at tl; rw [e1, z]; omega
  · have h2 : o.2.2.1.size = 1 := by rw [← data_length, e1]; rfl
    rw [e2, z]; omega
  · rw [e1, e2, z]; omega
theorem drawR (l : List Int) (h8 : ∀ x ∈ l, (Lit.int .u8 x).wf = true) : Tot (fun k => spec_DrawOpRead.f k l) (fun s => s.size ≤ 1000) := by
  unfold spec_DrawOpRead.f
  refine Tot.bindO (l6Open_tot l h8) fun v ⟨R, hv⟩ => Tot.bind (op_tot R (by omega)) fun a ⟨h, h1, h2⟩ => Tot.bindE (spec_OpText_tot a.1 a.2.1 a.2.2.1 a.2.2.2.1 a.2.2.2.2.1 (by omega) (by omega) (by omega)) ?_
  have hz := text_small a.1 a.2.1 a.2.2.1 a.2.2.2.1 a.2.2.2.2.1
  generalize opText a.1 a.2.1 a.2.2.1 a.2.2.2.1 a.2.2.2.2.1 = s at hz
  refine Tot.bind (pick_tot (R.go h1 (by omega))) fun c ⟨hc, hr⟩ => Tot.bind (pick_tot (R.go (q := c.2) (by omega) (by omega))) fun e ⟨he, _⟩ => ?_
  rw [w64 (x := (s.size : Int) + 1) (by omega) (by omega)] at hr
  have hr := hr (by omega)
  have e1 := size_extract_le s 0 c.1.toNat
  have e2 := size_extract_le s c.1.toNat s.size
  refine Tot.ite (fun _ => Tot.pos (by omega) (Tot.pos (by omega) (Tot.now (by omega)))) (fun _ => Tot.ite (fun _ => Tot.pos (by omega) (Tot.pos (by omega) (Tot.bind (of_tot (R.go (q := e.2) (by omega) (by omega)) (by simp)) fun f ⟨hf, hm⟩ => ?_))) (fun _ => Tot.now (by omega)))
  have := mem_small 2 hm (by decide +kernel)
  refine Tot.pos (by omega) (Tot.pos (by rw [ByteArray.size_append]; omega) (Tot.now ?_))
  rw [ByteArray.size_append, ByteArray.size_append]; omega
theorem FnOpStrict (l0 : List Int) (h1 : l0.length ≤ maxLen) (h2 : l0.length * 1 ≤ 140737488351232) (h8 : ∀ x ∈ l0, (Lit.int .u8 x).wf = true) : ∃ k, laws_FnOpStrict.f k l0 = some true := by
  refine Tot.rounds ?_
  unfold laws_FnOpStrict.f
  refine Tot.ite (fun _ => Tot.now rfl) (fun _ => Tot.bind (drawR l0 h8) fun s hs => Tot.bind (spec_OpRead_tot s) fun r hr => Tot.bind (impl_OpRead_tot s) fun r' hr' => ?_)
  obtain rfl := canon_unique hr hr'
  refine Tot.neg (by simp) (Tot.neg (by simp) (Tot.shift ?_))
  simp only [laws_FnOpStrict.j0]
  refine Tot.ite (fun _ => Tot.pos (by simp) (Tot.now (by simp))) (fun hb => ?_)
  have hb' : r.2.2.2.2.2 = true := by simpa using hb
  obtain ⟨ok, e⟩ := canon_bool hr hb'
  obtain ⟨z1, z2, z3⟩ := ok_small ok
  have z1 : r.2.1.size ≤ 10 := z1
  have z2 : r.2.2.1.size ≤ 10 := z2
  have z3 : r.2.2.2.2.1.size ≤ 10 := z3
  refine Tot.bindE (impl_OpOk_tot _ _ _ _ _ (by omega)) (Tot.pos ok (Tot.bindE (impl_OpText_tot _ _ _ _ _ (by omega) (by omega) (by omega)) (Tot.now ?_)))
  rw [show opText r.1 r.2.1 r.2.2.1 r.2.2.2.1 r.2.2.2.2.1 = s from e]
  simp
end Go.Proofs.YtagfiehoodepbaaDoor.Pure
