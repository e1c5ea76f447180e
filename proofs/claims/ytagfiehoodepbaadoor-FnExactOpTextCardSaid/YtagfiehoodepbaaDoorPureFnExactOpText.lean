/- OpText of the program writes what OpText of the reference writes, for every change. -/
import Derived.Test.YtagfiehoodepbaaDoorQFnExactOpText4
import Derived.Test.YtagfiehoodepbaaDoorU2
set_option linter.unusedVariables false
set_option linter.unusedSimpArgs false
namespace Go.Proofs.YtagfiehoodepbaaDoor.Pure
open Go.RowKit Go.Proofs.YtagfiehoodepbaaDoor.PFnExactOpText Go.Proofs.YtagfiehoodepbaaDoorW.PrintWords Go.Proofs.YtagfiehoodepbaaDoorW.PrintLast Go.Proofs.YtagfiehoodepbaaDoorU
/-! ### pieces -/
theorem spec_l6In_eq (a b c : Int) : spec_l6In.f a b c = some (decide (b ≤ a) && decide (a ≤ c)) := by
  unfold spec_l6In.f
  by_cases h : a ≥ b
  · rw [if_pos h]; simp [show b ≤ a from h]
  · rw [if_neg h]; simp [show ¬ b ≤ a from h]
theorem impl_within_eq (a b c : Int) : impl_within.f a b c = some (decide (b ≤ a) && decide (a ≤ c)) := by
  unfold impl_within.f
  by_cases h : a ≥ b
  · rw [if_pos h]; simp [show b ≤ a from h]
  · rw [if_neg h]; simp [show ¬ b ≤ a from h]
theorem spec_TextOk_l0 (s : ByteArray) (hs : s.size ≤ 140737488355328) (d : Nat) : ∀ i : Nat, i + d = s.size → Tot (fun k => spec_TextOk.l0 k s (i : Int)) (fun r => r = (((bytesOf s).drop i).all okc && decide ((s.size : Int) ≤ 4))) := by
  induction d with
  | zero =>
    intro i hi
    refine Tot.shift ?_
    simp only [spec_TextOk.l0]
    refine Tot.neg (by omega) (Tot.now ?_)
    rw [List.drop_of_length_le (by rw [bytesOf_length]; omega)]
    simp
  | succ d ih =>
    intro i hi
    refine Tot.shift ?_
    simp only [spec_TextOk.l0]
    refine Tot.pos (by omega) (Tot.pos (by omega) (Tot.bindN (spec_l6In_eq _ _ _) ?_))
    rw [w64_bt, w64 (x := (i : Int) + 1) (by omega) (by omega), drop_at s i (by omega), List.all_cons]
    have e : okc (bt s i) = (decide (97 ≤ bt s i) && decide (bt s i ≤ 100)) := rfl
    refine Tot.ite (fun h => ?_) (fun h => Tot.now ?_)
    · rw [e, h, Bool.true_and]; exact ih (i + 1) (by omega)
    · rw [e, Bool.eq_false_iff.2 h]; simp
theorem spec_TextOk_tot (s : ByteArray) (hs : s.size ≤ 140737488355328) : Tot (fun k => spec_TextOk.f k s) (fun r => r = textOk s) := by
  unfold spec_TextOk.f
  exact spec_TextOk_l0 s hs s.size 0 (by omega)
theorem impl_TextOk_l0 (s : ByteArray) (hs : s.size ≤ 140737488355328) (d : Nat) : ∀ i : Nat, i + d = s.size → Tot (fun k => impl_TextOk.l0 k s (s.size : Int) (i : Int)) (fun r => r = (((bytesOf s).drop i).all okc && decide ((s.size : Int) ≤ 4))) := by
  induction d with
  | zero =>
    intro i hi
    refine Tot.shift ?_
    simp only [impl_TextOk.l0]
    refine Tot.neg (by omega) (Tot.now ?_)
    rw [List.drop_of_length_le (by rw [bytesOf_length]; omega)]
    simp
  | succ d ih =>
    intro i hi
    refine Tot.shift ?_
    simp only [impl_TextOk.l0]
    refine Tot.pos (by omega) (Tot.pos (by omega) (Tot.pos (by omega) (Tot.bindN (impl_within_eq _ _ _) ?_)))
    rw [w64_bt, w64 (x := (i : Int) + 1) (by omega) (by omega), drop_at s i (by omega), List.all_cons]
    have e : okc (bt s i) = (decide (97 ≤ bt s i) && decide (bt s i ≤ 100)) := rfl
    refine Tot.ite (fun h => ?_) (fun h => Tot.now ?_)
    · rw [e, h, Bool.true_and]; exact ih (i + 1) (by omega)
    · rw [e, Bool.eq_false_iff.2 h]; simp
theorem impl_TextOk_tot (s : ByteArray) (hs : s.size ≤ 140737488355328) : Tot (fun k => impl_TextOk.f k s) (fun r => r = textOk s) := by
  unfold impl_TextOk.f
  exact impl_TextOk_l0 s hs s.size 0 (by omega)
/-! ### names -/
theorem size_toList (s : ByteArray) : s.size = s.toList.length := by
  rw [ByteArray.toList_eq]; exact (data_length s).symm
theorem bt0_toList (s : ByteArray) (c : UInt8) (l : List UInt8) (h : s.toList = c :: l) : bt s 0 = (c.toNat : Int) := by
  rw [bt_rd, toList_bytes, h]
  rfl
theorem isName_toList (s : ByteArray) : isName s = (s.toList == [65] || s.toList == [66] || s.toList == [67] || s.toList == [68]) := by
  unfold isName
  cases h : s.toList with
  | nil => rw [size_toList, h]; simp
  | cons c l =>
    rw [bt0_toList s c l h, size_toList, h]
    cases l with
    | nil =>
      have hc := c.toNat_lt
      have e : ∀ n : Nat, n < 256 → ((c == UInt8.ofNat n) = decide ((c.toNat : Int) = n)) := fun n hn => by
        rw [Bool.eq_iff_iff]
        simp only [beq_iff_eq, decide_eq_true_eq]
        constructor
        · rintro rfl; simp; omega
        · intro h2
          have h3 : c.toNat = n := by exact_mod_cast h2
          rw [← h3]; simp
      have e65 := e 65 (by omega); have e66 := e 66 (by omega); have e67 := e 67 (by omega); have e68 := e 68 (by omega)
      simp only [List.cons_beq_cons, List.length_cons, List.length_nil]
      rw [show (65 : UInt8) = UInt8.ofNat 65 from rfl, show (66 : UInt8) = UInt8.ofNat 66 from rfl, show (67 : UInt8) = UInt8.ofNat 67 from rfl, show (68 : UInt8) = UInt8.ofNat 68 from rfl, e65, e66, e67, e68]
      rw [Bool.eq_iff_iff]
      simp
      omega
    | cons d l => simp; omega
theorem spec_l3Name_eq (s : ByteArray) : spec_l3Name.f s = some (isName s) := by
  unfold spec_l3Name.f isName
  by_cases h : (s.size : Int) = 1
  · rw [if_pos h, if_pos (by omega), spec_l6In_eq, w64_bt, Option.bind_some, decide_eq_true h, Bool.true_and]
  · rw [if_neg h, decide_eq_false h, Bool.false_and]
theorem impl_isName_eq (s : ByteArray) : impl_isName.f s = some (isName s) := by
  rw [isName_toList]
  unfold impl_isName.f
  by_cases h1 : s.toList = ([65] : List UInt8)
  · rw [if_pos h1]; simp [h1]
  by_cases h2 : s.toList = ([66] : List UInt8)
  · rw [if_neg h1, if_pos h2]; simp [h2]
  by_cases h3 : s.toList = ([67] : List UInt8)
  · rw [if_neg h1, if_neg h2, if_pos h3]; simp [h3]
  · rw [if_neg h1, if_neg h2, if_neg h3]; simp [h1, h2, h3]
/-! ### changes -/
theorem beq_dec (a : Int) : (a == 0) = decide (a = 0) := rfl
theorem toList_empty (s : ByteArray) : (s.toList == ([] : List UInt8)) = empty s := rfl
theorem spec_OpOk_tot (kind : Int) (nm dst : ByteArray) (n : Int) (t : ByteArray) (ht : t.size ≤ 140737488355328) : Tot (fun k => spec_OpOk.f k kind nm dst n t) (fun r => r = opOk kind nm dst n t) := by
  unfold spec_OpOk.f
  refine Tot.bindN (spec_l3Name_eq nm) (Tot.ite (fun hn => ?_) (fun hn => Tot.now (by simp [opOk, hn])))
  refine Tot.ite (fun h1 => ?_) (fun h1 => Tot.ite (fun h2 => ?_) (fun h2 => Tot.ite (fun h3 => ?_) (fun h3 => Tot.ite (fun h4 => ?_) (fun h4 => Tot.now (by simp [opOk, h1, h2, h3, h4])))))
  · subst h1
    refine Tot.ite (fun he => Tot.bindN (spec_l6In_eq _ _ _) (Tot.ite (fun h => Tot.now ?_) (fun h => Tot.now ?_))) (fun he => Tot.now ?_)
    · rw [toList_empty]; simp at h; simp [opOk, hn, h, empty, he]
    · simp only [opOk]; simp at h; simp [hn, empty, he]; omega
    · simp [opOk, empty, he]
  · subst h2
    refine Tot.ite (fun he => Tot.bindN (spec_l6In_eq _ _ _) (Tot.ite (fun h => Tot.bindE (spec_TextOk_tot t ht) (Tot.now ?_)) (fun h => Tot.now ?_))) (fun he => Tot.now ?_)
    · simp at h; simp [opOk, hn, empty, he, h]
    · simp at h; simp [opOk, hn, empty, he]; omega
    · simp [opOk, empty, he]
  · subst h3
    refine Tot.bindN (spec_l3Name_eq dst) (Tot.ite (fun hm => Tot.ite (fun h => Tot.now ?_) (fun h => Tot.now ?_)) (fun hm => Tot.now ?_))
    · rw [toList_empty]; simp [opOk, hn, hm, h]
    · simp [opOk, h]
    · simp [opOk, hm]
  · subst h4
    refine Tot.ite (fun he => Tot.ite (fun h => Tot.now ?_) (fun h => Tot.now ?_)) (fun he => Tot.now ?_)
    · rw [toList_empty]; simp [opOk, hn, empty, he, h]
    · simp [opOk, h]
    · simp [opOk, empty, he]
theorem impl_OpOk_tot (kind : Int) (nm dst : ByteArray) (n : Int) (t : ByteArray) (ht : t.size ≤ 140737488355328) : Tot (fun k => impl_OpOk.f k kind nm dst n t) (fun r => r = opOk kind nm dst n t) := by
  unfold impl_OpOk.f
  refine Tot.ite (fun h1 => ?_) (fun h1 => Tot.ite (fun h2 => ?_) (fun h2 => Tot.ite (fun h3 => ?_) (fun h3 => Tot.ite (fun h4 => ?_) (fun h4 => Tot.now (by simp [opOk, h1, h2, h3, h4])))))
  · subst h1
    refine Tot.bindN (impl_within_eq _ _ _) (Tot.ite (fun h => Tot.bindN (impl_isName_eq nm) (Tot.ite (fun hn => Tot.now ?_) (fun hn => Tot.now ?_))) (fun h => Tot.now ?_))
    · rw [toList_empty, toList_empty]; simp at h; simp [opOk, hn, h]
    · simp [opOk, hn]
    · simp at h; simp [opOk]; omega
  · subst h2
    refine Tot.bindN (impl_within_eq _ _ _) (Tot.ite (fun h => Tot.bindE (impl_TextOk_tot t ht) (Tot.ite (fun hk => Tot.bindN (impl_isName_eq nm) (Tot.ite (fun hn => Tot.now ?_) (fun hn => Tot.now ?_))) (fun hk => Tot.now ?_))) (fun h => Tot.now ?_))
    · rw [toList_empty]; simp at h; simp [opOk, hn, h, hk]
    · simp [opOk, hn]
    · simp [opOk, hk]
    · simp at h; simp [opOk]; omega
  · subst h3
    refine Tot.bindN (impl_isName_eq dst) (Tot.ite (fun hm => Tot.bindN (impl_isName_eq nm) (Tot.ite (fun hn => Tot.now ?_) (fun hn => Tot.now ?_))) (fun hm => Tot.now ?_))
    · rw [toList_empty, beq_dec]; simp [opOk, hn, hm]
    · simp [opOk, hn]
    · simp [opOk, hm]
  · subst h4
    refine Tot.bindN (impl_isName_eq nm) (Tot.ite (fun hn => Tot.now ?_) (fun hn => Tot.now ?_))
    · rw [toList_empty, toList_empty, beq_dec]; simp [opOk, hn, Bool.and_assoc]
    · simp [opOk, hn]
/-! ### a change that came in -/
theorem szOp_eq (kind : Int) (nm dst : ByteArray) (n : Int) (t : ByteArray) (h1 : nm.size ≤ maxLen) (h2 : dst.size ≤ maxLen) (h3 : t.size ≤ maxLen) (x : Int) (hx : 0 ≤ x) (hx1 : x ≤ 1048576) : ∃ r, laws_szOp.f kind nm dst n t x = some r ∧ (r < 0 ∨ nm.size ≤ 1048576 ∧ dst.size ≤ 1048576 ∧ t.size ≤ 1048576) := by
  unfold maxLen at h1 h2 h3
  unfold laws_szOp.f
  rw [w64 (x := x - nm.size) (by omega) (by omega)]
  by_cases c1 : x - (nm.size : Int) < 0
  · rw [if_pos c1]; exact ⟨-1, rfl, Or.inl (by omega)⟩
  rw [if_neg c1, w64 (x := x - nm.size - dst.size) (by omega) (by omega)]
  by_cases c2 : x - (nm.size : Int) - (dst.size : Int) < 0
  · rw [if_pos c2]; exact ⟨-1, rfl, Or.inl (by omega)⟩
  rw [if_neg c2, w64 (x := x - nm.size - dst.size - t.size) (by omega) (by omega)]
  by_cases c3 : x - (nm.size : Int) - (dst.size : Int) - (t.size : Int) < 0
  · rw [if_pos c3]; exact ⟨-1, rfl, Or.inl (by omega)⟩
  rw [if_neg c3]; exact ⟨_, rfl, Or.inr ⟨by omega, by omega, by omega⟩⟩
/-! ### the text of a change -/
def dig (n : Int) : ByteArray := ⟨(Lib.decDigits n.toNat).toArray⟩
theorem dig_eq : ∀ i : Fin 10, strOfNums [(wrap64 (48 + (i.val : Int))) % 256] = dig (i.val : Int) ∧ (dig (i.val : Int)).size = 1 := by decide +kernel
theorem dig_spec {n : Int} (h0 : 0 ≤ n) (h1 : n ≤ 9) : strOfNums [(wrap64 (48 + n)) % 256] = dig n ∧ (dig n).size = 1 := by
  have := dig_eq ⟨n.toNat, by omega⟩
  rw [show (((⟨n.toNat, by omega⟩ : Fin 10).val : Nat) : Int) = n from by show ((n.toNat : Nat) : Int) = n; omega] at this
  exact this
theorem l6Dec_tot {n : Int} (h0 : 0 ≤ n) (h1 : n ≤ 9) : Tot (fun k => spec_l6Dec.f k n) (fun r => r = dig n) := by
  refine Tot.shift ?_
  simp only [spec_l6Dec.f]
  exact Tot.neg (by omega) (Tot.neg (by omega) (Tot.pos (by omega) (Tot.now (dig_spec h0 h1).1)))
theorem itoa_eq {n : Int} (h0 : 0 ≤ n) (h1 : n ≤ 9) : strconv_Itoa_22.f n = some (dig n) := by
  unfold strconv_Itoa_22.f
  rw [if_pos (by omega)]
  rfl
def opText (kind : Int) (nm dst : ByteArray) (n : Int) (t : ByteArray) : ByteArray :=
  if opOk kind nm dst n t = true then
    (if kind = 1 then (((⟨#[109, 97, 107, 101, 32]⟩ : ByteArray) ++ nm) ++ (⟨#[32]⟩ : ByteArray)) ++ dig n
     else if kind = 3 then (((⟨#[99, 108, 111, 110, 101, 32]⟩ : ByteArray) ++ nm) ++ (⟨#[32]⟩ : ByteArray)) ++ dst
     else if kind = 4 then (⟨#[103, 111, 110, 101, 32]⟩ : ByteArray) ++ nm
     else if t.toList = ([] : List UInt8) then (((⟨#[102, 114, 101, 101, 32]⟩ : ByteArray) ++ nm) ++ (⟨#[32]⟩ : ByteArray)) ++ dig n
     else (((((⟨#[119, 114, 105, 116, 101, 32]⟩ : ByteArray) ++ nm) ++ (⟨#[32]⟩ : ByteArray)) ++ dig n) ++ (⟨#[32]⟩ : ByteArray)) ++ t)
  else ⟨#[]⟩
theorem opOk_n {kind : Int} {nm dst : ByteArray} {n : Int} {t : ByteArray} (h : opOk kind nm dst n t = true) : 0 ≤ n ∧ n ≤ 9 ∧ (kind = 1 ∨ kind = 2 ∨ kind = 3 ∨ kind = 4) := by
  by_cases h1 : kind = 1
  · subst h1; simp [opOk] at h; omega
  by_cases h2 : kind = 2
  · subst h2; simp [opOk] at h; omega
  by_cases h3 : kind = 3
  · subst h3; simp [opOk] at h; omega
  by_cases h4 : kind = 4
  · subst h4; simp [opOk] at h; omega
  · simp [opOk, h1, h2, h3, h4] at h
theorem impl_OpText_tot (kind : Int) (nm dst : ByteArray) (n : Int) (t : ByteArray) (hn : nm.size ≤ 1048576) (hd : dst.size ≤ 1048576) (ht : t.size ≤ 1048576) : Tot (fun k => impl_OpText.f k kind nm dst n t) (fun r => r = opText kind nm dst n t) := by
  unfold impl_OpText.f opText
  refine Tot.bindE (impl_OpOk_tot kind nm dst n t (by omega)) (Tot.ite (fun h => ?_) (fun h => Tot.now (by rw [if_neg h])))
  rw [if_pos h]
  obtain ⟨n0, n9, _⟩ := opOk_n h
  have dz := (dig_spec n0 n9).2
  have z1 : (⟨#[32]⟩ : ByteArray).size = 1 := rfl
  have z5 : (⟨#[109, 97, 107, 101, 32]⟩ : ByteArray).size = 5 := rfl
  have z6 : (⟨#[99, 108, 111, 110, 101, 32]⟩ : ByteArray).size = 6 := rfl
  have z7 : (⟨#[102, 114, 101, 101, 32]⟩ : ByteArray).size = 5 := rfl
  have z8 : (⟨#[119, 114, 105, 116, 101, 32]⟩ : ByteArray).size = 6 := rfl
  refine Tot.bindN (itoa_eq n0 n9) (Tot.ite (fun h1 => ?_) (fun h1 => Tot.ite (fun h3 => ?_) (fun h3 => Tot.ite (fun h4 => ?_) (fun h4 => Tot.ite (fun he => ?_) (fun he => ?_)))))
  · rw [if_pos h1]
    exact Tot.pos (by omega) (Tot.pos (by simp only [ByteArray.size_append]; omega) (Tot.pos (by simp only [ByteArray.size_append]; omega) (Tot.now rfl)))
  · rw [if_neg h1, if_pos h3]
    exact Tot.pos (by omega) (Tot.pos (by simp only [ByteArray.size_append]; omega) (Tot.pos (by simp only [ByteArray.size_append]; omega) (Tot.now rfl)))
  · rw [if_neg h1, if_neg h3, if_pos h4]
    exact Tot.pos (by omega) (Tot.now rfl)
  · rw [if_neg h1, if_neg h3, if_neg h4, if_pos he]
    exact Tot.pos (by omega) (Tot.pos (by simp only [ByteArray.size_append]; omega) (Tot.pos (by simp only [ByteArray.size_append]; omega) (Tot.now rfl)))
  · rw [if_neg h1, if_neg h3, if_neg h4, if_neg he]
    exact Tot.pos (by omega) (Tot.pos (by simp only [ByteArray.size_append]; omega) (Tot.pos (by simp only [ByteArray.size_append]; omega) (Tot.pos (by simp only [ByteArray.size_append]; omega) (Tot.pos (by simp only [ByteArray.size_append]; omega) (Tot.now rfl)))))
theorem spec_OpText_tot (kind : Int) (nm dst : ByteArray) (n : Int) (t : ByteArray) (hn : nm.size ≤ 1048576) (hd : dst.size ≤ 1048576) (ht : t.size ≤ 1048576) : Tot (fun k => spec_OpText.f k kind nm dst n t) (fun r => r = opText kind nm dst n t) := by
  unfold spec_OpText.f opText
  refine Tot.bindE (spec_OpOk_tot kind nm dst n t (by omega)) (Tot.ite (fun h => ?_) (fun h => Tot.now (by rw [if_neg h])))
  rw [if_pos h]
  obtain ⟨n0, n9, hk⟩ := opOk_n h
  have dz := (dig_spec n0 n9).2
  have z1 : (⟨#[32]⟩ : ByteArray).size = 1 := rfl
  have z5 : (⟨#[109, 97, 107, 101, 32]⟩ : ByteArray).size = 5 := rfl
  have z6 : (⟨#[99, 108, 111, 110, 101, 32]⟩ : ByteArray).size = 6 := rfl
  have z7 : (⟨#[102, 114, 101, 101, 32]⟩ : ByteArray).size = 5 := rfl
  have z8 : (⟨#[119, 114, 105, 116, 101, 32]⟩ : ByteArray).size = 6 := rfl
  refine Tot.ite (fun h1 => ?_) (fun h1 => Tot.ite (fun h2 => Tot.ite (fun he => ?_) (fun he => ?_)) (fun h2 => Tot.ite (fun h3 => ?_) (fun h3 => ?_)))
  · rw [if_pos h1]
    exact Tot.pos (by omega) (Tot.pos (by simp only [ByteArray.size_append]; omega) (Tot.bindE (l6Dec_tot n0 n9) (Tot.pos (by simp only [ByteArray.size_append]; omega) (Tot.now rfl))))
  · rw [if_neg h1, if_neg (show ¬ kind = 3 by omega), if_neg (show ¬ kind = 4 by omega), if_pos he]
    exact Tot.pos (by omega) (Tot.pos (by simp only [ByteArray.size_append]; omega) (Tot.bindE (l6Dec_tot n0 n9) (Tot.pos (by simp only [ByteArray.size_append]; omega) (Tot.now rfl))))
  · rw [if_neg h1, if_neg (show ¬ kind = 3 by omega), if_neg (show ¬ kind = 4 by omega), if_neg he]
    exact Tot.pos (by omega) (Tot.pos (by simp only [ByteArray.size_append]; omega) (Tot.bindE (l6Dec_tot n0 n9) (Tot.pos (by simp only [ByteArray.size_append]; omega) (Tot.pos (by simp only [ByteArray.size_append]; omega) (Tot.pos (by simp only [ByteArray.size_append]; omega) (Tot.now rfl))))))
  · rw [if_neg h1, if_pos h3]
    exact Tot.pos (by omega) (Tot.pos (by simp only [ByteArray.size_append]; omega) (Tot.pos (by simp only [ByteArray.size_append]; omega) (Tot.now rfl)))
  · rw [if_neg h1, if_neg h3, if_pos (show kind = 4 by omega)]
    exact Tot.pos (by omega) (Tot.now rfl)
theorem FnExactOpText (kind : Int) (nm dst : ByteArray) (n : Int) (t : ByteArray) (hg : (Lit.int .i64 kind).wf = true ∧ nm.size ≤ maxLen ∧ dst.size ≤ maxLen ∧ (Lit.int .i64 n).wf = true ∧ t.size ≤ maxLen) : ∃ k, laws_FnExactOpText.f k kind nm dst n t = some true := by
  refine Tot.rounds ?_
  unfold laws_FnExactOpText.f
  refine Tot.bindO (szOp_eq kind nm dst n t hg.2.1 hg.2.2.1 hg.2.2.2.2 1048576 (by omega) (by omega)) fun r hr => Tot.ite (fun _ => Tot.now rfl) (fun h0 => ?_)
  obtain ⟨hn, hd, ht⟩ := hr.resolve_left h0
  refine Tot.bindN (v := (kind, nm, dst, n, t)) rfl (Tot.bindE (spec_OpText_tot kind nm dst n t hn hd ht) (Tot.bindN (v := (kind, nm, dst, n, t)) rfl (Tot.bindE (impl_OpText_tot kind nm dst n t hn hd ht) ?_)))
  exact Tot.pos rfl (Tot.now rfl)
end Go.Proofs.YtagfiehoodepbaaDoor.Pure
