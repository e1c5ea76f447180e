/- A drawn disk that is right and has room uses one place once more when that place is put behind its blocks, and no other. Conditions: none but that the codes' bytes are bytes. -/
import Derived.Test.YtooamacekmjpaaaQFnVolCount14
import Derived.Test.YtooamacekmjpaaaU2
set_option linter.unusedVariables false
set_option linter.unusedSimpArgs false
namespace Go.Proofs.Ytooamacekmjpaaa.Pure
open Go.RowKit Go.Proofs.Ytooamacekmjpaaa.PFnVolCount Go.Proofs.YtooamacekmjpaaaW.PrintWords Go.Proofs.YtooamacekmjpaaaW.PrintLast Go.Proofs.YtooamacekmjpaaaU
/-! ### pieces -/
theorem spec_l6In_eq (a b c : Int) : spec_l6In.f a b c = some (decide (b ≤ a) && decide (a ≤ c)) := by
  unfold spec_l6In.f
  by_cases h : a ≥ b
  · rw [if_pos h]; simp [show b ≤ a from h]
  · rw [if_neg h]; simp [show ¬ b ≤ a from h]
theorem impl_within_eq (a b c : Int) : impl_within.f a b c = some (decide (b ≤ a) && decide (a ≤ c)) := by
  unfold impl_within.f
  by_cases h : a ≥ b
  · rw [if_pos h]; simp [show b ≤ a from h]
  · rw [if_neg h]; simp [show ¬ b ≤ a from h]
theorem spec_TextOk_l0 (s : ByteArray) (hs : s.size ≤ 140737488355328) (d : Nat) : ∀ i : Nat, i + d = s.size → Tot (fun k => spec_TextOk.l0 k s (i : Int)) (fun r => r = (((bytesOf s).drop i).all okc && decide ((s.size : Int) ≤ 4))) := by
  induction d with
  | zero =>
    intro i hi
    refine Tot.shift ?_
    simp only [spec_TextOk.l0]
    refine Tot.neg (by omega) (Tot.now ?_)
    rw [List.drop_of_length_le (by rw [bytesOf_length]; omega)]
    simp
  | succ d ih =>
    intro i hi
    refine Tot.shift ?_
    simp only [spec_TextOk.l0]
    refine Tot.pos (by omega) (Tot.pos (by omega) (Tot.bindN (spec_l6In_eq _ _ _) ?_))
    rw [w64_bt, w64 (x := (i : Int) + 1) (by omega) (by omega), drop_at s i (by omega), List.all_cons]
    have e : okc (bt s i) = (decide (97 ≤ bt s i) && decide (bt s i ≤ 100)) := rfl
    refine Tot.ite (fun h => ?_) (fun h => Tot.now ?_)
    · rw [e, h, Bool.true_and]; exact ih (i + 1) (by omega)
    · rw [e, Bool.eq_false_iff.2 h]; simp
theorem spec_TextOk_tot (s : ByteArray) (hs : s.size ≤ 140737488355328) : Tot (fun k => spec_TextOk.f k s) (fun r => r = textOk s) := by
  unfold spec_TextOk.f
  exact spec_TextOk_l0 s hs s.size 0 (by omega)
/-! ### slots -/
abbrev Sl := S55
theorem sl_ext {a b : Sl} (h : a.f0 = b.f0) (h' : a.f1 = b.f1) : a = b := by
  cases a; cases b; simp_all
/-- The slot at a place. -/
def at_ (s : List Sl) (i : Nat) : Sl := s.getD i z55
theorem rd_at (s : List Sl) (i : Nat) : rd_T55 s (i : Int) = at_ s i := rfl
theorem rd_at' (s : List Sl) (i : Int) : rd_T55 s i = at_ s i.toNat := rfl
theorem at_mem {s : List Sl} {i : Nat} (h : i < s.length) : at_ s i ∈ s := by
  unfold at_
  rw [List.getD_eq_getElem?_getD, List.getElem?_eq_getElem h]
  exact List.getElem_mem h
theorem at_get {s : List Sl} {i : Nat} (h : i < s.length) : at_ s i = s[i] := by
  unfold at_
  rw [List.getD_eq_getElem?_getD, List.getElem?_eq_getElem h]
  rfl
theorem at_set {s : List Sl} {i j : Nat} {x : Sl} (h : i < s.length) : at_ (s.set i x) j = if i = j then x else at_ s j := by
  unfold at_
  rw [List.getD_eq_getElem?_getD, List.getD_eq_getElem?_getD, List.getElem?_set]
  by_cases e : i = j
  · rw [if_pos e, if_pos e]; subst e; simp [h]
  · rw [if_neg e, if_neg e]
theorem list_ext {a b : List Sl} (hl : a.length = b.length) (h : ∀ i, i < a.length → at_ a i = at_ b i) : a = b := by
  refine List.ext_getElem hl fun i h1 h2 => ?_
  rw [← at_get h1, ← at_get h2]
  exact h i h1
/-- Small texts, few slots. -/
def Small (s : List Sl) : Prop := s.length ≤ 1048576 ∧ ∀ x ∈ s, x.f0.size ≤ 1048576
theorem Small.at {s : List Sl} (h : Small s) {i : Nat} (hi : i < s.length) : (at_ s i).f0.size ≤ 1048576 := h.2 _ (at_mem hi)
theorem empty_iff (s : ByteArray) : empty s = true ↔ s.size = 0 := by
  unfold empty
  rw [ByteArray.toList_eq, ← data_length]
  constructor
  · intro h; rw [beq_iff_eq.1 h]; rfl
  · intro h; rw [List.eq_nil_of_length_eq_zero h]; rfl
theorem beq_text (a b : ByteArray) : (a.toList == b.toList) = decide (a = b) := by
  by_cases h : a = b
  · subst h; simp
  · rw [decide_eq_false h]
    exact beq_eq_false_iff_ne.2 fun e => h (toList_inj.1 e)
/-! ### a store that is valid -/
/-- Slot i is as it must be beside the slots ahead of it. -/
def slotOk (s : List Sl) (i : Nat) : Bool :=
  textOk (at_ s i).f0 && (decide (0 ≤ (at_ s i).f1) && decide ((at_ s i).f1 ≤ 99)) && (empty (at_ s i).f0 == ((at_ s i).f1 == 0)) && (empty (at_ s i).f0 || !((s.take i).any fun o => o.f0.toList == (at_ s i).f0.toList))
def storeFrom (s : List Sl) : Nat → Nat → Bool
  | 0, _ => ((s.length : Int) == 8)
  | d + 1, i => slotOk s i && storeFrom s d (i + 1)
def storeOk (s : List Sl) : Bool := storeFrom s s.length 0
theorem take_any (s : List Sl) (i : Nat) (h : i < s.length) (p : Sl → Bool) : (s.take (i + 1)).any p = ((s.take i).any p || p (at_ s i)) := by
  rw [List.take_succ_eq_append_getElem h, List.any_append, at_get h]
  simp
theorem storeFrom_all (s : List Sl) : ∀ d i, i + d = s.length → storeFrom s d i = true → s.length = 8 ∧ ∀ j, i ≤ j → j < s.length → slotOk s j = true := by
  intro d
  induction d with
  | zero =>
    intro i hi h
    simp only [storeFrom, beq_iff_eq] at h
    exact ⟨by omega, fun j h1 h2 => by omega⟩
  | succ d ih =>
    intro i hi h
    simp only [storeFrom, Bool.and_eq_true] at h
    obtain ⟨h8, hr⟩ := ih (i + 1) (by omega) h.2
    refine ⟨h8, fun j h1 h2 => ?_⟩
    by_cases e : i = j
    · subst e; exact h.1
    · exact hr j (by omega) h2
theorem storeFrom_of (s : List Sl) (h8 : s.length = 8) : ∀ d i, i + d = s.length → (∀ j, i ≤ j → j < s.length → slotOk s j = true) → storeFrom s d i = true := by
  intro d
  induction d with
  | zero => intro i hi h; simp only [storeFrom, h8]; rfl
  | succ d ih =>
    intro i hi h
    simp only [storeFrom, Bool.and_eq_true]
    exact ⟨h i (Nat.le_refl _) (by omega), ih (i + 1) (by omega) fun j h1 h2 => h j (by omega) h2⟩
/-- What a valid store is, slot by slot. -/
structure Valid (s : List Sl) : Prop where
  len : s.length = 8
  text : ∀ i, i < 8 → textOk (at_ s i).f0 = true
  uses : ∀ i, i < 8 → 0 ≤ (at_ s i).f1 ∧ (at_ s i).f1 ≤ 99
  free : ∀ i, i < 8 → (empty (at_ s i).f0 = true ↔ (at_ s i).f1 = 0)
  once : ∀ i j, i < 8 → j < 8 → i ≠ j → empty (at_ s i).f0 = false → (at_ s i).f0 ≠ (at_ s j).f0
theorem valid_of {s : List Sl} (h : storeOk s = true) : Valid s := by
  obtain ⟨h8, ha⟩ := storeFrom_all s s.length 0 (by omega) h
  have each : ∀ i, i < 8 → slotOk s i = true := fun i hi => ha i (Nat.zero_le _) (by omega)
  have parts : ∀ i, i < 8 → textOk (at_ s i).f0 = true ∧ (0 ≤ (at_ s i).f1 ∧ (at_ s i).f1 ≤ 99) ∧ (empty (at_ s i).f0 == ((at_ s i).f1 == 0)) = true ∧ (empty (at_ s i).f0 = true ∨ ((s.take i).any fun o => o.f0.toList == (at_ s i).f0.toList) = false) := by
    intro i hi
    have := each i hi
    unfold slotOk at this
    rw [Bool.and_eq_true, Bool.and_eq_true, Bool.and_eq_true, Bool.and_eq_true, Bool.or_eq_true, Bool.not_eq_true', decide_eq_true_eq, decide_eq_true_eq] at this
    exact ⟨this.1.1.1, this.1.1.2, this.1.2, this.2⟩
  have lt : ∀ i j, i < 8 → j < i → empty (at_ s i).f0 = false → (at_ s i).f0 ≠ (at_ s j).f0 := by
    intro i j hi hj he hEq
    rcases (parts i hi).2.2.2 with h | h
    · rw [h] at he; cases he
    · have := List.any_eq_false.1 h (at_ s j) (by
        have hl : j < (s.take i).length := by rw [List.length_take]; omega
        have e : (s.take i)[j] = at_ s j := by rw [List.getElem_take, at_get (by omega)]
        rw [← e]; exact List.getElem_mem hl)
      apply this
      simp [hEq]
  refine ⟨h8, fun i hi => (parts i hi).1, fun i hi => (parts i hi).2.1, fun i hi => ?_, fun i j hi hj hne he hEq => ?_⟩
  · have := beq_iff_eq.1 (parts i hi).2.2.1
    rw [this]; simp
  · rcases Nat.lt_or_gt_of_ne hne with h | h
    · have he2 : empty (at_ s j).f0 = false := by rw [← hEq]; exact he
      exact lt j i hj h he2 hEq.symm
    · exact lt i j hi h he hEq
theorem of_valid {s : List Sl} (v : Valid s) : storeOk s = true := by
  refine storeFrom_of s v.len s.length 0 (by omega) fun i _ hi => ?_
  rw [v.len] at hi
  unfold slotOk
  have hu := v.uses i hi
  have hf : (empty (at_ s i).f0 == ((at_ s i).f1 == 0)) = true := by
    rw [beq_iff_eq, Bool.eq_iff_iff, v.free i hi]; simp
  rw [v.text i hi, decide_eq_true hu.1, decide_eq_true hu.2, hf]
  simp only [Bool.true_and, Bool.and_true]
  cases he : empty (at_ s i).f0 with
  | true => rfl
  | false =>
    rw [Bool.false_or, Bool.not_eq_true', List.any_eq_false]
    intro o ho
    obtain ⟨j, hj, e⟩ := List.getElem_of_mem ho
    rw [List.length_take] at hj
    rw [List.getElem_take] at e
    have hj8 : j < 8 := by omega
    have hne := v.once i j hi hj8 (by omega) he
    rw [at_get (i := j) (by omega), e] at hne
    rw [beq_text]
    simpa using fun h => hne h.symm
theorem valid_small {s : List Sl} (v : Valid s) : Small s := by
  refine ⟨by rw [v.len]; omega, fun x hx => ?_⟩
  obtain ⟨i, hi, rfl⟩ := List.getElem_of_mem hx
  rw [v.len] at hi
  rw [← at_get]
  have := textOk_size (v.text i hi)
  omega
/-! ### names -/
theorem size_toList (s : ByteArray) : s.size = s.toList.length := by
  rw [ByteArray.toList_eq]; exact (data_length s).symm
theorem bt0_toList (s : ByteArray) (c : UInt8) (l : List UInt8) (h : s.toList = c :: l) : bt s 0 = (c.toNat : Int) := by
  rw [bt_rd, toList_bytes, h]
  rfl
theorem isName_toList (s : ByteArray) : isName s = (s.toList == [65] || s.toList == [66] || s.toList == [67] || s.toList == [68]) := by
  unfold isName
  cases h : s.toList with
  | nil => rw [size_toList, h]; simp
  | cons c l =>
    rw [bt0_toList s c l h, size_toList, h]
    cases l with
    | nil =>
      have hc := c.toNat_lt
      have e : ∀ n : Nat, n < 256 → ((c == UInt8.ofNat n) = decide ((c.toNat : Int) = n)) := fun n hn => by
        rw [Bool.eq_iff_iff]
        simp only [beq_iff_eq, decide_eq_true_eq]
        constructor
        · rintro rfl; simp; omega
        · intro h2
          have h3 : c.toNat = n := by exact_mod_cast h2
          rw [← h3]; simp
      have e65 := e 65 (by omega); have e66 := e 66 (by omega); have e67 := e 67 (by omega); have e68 := e 68 (by omega)
      simp only [List.cons_beq_cons, List.length_cons, List.length_nil]
      rw [show (65 : UInt8) = UInt8.ofNat 65 from rfl, show (66 : UInt8) = UInt8.ofNat 66 from rfl, show (67 : UInt8) = UInt8.ofNat 67 from rfl, show (68 : UInt8) = UInt8.ofNat 68 from rfl, e65, e66, e67, e68]
      rw [Bool.eq_iff_iff]
      simp
      omega
    | cons d l => simp; omega
theorem spec_l3Name_eq (s : ByteArray) : spec_l3Name.f s = some (isName s) := by
  unfold spec_l3Name.f isName
  by_cases h : (s.size : Int) = 1
  · rw [if_pos h, if_pos (by omega), spec_l6In_eq, w64_bt, Option.bind_some, decide_eq_true h, Bool.true_and]
  · rw [if_neg h, decide_eq_false h, Bool.false_and]
theorem impl_isName_eq (s : ByteArray) : impl_isName.f s = some (isName s) := by
  rw [isName_toList]
  unfold impl_isName.f
  by_cases h1 : s.toList = ([65] : List UInt8)
  · rw [if_pos h1]; simp [h1]
  by_cases h2 : s.toList = ([66] : List UInt8)
  · rw [if_neg h1, if_pos h2]; simp [h2]
  by_cases h3 : s.toList = ([67] : List UInt8)
  · rw [if_neg h1, if_neg h2, if_pos h3]; simp [h3]
  · rw [if_neg h1, if_neg h2, if_neg h3]; simp [h1, h2, h3]
/-! ### slices of numbers -/
def atI (s : List Int) (i : Nat) : Int := s.getD i 0
theorem rdI_at (s : List Int) (i : Nat) : rd s (i : Int) = atI s i := rfl
theorem atI_get {s : List Int} {i : Nat} (h : i < s.length) : atI s i = s[i] := by
  unfold atI
  rw [List.getD_eq_getElem?_getD, List.getElem?_eq_getElem h]
  rfl
theorem atI_set {s : List Int} {i j : Nat} {x : Int} (h : i < s.length) : atI (s.set i x) j = if i = j then x else atI s j := by
  unfold atI
  rw [List.getD_eq_getElem?_getD, List.getD_eq_getElem?_getD, List.getElem?_set]
  by_cases e : i = j
  · rw [if_pos e, if_pos e]; subst e; simp [h]
  · rw [if_neg e, if_neg e]
theorem listI_ext {a b : List Int} (hl : a.length = b.length) (h : ∀ i, i < a.length → atI a i = atI b i) : a = b := by
  refine List.ext_getElem hl fun i h1 h2 => ?_
  rw [← atI_get h1, ← atI_get h2]
  exact h i h1
theorem dropI (s : List Int) (i : Nat) (h : i < s.length) : s.drop i = atI s i :: s.drop (i + 1) := by
  rw [List.drop_eq_getElem_cons h, atI_get h]
/-! ### disks -/
def blk (p : Int) : Bool := decide (0 ≤ p) && decide (p ≤ 8)
def volOk (nm : ByteArray) (b : List Int) : Bool := b.all blk && (isName nm && (decide (1 ≤ (b.length : Int)) && decide ((b.length : Int) ≤ 6)))
def cnt (b : List Int) (p : Int) : Int := ((b.countP fun x => x == p : Nat) : Int)
theorem spec_VolOk_ (nm : ByteArray) (b : List Int) (hb : b.length ≤ 1048576) (d : Nat) : ∀ i : Nat, i + d = b.length → Tot (fun k => spec_VolOk.l0 k (i : Int) nm b) (fun r => r = ((b.drop i).all blk && (isName nm && (decide (1 ≤ (b.length : Int)) && decide ((b.length : Int) ≤ 6))))) := by
  induction d with
  | zero =>
    intro i hi
    refine Tot.shift ?_
    simp only [spec_VolOk.l0]
    rw [List.drop_of_length_le (by omega)]
    refine Tot.neg (by omega) (Tot.bindN (spec_l3Name_eq nm) (Tot.ite (fun h => Tot.bindN (spec_l6In_eq _ _ _) (Tot.now ?_)) (fun h => Tot.now ?_)))
    · rw [h]; rfl
    · rw [Bool.eq_false_iff.2 h]; rfl
  | succ d ih =>
    intro i hi
    refine Tot.shift ?_
    simp only [spec_VolOk.l0, rdI_at]
    rw [w64 (x := (i : Int) + 1) (by omega) (by omega), dropI b i (by omega), List.all_cons]
    refine Tot.pos (by omega) (Tot.pos (by omega) (Tot.bindN (spec_l6In_eq _ _ _) (Tot.ite (fun h => (ih (i + 1) (by omega)).mono fun r hr => ?_) (fun h => Tot.now ?_))))
    · rw [hr, show blk (atI b i) = true from h, Bool.true_and]
    · rw [show blk (atI b i) = false from Bool.eq_false_iff.2 h]; rfl
theorem spec_VolOk_tot (nm : ByteArray) (b : List Int) (hb : b.length ≤ 1048576) : Tot (fun k => spec_VolOk.f k nm b) (fun r => r = volOk nm b) := by
  unfold spec_VolOk.f
  exact spec_VolOk_ nm b hb b.length 0 (by omega)
theorem impl_VolOk_ (nm : ByteArray) (b : List Int) (hb : b.length ≤ 1048576) (d : Nat) : ∀ i : Nat, i + d = b.length → Tot (fun k => impl_VolOk.l0 k b (b.length : Int) (i : Int) nm b) (fun r => r = ((b.drop i).all blk && (isName nm && (decide (1 ≤ (b.length : Int)) && decide ((b.length : Int) ≤ 6))))) := by
  induction d with
  | zero =>
    intro i hi
    refine Tot.shift ?_
    simp only [impl_VolOk.l0]
    rw [List.drop_of_length_le (by omega)]
    refine Tot.neg (by omega) (Tot.bindN (impl_isName_eq nm) (Tot.ite (fun h => Tot.bindN (impl_within_eq _ _ _) (Tot.now ?_)) (fun h => Tot.now ?_)))
    · rw [h]; rfl
    · rw [Bool.eq_false_iff.2 h]; rfl
  | succ d ih =>
    intro i hi
    refine Tot.shift ?_
    simp only [impl_VolOk.l0, rdI_at]
    rw [w64 (x := (i : Int) + 1) (by omega) (by omega), dropI b i (by omega), List.all_cons]
    refine Tot.pos (by omega) (Tot.pos (by omega) (Tot.pos (by omega) (Tot.bindN (impl_within_eq _ _ _) (Tot.ite (fun h => (ih (i + 1) (by omega)).mono fun r hr => ?_) (fun h => Tot.now ?_)))))
    · rw [hr, show blk (atI b i) = true from h, Bool.true_and]
    · rw [show blk (atI b i) = false from Bool.eq_false_iff.2 h]; rfl
theorem impl_VolOk_tot (nm : ByteArray) (b : List Int) (hb : b.length ≤ 1048576) : Tot (fun k => impl_VolOk.f k nm b) (fun r => r = volOk nm b) := by
  unfold impl_VolOk.f
  exact impl_VolOk_ nm b hb b.length 0 (by omega)
theorem cnt_drop (b : List Int) (p : Int) (i : Nat) (h : i < b.length) : cnt (b.drop i) p = (if atI b i = p then 1 else 0) + cnt (b.drop (i + 1)) p := by
  unfold cnt
  rw [dropI b i h, List.countP_cons]
  by_cases e : atI b i = p
  · rw [if_pos (by simp [e]), if_pos e]; omega
  · rw [if_neg (by simp [e]), if_neg e]; omega
theorem cnt_le (b : List Int) (p : Int) : 0 ≤ cnt b p ∧ cnt b p ≤ b.length := by
  unfold cnt
  have := List.countP_le_length (p := fun x => x == p) (l := b)
  omega
theorem spec_l3Uses_ (nm : ByteArray) (b : List Int) (p : Int) (hb : b.length ≤ 1048576) (d : Nat) : ∀ (i : Nat) (n : Int), i + d = b.length → 0 ≤ n → n ≤ i → Tot (fun k => spec_l3Uses.l0 k p n (i : Int) nm b) (fun r => r = n + cnt (b.drop i) p) := by
  induction d with
  | zero =>
    intro i n hi h0 h1
    refine Tot.shift ?_
    simp only [spec_l3Uses.l0]
    rw [List.drop_of_length_le (by omega)]
    exact Tot.neg (by omega) (Tot.now (by simp [cnt]))
  | succ d ih =>
    intro i n hi h0 h1
    refine Tot.shift ?_
    simp only [spec_l3Uses.l0, rdI_at]
    rw [w64 (x := (i : Int) + 1) (by omega) (by omega), w64 (x := n + 1) (by omega) (by omega), cnt_drop b p i (by omega)]
    refine Tot.pos (by omega) (Tot.pos (by omega) (Tot.ite (fun h => (ih (i + 1) _ (by omega) (by omega) (by omega)).mono fun r hr => ?_) (fun h => (ih (i + 1) _ (by omega) (by omega) (by omega)).mono fun r hr => ?_)))
    · rw [hr, if_pos h]; omega
    · rw [hr, if_neg h]; omega
theorem spec_l3Uses_tot (nm : ByteArray) (b : List Int) (p : Int) (hb : b.length ≤ 1048576) : Tot (fun k => spec_l3Uses.f k nm b p) (fun r => r = cnt b p) := by
  unfold spec_l3Uses.f
  refine (spec_l3Uses_ nm b p hb b.length 0 0 (by omega) (by omega) (by omega)).mono fun r hr => ?_
  rw [hr]; simp
theorem impl_uses_ (b : List Int) (p : Int) (hb : b.length ≤ 1048576) (d : Nat) : ∀ (i : Nat) (n : Int), i + d = b.length → 0 ≤ n → n ≤ i → Tot (fun k => impl_Vol_uses.l0 k p n b (b.length : Int) (i : Int)) (fun r => r = n + cnt (b.drop i) p) := by
  induction d with
  | zero =>
    intro i n hi h0 h1
    refine Tot.shift ?_
    simp only [impl_Vol_uses.l0]
    rw [List.drop_of_length_le (by omega)]
    exact Tot.neg (by omega) (Tot.now (by simp [cnt]))
  | succ d ih =>
    intro i n hi h0 h1
    refine Tot.shift ?_
    simp only [impl_Vol_uses.l0, rdI_at]
    rw [w64 (x := (i : Int) + 1) (by omega) (by omega), w64 (x := n + 1) (by omega) (by omega), cnt_drop b p i (by omega)]
    refine Tot.pos (by omega) (Tot.pos (by omega) (Tot.pos (by omega) (Tot.ite (fun h => (ih (i + 1) _ (by omega) (by omega) (by omega)).mono fun r hr => ?_) (fun h => (ih (i + 1) _ (by omega) (by omega) (by omega)).mono fun r hr => ?_))))
    · rw [hr, if_pos h]; omega
    · rw [hr, if_neg h]; omega
theorem impl_uses_tot (nm : ByteArray) (b : List Int) (p : Int) (hb : b.length ≤ 1048576) : Tot (fun k => impl_Vol_uses.f k nm b p) (fun r => r = cnt b p) := by
  unfold impl_Vol_uses.f
  refine (impl_uses_ b p hb b.length 0 0 (by omega) (by omega) (by omega)).mono fun r hr => ?_
  rw [hr]; simp
def volUses (nm : ByteArray) (b : List Int) (p : Int) : Int := if volOk nm b = true then (if (decide (1 ≤ p) && decide (p ≤ 8)) = true then cnt b p else 0) else 0
theorem impl_VolUses_tot (nm : ByteArray) (b : List Int) (p : Int) (hb : b.length ≤ 1048576) : Tot (fun k => impl_VolUses.f k nm b p) (fun r => r = volUses nm b p) := by
  unfold impl_VolUses.f volUses
  refine Tot.bindE (impl_VolOk_tot nm b hb) (Tot.ite (fun h => ?_) (fun h => Tot.now (by rw [if_neg h])))
  rw [if_pos h]
  unfold impl_isSlot.f
  rw [impl_within_eq, Option.bind_some]
  refine Tot.bindN rfl (Tot.ite (fun h2 => ?_) (fun h2 => Tot.now (by rw [if_neg h2])))
  rw [if_pos h2]
  exact Tot.bindE (impl_uses_tot nm b p hb) (Tot.now rfl)
theorem spec_VolUses_tot (nm : ByteArray) (b : List Int) (p : Int) (hb : b.length ≤ 1048576) : Tot (fun k => spec_VolUses.f k nm b p) (fun r => r = volUses nm b p) := by
  unfold spec_VolUses.f volUses
  refine Tot.bindE (spec_VolOk_tot nm b hb) (Tot.ite (fun h => ?_) (fun h => Tot.now (by rw [if_neg h])))
  rw [if_pos h]
  refine Tot.bindN (spec_l6In_eq _ _ _) (Tot.ite (fun h2 => ?_) (fun h2 => Tot.now (by rw [if_neg h2])))
  rw [if_pos h2]
  exact Tot.bindE (spec_l3Uses_tot nm b p hb) (Tot.now rfl)
/-! ### pools -/
abbrev Vo := S38
def atV (m : List Vo) (i : Nat) : Vo := m.getD i z38
theorem rdV_at (m : List Vo) (i : Nat) : rd_T38 m (i : Int) = atV m i := rfl
theorem rdV_at' (m : List Vo) (i : Int) : rd_T38 m i = atV m i.toNat := rfl
theorem atV_get {m : List Vo} {i : Nat} (h : i < m.length) : atV m i = m[i] := by
  unfold atV
  rw [List.getD_eq_getElem?_getD, List.getElem?_eq_getElem h]
  rfl
theorem atV_mem {m : List Vo} {i : Nat} (h : i < m.length) : atV m i ∈ m := by rw [atV_get h]; exact List.getElem_mem h
def SmallV (m : List Vo) : Prop := m.length ≤ 1048576 ∧ ∀ v ∈ m, v.f0.size ≤ 1048576 ∧ v.f1.length ≤ 1048576
theorem SmallV.at {m : List Vo} (h : SmallV m) {i : Nat} (hi : i < m.length) : (atV m i).f0.size ≤ 1048576 ∧ (atV m i).f1.length ≤ 1048576 := h.2 _ (atV_mem hi)
instance : Inhabited Vo := ⟨z38⟩
instance : Inhabited Sl := ⟨z55⟩
/-! ### where a disk is -/
def vat (m : List Vo) (a : ByteArray) : Int := Lib.idxBy (fun _ (y : Vo) => y.f0.toList == a.toList) m default
theorem getElemV_at (m : List Vo) (j : Nat) (h : j < m.length) : m[j]! = atV m j := by
  rw [atV_get h]; simp [h]
theorem vat_hit {m : List Vo} {a : ByteArray} {j : Nat} (hj : j < m.length) (h : (atV m j).f0 = a) (hne : ∀ i, i < j → (atV m i).f0 ≠ a) : vat m a = j := by
  unfold vat
  have := Lib.idxBy_hit (fun _ (y : Vo) => y.f0.toList == a.toList) m m.length j default hj (Nat.le_refl _) (by show ((m[j]!).f0.toList == a.toList) = true; rw [getElemV_at m j hj, h]; simp) (fun i hi => by
    show ((m[i]!).f0.toList == a.toList) = false
    rw [getElemV_at m i (by omega), beq_text, decide_eq_false (hne i hi)])
  rw [List.take_length] at this
  exact this
theorem vat_miss {m : List Vo} {a : ByteArray} (h : ∀ i, i < m.length → (atV m i).f0 ≠ a) : vat m a = -1 := by
  unfold vat
  have := Lib.idxBy_miss (fun _ (y : Vo) => y.f0.toList == a.toList) m m.length default (fun i hi => by
    show ((m[i]!).f0.toList == a.toList) = false
    rw [getElemV_at m i hi, beq_text, decide_eq_false (h i hi)])
  rw [List.take_length] at this
  exact this
theorem vat_range (m : List Vo) (a : ByteArray) : vat m a = -1 ∨ 0 ≤ vat m a ∧ vat m a < m.length := by
  by_cases h : ∃ j, j < m.length ∧ (atV m j).f0 = a
  · obtain ⟨j, hj, hm⟩ := least h
    rw [vat_hit hj.1 hj.2 fun i hi e => hm i hi ⟨by omega, e⟩]
    omega
  · exact Or.inl (vat_miss fun i hi e => h ⟨i, hi, e⟩)
theorem spec_l11At_tot (s : List Sl) {m : List Vo} (hm : m.length ≤ 1048576) (a : ByteArray) : Tot (fun k => spec_l11At.f k s m a) (fun r => r = vat m a) := by
  have loop : ∀ (d i : Nat), i + d = m.length → (∀ j, j < i → (atV m j).f0 ≠ a) → Tot (fun k => spec_l11At.l0 k a (i : Int) s m) (fun r => r = vat m a) := by
    intro d
    induction d with
    | zero =>
      intro i hi hn
      refine Tot.shift ?_
      simp only [spec_l11At.l0]
      exact Tot.neg (by omega) (Tot.now (vat_miss fun j hj => hn j (by omega)).symm)
    | succ d ih =>
      intro i hi hn
      refine Tot.shift ?_
      simp only [spec_l11At.l0, rdV_at]
      rw [w64 (x := (i : Int) + 1) (by omega) (by omega)]
      refine Tot.pos (by omega) (Tot.pos (by omega) (Tot.ite (fun h => Tot.now (vat_hit (by omega) (toList_inj.1 h) hn).symm) (fun h => ih (i + 1) (by omega) fun j hj e => ?_)))
      by_cases e2 : j = i
      · subst e2; exact h (toList_inj.2 e)
      · exact hn j (by omega) e
  unfold spec_l11At.f
  exact loop m.length 0 (by omega) fun j hj => by omega
/-! ### where a piece is -/
/-- The place of a piece, 0 if it is nowhere. -/
def spos (s : List Sl) (t : ByteArray) : Int := Lib.idxBy (fun _ (y : Sl) => y.f0.toList == t.toList) s default + 1
theorem getElem_at (s : List Sl) (j : Nat) (h : j < s.length) : s[j]! = at_ s j := by
  rw [at_get h]; simp [h]
theorem spos_hit {s : List Sl} {t : ByteArray} {j : Nat} (hj : j < s.length) (h : (at_ s j).f0 = t) (hne : ∀ i, i < j → (at_ s i).f0 ≠ t) : spos s t = (j : Int) + 1 := by
  unfold spos
  have := Lib.idxBy_hit (fun _ (y : Sl) => y.f0.toList == t.toList) s s.length j default hj (Nat.le_refl _) (by show ((s[j]!).f0.toList == t.toList) = true; rw [getElem_at s j hj, h]; simp) (fun i hi => by
    show ((s[i]!).f0.toList == t.toList) = false
    rw [getElem_at s i (by omega), beq_text, decide_eq_false (hne i hi)])
  rw [List.take_length] at this
  rw [this]
theorem spos_miss {s : List Sl} {t : ByteArray} (h : ∀ i, i < s.length → (at_ s i).f0 ≠ t) : spos s t = 0 := by
  unfold spos
  have := Lib.idxBy_miss (fun _ (y : Sl) => y.f0.toList == t.toList) s s.length default (fun i hi => by
    show ((s[i]!).f0.toList == t.toList) = false
    rw [getElem_at s i hi, beq_text, decide_eq_false (h i hi)])
  rw [List.take_length] at this
  rw [this]; rfl
theorem valid_spos {s : List Sl} (v : Valid s) {t : ByteArray} (ht : empty t = false) {j : Nat} (hj : j < 8) (h : (at_ s j).f0 = t) : spos s t = (j : Int) + 1 :=
  spos_hit (by rw [v.len]; exact hj) h fun i hi e => v.once j i hj (by omega) (by omega) (by rw [h]; exact ht) (by rw [h, e])
theorem place_step (s : ByteArray) (i : Nat) (h : i < s.size) (hok : textOk s = true) (x : Int) (hx : 0 ≤ x) (hx2 : x ≤ 100 * i) :
    wrap64 (x + wrap64 (wrap64 ((i : Int) + 1) * ((bt s (i : Int) - 97) % 256 + 1))) = x + ((i : Int) + 1) * (bt s (i : Int) - 96) ∧ 0 ≤ ((i : Int) + 1) * (bt s (i : Int) - 96) ∧ ((i : Int) + 1) * (bt s (i : Int) - 96) ≤ 100 := by
  unfold textOk at hok
  rw [Bool.and_eq_true] at hok
  obtain ⟨h1, h2⟩ := hok
  have h3 := of_decide_eq_true h2
  have h4 : bt s (i : Int) ∈ bytesOf s := by
    have := drop_at s i h
    exact List.mem_of_mem_drop (i := i) (by rw [this]; exact List.mem_cons_self)
  have h5 := List.all_eq_true.1 h1 _ h4
  unfold okc at h5
  rw [Bool.and_eq_true] at h5
  have h6 := of_decide_eq_true h5.1
  have h7 := of_decide_eq_true h5.2
  have h8 : (bt s (i : Int) - 97) % 256 + 1 = bt s (i : Int) - 96 := by omega
  rw [h8, w64 (x := (i : Int) + 1) (by omega) (by omega)]
  generalize bt s (i : Int) = c at *
  have hi : i = 0 ∨ i = 1 ∨ i = 2 ∨ i = 3 := by omega
  have hy : 0 ≤ ((i : Int) + 1) * (c - 96) ∧ ((i : Int) + 1) * (c - 96) ≤ 100 := by
    rcases hi with rfl | rfl | rfl | rfl <;> constructor <;> omega
  generalize ((i : Int) + 1) * (c - 96) = y at *
  rw [w64 (x := y) (by omega) (by omega), w64 (by omega) (by omega)]
  exact ⟨rfl, hy⟩
theorem spec_l1Place_l0 (s : ByteArray) (hok : textOk s = true) (hs : s.size ≤ 4) (d : Nat) : ∀ (i : Nat) (x : Int), i + d = s.size → 0 ≤ x → x ≤ 100 * i → Tot (fun k => spec_l1Place.l0 k s x (i : Int)) (fun r => r = (x + psum ((bytesOf s).drop i) (i : Int)) % 8 + 1) := by
  induction d with
  | zero =>
    intro i x hi h0 h1
    refine Tot.shift ?_
    simp only [spec_l1Place.l0]
    refine Tot.neg (by omega) (Tot.now ?_)
    rw [List.drop_of_length_le (by rw [bytesOf_length]; omega), Int.tmod_eq_emod_of_nonneg h0, w64 (by omega) (by omega)]
    simp [psum]
  | succ d ih =>
    intro i x hi h0 h1
    obtain ⟨e1, e2, e3⟩ := place_step s i (by omega) hok x h0 h1
    refine Tot.shift ?_
    simp only [spec_l1Place.l0]
    refine Tot.pos (by omega) (Tot.pos (by omega) ?_)
    rw [e1, w64 (x := (i : Int) + 1) (by omega) (by omega), drop_at s i (by omega)]
    refine (ih (i + 1) _ (by omega) (by omega) (by omega)).mono fun r h => ?_
    rw [h]
    simp only [psum, Int.natCast_add, Int.natCast_one]
    rw [Int.add_assoc]
/-- The reference's round: from place a on, d places. -/
def walk (s : List Sl) (t : ByteArray) : Nat → Int → Int → Int × Bool
  | 0, _, free => (free, false)
  | d + 1, a, free => if (at_ s (a - 1).toNat).f0 = t then (a, true) else walk s t d (a % 8 + 1) (if (at_ s (a - 1).toNat).f1 = 0 ∧ free = 0 then a else free)
/-- The first free place from a on. -/
def ff (s : List Sl) : Nat → Int → Int
  | 0, _ => 0
  | d + 1, a => if (at_ s (a - 1).toNat).f1 = 0 then a else ff s d (a % 8 + 1)
theorem walk_hit {s : List Sl} (v : Valid s) {t : ByteArray} (ht : empty t = false) {j : Nat} (hj : j < 8) (h : (at_ s j).f0 = t) : ∀ (d : Nat) (a free : Int), 1 ≤ a → a ≤ 8 → (∃ m : Nat, m < d ∧ (a - 1 + m) % 8 = j) → walk s t d a free = ((j : Int) + 1, true) := by
  intro d
  induction d with
  | zero => intro a free h1 h8 ⟨m, hm, _⟩; omega
  | succ d ih =>
    intro a free h1 h8 ⟨m, hm, he⟩
    simp only [walk]
    by_cases e : (at_ s (a - 1).toNat).f0 = t
    · rw [if_pos e]
      have : (a - 1).toNat = j := by
        refine Classical.byContradiction fun hne => ?_
        exact v.once j (a - 1).toNat hj (by omega) (fun x => hne x.symm) (by rw [h]; exact ht) (by rw [h, e])
      rw [show a = (j : Int) + 1 from by omega]
    · rw [if_neg e]
      refine ih _ _ (by omega) (by omega) ?_
      cases m with
      | zero =>
        exfalso; apply e
        rw [← h]; congr 2; omega
      | succ m => exact ⟨m, by omega, by omega⟩
theorem walk_miss {s : List Sl} {t : ByteArray} (h : ∀ j, j < 8 → (at_ s j).f0 ≠ t) : ∀ (d : Nat) (a free : Int), 1 ≤ a → a ≤ 8 → walk s t d a free = (if free = 0 then ff s d a else free, false) := by
  intro d
  induction d with
  | zero => intro a free h1 h8; simp only [walk, ff]; by_cases e : free = 0 <;> simp [e]
  | succ d ih =>
    intro a free h1 h8
    simp only [walk, ff]
    rw [if_neg (h _ (by omega)), ih _ _ (by omega) (by omega)]
    by_cases e : free = 0
    · by_cases u : (at_ s (a - 1).toNat).f1 = 0
      · rw [show (if (at_ s (a - 1).toNat).f1 = 0 ∧ free = 0 then a else free) = a from if_pos ⟨u, e⟩, if_neg (show ¬ a = 0 by omega), if_pos e, if_pos u]
      · rw [show (if (at_ s (a - 1).toNat).f1 = 0 ∧ free = 0 then a else free) = free from if_neg fun x => u x.1, if_pos e, if_pos e, if_neg u]
    · rw [show (if (at_ s (a - 1).toNat).f1 = 0 ∧ free = 0 then a else free) = free from if_neg fun x => e x.2, if_neg e, if_neg e]
theorem ff_spec (s : List Sl) : ∀ (d : Nat) (a : Int), 1 ≤ a → a ≤ 8 → (ff s d a = 0 ∨ 1 ≤ ff s d a ∧ ff s d a ≤ 8 ∧ (at_ s (ff s d a - 1).toNat).f1 = 0) := by
  intro d
  induction d with
  | zero => intro a h1 h8; exact Or.inl rfl
  | succ d ih =>
    intro a h1 h8
    simp only [ff]
    by_cases u : (at_ s (a - 1).toNat).f1 = 0
    · rw [if_pos u]; exact Or.inr ⟨h1, h8, u⟩
    · rw [if_neg u]; exact ih _ (by omega) (by omega)
theorem l1Next_eq (a : Int) (h1 : 1 ≤ a) : spec_l1Next.f a = some (a % 8 + 1) := by
  unfold spec_l1Next.f
  rw [Int.tmod_eq_emod_of_nonneg (by omega), w64 (by omega) (by omega)]
theorem l2Find_ (s : List Sl) (t : ByteArray) (h8 : s.length = 8) (d : Nat) : ∀ (i : Nat) (a free : Int), i + d = 8 → 1 ≤ a → a ≤ 8 → Tot (fun k => spec_l2Find.l0 k s t a free (i : Int)) (fun r => r = walk s t d a free) := by
  induction d with
  | zero =>
    intro i a free hi h1 h2
    refine Tot.shift ?_
    simp only [spec_l2Find.l0]
    exact Tot.neg (by omega) (Tot.now rfl)
  | succ d ih =>
    intro i a free hi h1 h2
    refine Tot.shift ?_
    simp only [spec_l2Find.l0, rd_at']
    rw [w64 (x := (i : Int) + 1) (by omega) (by omega), w64 (x := a - 1) (by omega) (by omega)]
    simp only [walk]
    refine Tot.pos (by omega) (Tot.pos (by omega) (Tot.pos (by omega) (Tot.ite (fun h => Tot.now ?_) (fun h => ?_))))
    · rw [if_pos (toList_inj.1 h)]
    · rw [if_neg (fun e => h (toList_inj.2 e))]
      refine Tot.ite (fun hu => Tot.ite (fun hf => ?_) (fun hf => ?_)) (fun hu => ?_)
      · rw [if_pos ⟨hu, hf⟩]
        exact Tot.bindN (l1Next_eq a h1) (ih (i + 1) _ _ (by omega) (by omega) (by omega))
      · rw [if_neg (fun x => hf x.2)]
        exact Tot.bindN (l1Next_eq a h1) (ih (i + 1) _ _ (by omega) (by omega) (by omega))
      · rw [if_neg (fun x => hu x.1)]
        exact Tot.bindN (l1Next_eq a h1) (ih (i + 1) _ _ (by omega) (by omega) (by omega))
theorem l1Place_tot {t : ByteArray} (ht : textOk t = true) : Tot (fun k => spec_l1Place.f k t) (fun r => r = place t) := by
  unfold spec_l1Place.f
  refine (spec_l1Place_l0 t ht (textOk_size ht) t.size 0 0 (by omega) (by omega) (by omega)).mono fun r e => ?_
  rw [e]; simp [place]
/-- What the reference's look-up gives: the piece's place; or the first free one. -/
def look (s : List Sl) (t : ByteArray) : Int × Bool := if spos s t = 0 then (ff s 8 (place t), false) else (spos s t, true)
theorem l2Find_tot {s : List Sl} (v : Valid s) {t : ByteArray} (ht : textOk t = true) (he : empty t = false) : Tot (fun k => spec_l2Find.f k s t) (fun r => r = look s t) := by
  unfold spec_l2Find.f
  have pr := place_range t
  refine Tot.bindE (l1Place_tot ht) ((l2Find_ s t v.len 8 0 (place t) 0 (by omega) pr.1 pr.2).mono fun r hr => ?_)
  rw [hr]
  unfold look
  by_cases h : ∃ j, j < 8 ∧ (at_ s j).f0 = t
  · obtain ⟨j, hj, hjt⟩ := h
    rw [valid_spos v he hj hjt, if_neg (by omega)]
    exact walk_hit v he hj hjt 8 _ _ pr.1 pr.2 ⟨((j : Int) - (place t - 1)).toNat % 8 + (if (j : Int) < place t - 1 then (8 - ((place t - 1) - j).toNat) else 0), by split <;> omega, by split <;> omega⟩
  · have hm : ∀ j, j < 8 → (at_ s j).f0 ≠ t := fun j hj e => h ⟨j, hj, e⟩
    rw [spos_miss (by rw [v.len]; exact hm), if_pos rfl, walk_miss hm _ _ _ pr.1 pr.2, if_pos rfl]
/-! ### changes -/
theorem beq_dec (a : Int) : (a == 0) = decide (a = 0) := rfl
theorem toList_empty (s : ByteArray) : (s.toList == ([] : List UInt8)) = empty s := rfl
theorem spec_OpOk_tot (kind : Int) (nm dst : ByteArray) (n : Int) (t : ByteArray) (ht : t.size ≤ 140737488355328) : Tot (fun k => spec_OpOk.f k kind nm dst n t) (fun r => r = opOk kind nm dst n t) := by
  unfold spec_OpOk.f
  refine Tot.bindN (spec_l3Name_eq nm) (Tot.ite (fun hn => ?_) (fun hn => Tot.now (by simp [opOk, hn])))
  refine Tot.ite (fun h1 => ?_) (fun h1 => Tot.ite (fun h2 => ?_) (fun h2 => Tot.ite (fun h3 => ?_) (fun h3 => Tot.ite (fun h4 => ?_) (fun h4 => Tot.now (by simp [opOk, h1, h2, h3, h4])))))
  · subst h1
    refine Tot.ite (fun he => Tot.bindN (spec_l6In_eq _ _ _) (Tot.ite (fun h => Tot.now ?_) (fun h => Tot.now ?_))) (fun he => Tot.now ?_)
    · rw [toList_empty]; simp at h; simp [opOk, hn, h, empty, he]
    · simp only [opOk]; simp at h; simp [hn, empty, he]; omega
    · simp [opOk, empty, he]
  · subst h2
    refine Tot.ite (fun he => Tot.bindN (spec_l6In_eq _ _ _) (Tot.ite (fun h => Tot.bindE (spec_TextOk_tot t ht) (Tot.now ?_)) (fun h => Tot.now ?_))) (fun he => Tot.now ?_)
    · simp at h; simp [opOk, hn, empty, he, h]
    · simp at h; simp [opOk, hn, empty, he]; omega
    · simp [opOk, empty, he]
  · subst h3
    refine Tot.bindN (spec_l3Name_eq dst) (Tot.ite (fun hm => Tot.ite (fun h => Tot.now ?_) (fun h => Tot.now ?_)) (fun hm => Tot.now ?_))
    · rw [toList_empty]; simp [opOk, hn, hm, h]
    · simp [opOk, h]
    · simp [opOk, hm]
  · subst h4
    refine Tot.ite (fun he => Tot.ite (fun h => Tot.now ?_) (fun h => Tot.now ?_)) (fun he => Tot.now ?_)
    · rw [toList_empty]; simp [opOk, hn, empty, he, h]
    · simp [opOk, h]
    · simp [opOk, empty, he]
/-! ### the reader of codes -/
/-- Its bytes are bytes, not too many, and its place is not far. -/
structure Rdr (b : List Int) (p : Int) : Prop where
  bytes : ∀ x ∈ b, 0 ≤ x ∧ x ≤ 255
  len : b.length ≤ 2000
  lo : 0 ≤ p
  hi : p ≤ 1000000000000
theorem rd_byte {b : List Int} (hb : ∀ x ∈ b, 0 ≤ x ∧ x ≤ 255) (i : Int) : 0 ≤ rd b i ∧ rd b i ≤ 255 := by
  unfold rd
  rw [List.getD_eq_getElem?_getD]
  by_cases h : i.toNat < b.length
  · rw [List.getElem?_eq_getElem h]
    exact hb _ (List.getElem_mem h)
  · rw [List.getElem?_eq_none (by omega)]
    exact ⟨by simp, by simp⟩
theorem tmod_pos {a n : Int} (h : 0 ≤ a) (hn : 1 ≤ n) : 0 ≤ Int.tmod a n ∧ Int.tmod a n < n := by
  rw [Int.tmod_eq_emod_of_nonneg h]
  exact ⟨Int.emod_nonneg _ (by omega), Int.emod_lt_of_pos _ (by omega)⟩
theorem pick_tot {b : List Int} {p n : Int} (R : Rdr b p) : Tot (fun k => spec_l6Rd_pick.f k b p n) (fun r => r.2 = p + 1 ∧ (1 ≤ n → 0 ≤ r.1 ∧ r.1 < n)) := by
  obtain ⟨hb, hl, h0, h1⟩ := R
  unfold spec_l6Rd_pick.f
  rw [w64 (x := p + 1) (by omega) (by omega)]
  refine Tot.ite (fun h => ?_) (fun h => ?_)
  · refine Tot.shift ?_
    simp only [spec_l6Rd_pick.j0]
    exact Tot.pos (by simp) (Tot.now ⟨rfl, fun h2 => ⟨Int.le_refl _, by omega⟩⟩)
  · refine Tot.shift ?_
    simp only [spec_l6Rd_pick.j0]
    rw [w64 (x := p + 1 - 1) (by omega) (by omega), show p + 1 - 1 = p from by omega]
    refine Tot.ite (fun h2 => Tot.now ⟨rfl, fun h3 => ⟨Int.le_refl _, by omega⟩⟩) (fun h2 => ?_)
    have hne : ¬ (b.length : Int) = 0 := by simpa using h2
    have hpos : (1 : Int) ≤ b.length := by omega
    refine Tot.ite (fun h3 => Tot.pos h0 (Tot.neg (by omega) (Tot.now ⟨rfl, fun h4 => ?_⟩))) (fun h3 => ?_)
    · have := rd_byte hb p
      rw [w64 (by omega) (by omega)]
      exact tmod_pos this.1 h4
    · have m1 := tmod_pos h0 hpos
      rw [w64 (x := p * 7) (by omega) (by omega), w64 (x := p * 7 + 3) (by omega) (by omega)]
      have m2 := tmod_pos (a := p * 7 + 3) (by omega) hpos
      have r1 := rd_byte hb (Int.tmod p b.length)
      have r2 := rd_byte hb (Int.tmod (p * 7 + 3) b.length)
      have q0 : 0 ≤ Int.tdiv p b.length ∧ Int.tdiv p b.length ≤ p := by
        rw [Int.tdiv_eq_ediv_of_nonneg h0]
        exact ⟨Int.ediv_nonneg h0 (by omega), Int.ediv_le_self _ h0⟩
      refine Tot.neg hne (Tot.pos m1.1 (Tot.pos m1.2 (Tot.pos m2.1 (Tot.pos m2.2 (Tot.neg (by omega) (Tot.now ⟨rfl, fun h4 => ?_⟩))))))
      generalize rd b (Int.tmod p b.length) = x1 at *
      generalize rd b (Int.tmod (p * 7 + 3) b.length) = x2 at *
      generalize Int.tdiv p b.length = q at *
      rw [w64 (x := x1) (by omega) (by omega), w64 (x := x2) (by omega) (by omega), w64 (x := q) (by omega) (by omega), w64 (x := x1 * 131) (by omega) (by omega), w64 (x := x2 * 1117) (by omega) (by omega), w64 (x := x1 * 131 + x2 * 1117) (by omega) (by omega), w64 (x := p * 29) (by omega) (by omega), w64 (x := x1 * 131 + x2 * 1117 + p * 29) (by omega) (by omega), w64 (x := q * 53) (by omega) (by omega), w64 (x := x1 * 131 + x2 * 1117 + p * 29 + q * 53) (by omega) (by omega)]
      generalize hX : x1 * 131 + x2 * 1117 + p * 29 + q * 53 = X
      have X0 : 0 ≤ X := by omega
      have X1 : X < 9223372036854775808 := by omega
      have d0 : 0 ≤ Int.tdiv X 64 ∧ Int.tdiv X 64 ≤ X := by
        rw [Int.tdiv_eq_ediv_of_nonneg X0]; omega
      rw [w64 (x := Int.tdiv X 64) (by omega) (by omega)]
      exact tmod_pos (bits_xor_nonneg X0 X1 d0.1 (by omega)) h4
theorem l6Open_tot (l : List Int) (h8 : ∀ x ∈ l, (Lit.int .u8 x).wf = true) : ∃ v, spec_l6Open.f l = some v ∧ Rdr v.1 v.2 ∧ v.2 = 0 := by
  have hb : ∀ x ∈ l, 0 ≤ x ∧ x ≤ 255 := fun x hx => wf_u8 (h8 x hx)
  unfold spec_l6Open.f
  by_cases h : (l.length : Int) > 2000
  · rw [if_pos h, if_pos (by omega)]
    exact ⟨_, rfl, ⟨fun x hx => hb x (List.mem_of_mem_take hx), by simp; omega, by simp, by simp⟩, rfl⟩
  · rw [if_neg h]
    exact ⟨_, rfl, ⟨hb, by simp; omega, by simp, by simp⟩, rfl⟩
theorem Rdr.go {b : List Int} {p q : Int} (R : Rdr b p) (h : p ≤ q) (h' : q ≤ 1000000000000) : Rdr b q := ⟨R.bytes, R.len, Int.le_trans R.lo h, h'⟩
theorem of_tot {b : List Int} {p : Int} {l : List ByteArray} (R : Rdr b p) (hl : 1 ≤ l.length) : Tot (fun k => spec_l6Rd_of.f k b p l) (fun r => r.2 = p + 1 ∧ r.1 ∈ l) := by
  unfold spec_l6Rd_of.f
  refine Tot.bind (pick_tot R) fun a ⟨ha, hr⟩ => ?_
  have := hr (by omega)
  refine Tot.pos this.1 (Tot.pos this.2 (Tot.now ⟨ha, ?_⟩))
  unfold rdOf
  rw [List.getD_eq_getElem?_getD, List.getElem?_eq_getElem (show a.1.toNat < l.length by omega)]
  exact List.getElem_mem _
/-! ### a drawn piece -/
theorem mem_small {l : List ByteArray} {s : ByteArray} (n : Nat) (h : s ∈ l) (hl : l.all (fun x => decide (x.size ≤ n)) = true) : s.size ≤ n :=
  of_decide_eq_true (List.all_eq_true.1 hl s h)
theorem text_l0 {b : List Int} (d : Nat) : ∀ (s : ByteArray) (p : Int), s.size + d ≤ 1000 → Rdr b p → p + d ≤ 1000000000000 - 10 → Tot (fun k => spec_l71Text.l0 k s (d : Int) b p) (fun r => r.1.size ≤ s.size + d + 4 ∧ p ≤ r.2 ∧ r.2 ≤ p + d + 2) := by
  induction d with
  | zero =>
    intro s p hs R hp
    refine Tot.shift ?_
    simp only [spec_l71Text.l0]
    refine Tot.neg (by omega) (Tot.bind (pick_tot R) fun a ⟨ha, _⟩ => Tot.ite (fun _ => ?_) (fun _ => Tot.now ⟨by simp only []; omega, by simp only []; omega, by simp only []; omega⟩))
    refine Tot.bind (of_tot (R.go (q := a.2) (by omega) (by omega)) (by simp)) fun c ⟨hc, hm⟩ => ?_
    have hz := mem_small 4 hm (by decide +kernel)
    refine Tot.pos (by omega) (Tot.now ⟨?_, by simp only []; omega, by simp only []; omega⟩)
    rw [ByteArray.size_append]; omega
  | succ d ih =>
    intro s p hs R hp
    refine Tot.shift ?_
    simp only [spec_l71Text.l0]
    refine Tot.pos (by omega) (Tot.bind (of_tot R (by simp)) fun c ⟨hc, hm⟩ => ?_)
    have hz := mem_small 1 hm (by decide +kernel)
    have e : wrap64 (((d + 1 : Nat) : Int) - 1) = (d : Int) := by rw [w64 (by omega) (by omega)]; omega
    rw [e]
    have hsz : (s ++ c.1).size ≤ s.size + 1 := by rw [ByteArray.size_append]; omega
    exact Tot.pos (by omega) ((ih (s ++ c.1) c.2 (by omega) (R.go (by omega) (by omega)) (by omega)).mono fun r ⟨h1, h2, h3⟩ => ⟨by omega, by omega, by omega⟩)
theorem text_tot {b : List Int} {p : Int} (R : Rdr b p) (hp : p ≤ 1000000000000 - 100) : Tot (fun k => spec_l71Text.f k b p) (fun r => r.1.size ≤ 7 ∧ p ≤ r.2 ∧ r.2 ≤ p + 6) := by
  unfold spec_l71Text.f
  refine Tot.bind (pick_tot R) fun a ⟨ha, hr⟩ => ?_
  have h4 := hr (by omega)
  obtain ⟨d, hd⟩ := Int.eq_ofNat_of_zero_le h4.1
  rw [hd]
  have hz : (⟨#[]⟩ : ByteArray).size = 0 := rfl
  refine (text_l0 d _ a.2 (by omega) (R.go (by omega) (by omega)) (by omega)).mono fun r ⟨h1, h2, h3⟩ => ⟨?_, by omega, by omega⟩
  omega
/-! ### a drawn change -/
theorem op_j1 {b : List Int} {p : Int} (R : Rdr b p) (hp : p ≤ 1000000000000 - 100) (kind : Int) (nm dst : ByteArray) (n : Int) (t : ByteArray) (h : nm.size ≤ 100 ∧ dst.size ≤ 100 ∧ t.size ≤ 100) :
    Tot (fun k => spec_l71Op.j1 k b p kind nm dst n t) (fun r => (r.2.1.size ≤ 100 ∧ r.2.2.1.size ≤ 100 ∧ r.2.2.2.2.1.size ≤ 100) ∧ p ≤ r.2.2.2.2.2 ∧ r.2.2.2.2.2 ≤ p + 2) := by
  refine Tot.shift ?_
  simp only [spec_l71Op.j1]
  refine Tot.bind (pick_tot R) fun a ⟨ha, _⟩ => Tot.ite (fun _ => ?_) (fun _ => Tot.ite (fun _ => ?_) (fun _ => Tot.ite (fun _ => ?_) (fun _ => Tot.now ⟨h, by simp only []; omega, by simp only []; omega⟩)))
  · refine Tot.bind (of_tot (R.go (q := a.2) (by omega) (by omega)) (by simp)) fun c ⟨hc, hm⟩ => Tot.now ⟨⟨?_, h.2⟩, by simp only []; omega, by simp only []; omega⟩
    have := mem_small 2 hm (by decide +kernel)
    simp only []; omega
  · exact Tot.bind (pick_tot (R.go (q := a.2) (by omega) (by omega))) fun c ⟨hc, _⟩ => Tot.now ⟨h, by simp only []; omega, by simp only []; omega⟩
  · exact Tot.bind (pick_tot (R.go (q := a.2) (by omega) (by omega))) fun c ⟨hc, _⟩ => Tot.now ⟨h, by simp only []; omega, by simp only []; omega⟩
theorem op_j0 {b : List Int} {p : Int} (R : Rdr b p) (hp : p ≤ 1000000000000 - 200) (c : Int) (x : Bool) (kind : Int) (nm dst : ByteArray) (n : Int) (t : ByteArray) (h : nm.size ≤ 100 ∧ dst.size ≤ 100 ∧ t.size ≤ 100) :
    Tot (fun k => spec_l71Op.j0 k c x b p kind nm dst n t) (fun r => (r.2.1.size ≤ 100 ∧ r.2.2.1.size ≤ 100 ∧ r.2.2.2.2.1.size ≤ 100) ∧ p ≤ r.2.2.2.2.2 ∧ r.2.2.2.2.2 ≤ p + 3) := by
  have z : (⟨#[]⟩ : ByteArray).size = 0 := rfl
  refine Tot.shift ?_
  simp only [spec_l71Op.j0]
  refine Tot.ite (fun _ => ?_) (fun _ => Tot.ite (fun _ => ?_) (fun _ => Tot.ite (fun _ => ?_) (fun _ => ?_)))
  · exact Tot.bind (pick_tot R) fun a ⟨ha, _⟩ => (op_j1 (R.go (q := a.2) (by omega) (by omega)) (by omega) _ _ _ _ _ ⟨h.1, by omega, by omega⟩).mono fun r hr => ⟨hr.1, by omega, by omega⟩
  · refine Tot.bind (of_tot R (by simp)) fun a ⟨ha, hm⟩ => ?_
    have := mem_small 1 hm (by decide +kernel)
    exact (op_j1 (R.go (q := a.2) (by omega) (by omega)) (by omega) _ _ _ _ _ ⟨h.1, by omega, by omega⟩).mono fun r hr => ⟨hr.1, by omega, by omega⟩
  · exact (op_j1 R (by omega) _ _ _ _ _ ⟨h.1, by omega, by omega⟩).mono fun r hr => ⟨hr.1, by omega, by omega⟩
  · exact (op_j1 R (by omega) _ _ _ _ _ h).mono fun r hr => ⟨hr.1, by omega, by omega⟩
theorem op_tot {b : List Int} {p : Int} (R : Rdr b p) (hp : p ≤ 1000000000000 - 300) :
    Tot (fun k => spec_l71Op.f k b p) (fun r => (r.2.1.size ≤ 100 ∧ r.2.2.1.size ≤ 100 ∧ r.2.2.2.2.1.size ≤ 100) ∧ p ≤ r.2.2.2.2.2 ∧ r.2.2.2.2.2 ≤ p + 12) := by
  have z : (⟨#[]⟩ : ByteArray).size = 0 := rfl
  unfold spec_l71Op.f
  refine Tot.bind (of_tot R (by simp)) fun a ⟨ha, hm⟩ => Tot.bind (pick_tot (R.go (q := a.2) (by omega) (by omega))) fun c ⟨hc, _⟩ => Tot.bind (text_tot (R.go (q := c.2) (by omega) (by omega)) (by omega)) fun t ⟨ht, ht2, ht3⟩ => Tot.bind (pick_tot (R.go (q := t.2) (by omega) (by omega))) fun d ⟨hd, _⟩ => ?_
  have := mem_small 1 hm (by decide +kernel)
  refine Tot.ite (fun _ => ?_) (fun _ => ?_)
  · exact (op_j0 (R.go (q := d.2) (by omega) (by omega)) (by omega) _ _ _ _ _ _ _ ⟨by omega, by omega, by omega⟩).mono fun r hr => ⟨hr.1, by omega, by omega⟩
  · exact (op_j0 (R.go (q := d.2) (by omega) (by omega)) (by omega) _ _ _ _ _ _ _ ⟨by omega, by omega, by omega⟩).mono fun r hr => ⟨hr.1, by omega, by omega⟩
/-! ### drawn places -/
/-- Eight places, short texts. -/
def Mild (s : List Sl) : Prop := s.length = 8 ∧ ∀ x ∈ s, x.f0.size ≤ 7
/-- Seven or eight places, short texts. -/
def Drawn (s : List Sl) : Prop := 7 ≤ s.length ∧ s.length ≤ 8 ∧ ∀ x ∈ s, x.f0.size ≤ 7
theorem Mild.drawn {s : List Sl} (m : Mild s) : Drawn s := ⟨by rw [m.1]; omega, by rw [m.1]; omega, m.2⟩
theorem Drawn.small {s : List Sl} (d : Drawn s) : Small s := ⟨by have := d.2.1; omega, fun x hx => by have := d.2.2 x hx; omega⟩
theorem set_short {s : List Sl} (h : ∀ x ∈ s, x.f0.size ≤ 7) (i : Nat) {y : Sl} (hy : y.f0.size ≤ 7) : ∀ x ∈ s.set i y, x.f0.size ≤ 7 := by
  intro x hx
  rcases List.mem_or_eq_of_mem_set hx with h1 | h1
  · exact h x h1
  · rw [h1]; exact hy
theorem Mild.set {s : List Sl} (m : Mild s) (i : Nat) {y : Sl} (hy : y.f0.size ≤ 7) : Mild (s.set i y) := ⟨by rw [List.length_set]; exact m.1, set_short m.2 i hy⟩
theorem Drawn.set {s : List Sl} (m : Drawn s) (i : Nat) {y : Sl} (hy : y.f0.size ≤ 7) : Drawn (s.set i y) := ⟨by rw [List.length_set]; exact m.1, by rw [List.length_set]; exact m.2.1, set_short m.2.2 i hy⟩
theorem Mild.at {s : List Sl} (m : Mild s) {i : Nat} (h : i < 8) : (at_ s i).f0.size ≤ 7 := m.2 _ (at_mem (by rw [m.1]; exact h))
theorem walk_range (s : List Sl) (t : ByteArray) : ∀ (d : Nat) (a free : Int), 1 ≤ a → a ≤ 8 → 0 ≤ free → free ≤ 8 → 0 ≤ (walk s t d a free).1 ∧ (walk s t d a free).1 ≤ 8 := by
  intro d
  induction d with
  | zero => intro a free h1 h2 h3 h4; exact ⟨h3, h4⟩
  | succ d ih =>
    intro a free h1 h2 h3 h4
    simp only [walk]
    split
    · exact ⟨by omega, h2⟩
    · split
      · exact ih _ _ (by omega) (by omega) (by omega) h2
      · exact ih _ _ (by omega) (by omega) h3 h4
theorem l2Find_weak {s : List Sl} (h8 : s.length = 8) {t : ByteArray} (ht : textOk t = true) : Tot (fun k => spec_l2Find.f k s t) (fun r => 0 ≤ r.1 ∧ r.1 ≤ 8) := by
  unfold spec_l2Find.f
  have pr := place_range t
  refine Tot.bindE (l1Place_tot ht) ((l2Find_ s t h8 8 0 (place t) 0 (by omega) pr.1 pr.2).mono fun r hr => ?_)
  rw [hr]
  exact walk_range s t 8 _ _ pr.1 pr.2 (by omega) (by omega)
theorem l2Put_mild {s : List Sl} (m : Mild s) {t : ByteArray} (ht : textOk t = true) : Tot (fun k => spec_l2Put.f k s t) (fun r => Mild r.1) := by
  unfold spec_l2Put.f
  have h8 := m.1
  have h4 := textOk_size ht
  refine Tot.bind (l2Find_weak h8 ht) fun a ⟨h0, h1⟩ => Tot.ite (fun h => Tot.now m) (fun h => ?_)
  rw [w64 (x := a.1 - 1) (by omega) (by omega)]
  exact Tot.pos (by omega) (Tot.pos (by omega) (Tot.ite (fun _ => Tot.now m) (fun _ => Tot.now (m.set _ (by show t.size ≤ 7; omega)))))
theorem l2Drop_mild {s : List Sl} (m : Mild s) (p : Int) (h1 : 1 ≤ p) (h2 : p ≤ 8) : ∃ v, spec_l2Drop.f s p = some v ∧ Mild v := by
  unfold spec_l2Drop.f
  have h8 := m.1
  have hz : (⟨#[]⟩ : ByteArray).size = 0 := rfl
  rw [w64 (x := p - 1) (by omega) (by omega), if_pos (by omega), if_pos (by omega), Option.bind_some]
  have ha : (rd_T55 s (p - 1)).f0.size ≤ 7 := m.at (i := (p - 1).toNat) (by omega)
  by_cases h : (rd_T55 (s.set (p - 1).toNat (⟨(rd_T55 s (p - 1)).f0, wrap64 (((rd_T55 s (p - 1)).f1) - 1)⟩ : Sl)) (p - 1)).f1 = 0
  · rw [if_pos h]
    refine ⟨_, rfl, ?_⟩
    refine Mild.set (Mild.set m _ ?_) _ ?_
    · exact ha
    · exact Nat.zero_le 7
  · rw [if_neg h]; exact ⟨_, rfl, m.set _ ha⟩
theorem new_mild : Mild (List.replicate 8 z55) := by
  refine ⟨List.length_replicate, fun x hx => ?_⟩
  rw [(List.mem_replicate.1 hx).2]
  exact Nat.zero_le 7
/-! ### drawn pools -/
/-- A disk as one may be drawn. -/
def GV (v : Vo) : Prop := v.f0.size ≤ 100 ∧ 1 ≤ v.f1.length ∧ v.f1.length ≤ 6 ∧ ∀ x ∈ v.f1, 0 ≤ x ∧ x ≤ 8
/-- A pool of no more than n disks. -/
def GP (n : Nat) (s : List Sl) (m : List Vo) : Prop := Mild s ∧ m.length ≤ n ∧ ∀ v ∈ m, GV v
theorem GV.val {v : Vo} (g : GV v) {i : Int} (h0 : 0 ≤ i) (h1 : i < v.f1.length) : 0 ≤ rd v.f1 i ∧ rd v.f1 i ≤ 8 := by
  have h : i.toNat < v.f1.length := by omega
  have e : rd v.f1 i = v.f1[i.toNat] := by simp [rd, List.getD_eq_getElem?_getD, List.getElem?_eq_getElem h]
  rw [e]
  exact g.2.2.2 _ (List.getElem_mem h)
theorem GV.set {v : Vo} (g : GV v) (i : Nat) {x : Int} (h0 : 0 ≤ x) (h8 : x ≤ 8) : GV ⟨v.f0, v.f1.set i x⟩ := by
  refine ⟨g.1, by simpa using g.2.1, by simpa using g.2.2.1, fun y hy => ?_⟩
  rcases List.mem_or_eq_of_mem_set hy with h | h
  · exact g.2.2.2 y h
  · rw [h]; exact ⟨h0, h8⟩
theorem GP.at {n : Nat} {s : List Sl} {m : List Vo} (g : GP n s m) {i : Int} (h0 : 0 ≤ i) (h1 : i < m.length) : GV (rd_T38 m i) := g.2.2 _ (atV_mem (i := i.toNat) (by omega))
theorem GP.slots {n : Nat} {s s' : List Sl} {m : List Vo} (g : GP n s m) (h : Mild s') : GP n s' m := ⟨h, g.2⟩
theorem GP.le {n n' : Nat} {s : List Sl} {m : List Vo} (g : GP n s m) (h : n ≤ n') : GP n' s m := ⟨g.1, Nat.le_trans g.2.1 h, g.2.2⟩
theorem GP.set {n : Nat} {s : List Sl} {m : List Vo} (g : GP n s m) (i : Nat) {v : Vo} (h : GV v) : GP n s (m.set i v) := by
  refine ⟨g.1, by simpa using g.2.1, fun y hy => ?_⟩
  rcases List.mem_or_eq_of_mem_set hy with h2 | h2
  · exact g.2.2 y h2
  · rw [h2]; exact h
theorem GP.add {n : Nat} {s : List Sl} {m : List Vo} (g : GP n s m) {v : Vo} (h : GV v) : GP (n + 1) s (PRawAdd.insG (fun x : Vo => x.f0) v m) := by
  refine ⟨g.1, by rw [PRawAdd.insG_length]; have := g.2.1; omega, fun y hy => ?_⟩
  rcases List.mem_cons.1 ((PRawAdd.insG_perm _ _ _).mem_iff.1 hy) with h2 | h2
  · rw [h2]; exact h
  · exact g.2.2 y h2
theorem l11At_tot {n : Nat} {s : List Sl} {m : List Vo} (g : GP n s m) (hn : n ≤ 1000) (a : ByteArray) : Tot (fun k => spec_l11At.f k s m a) (fun r => -1 ≤ r ∧ r < m.length) := by
  refine (spec_l11At_tot s (m := m) (by have := g.2.1; omega) a).mono fun r hr => ?_
  rw [hr]
  rcases vat_range m a with h | h <;> omega
theorem l3Copy_eq (a : ByteArray) (b : List Int) (hb : b.length ≤ 1000) : spec_l3Copy.f a b = some (a, b) := by
  unfold spec_l3Copy.f
  rw [Option.bind_some, if_pos (by simp; omega), List.nil_append]
theorem l2Copy_eq {s : List Sl} (h : s.length ≤ 1000) : spec_l2Copy.f s = some s := by
  unfold spec_l2Copy.f
  rw [Option.bind_some, if_pos (by simp; omega), List.nil_append]
theorem l11Copy_tot {n : Nat} {s : List Sl} {m : List Vo} (g : GP n s m) (hn : n ≤ 1000) : Tot (fun k => spec_l11Copy.f k s m) (fun r => r = (s, m)) := by
  have hm := g.2.1
  have h8 := g.1.1
  have loop : ∀ (d i : Nat), i + d = m.length → Tot (fun k => spec_l11Copy.l0 k (m.take i) (i : Int) s m) (fun r => r = (s, m)) := by
    intro d
    induction d with
    | zero =>
      intro i hi
      refine Tot.shift ?_
      simp only [spec_l11Copy.l0]
      exact Tot.neg (by omega) (Tot.bindN (l2Copy_eq (by omega)) (Tot.now (by rw [List.take_of_length_le (by omega)])))
    | succ d ih =>
      intro i hi
      have hl : i < m.length := by omega
      have gv : GV (rd_T38 m (i : Int)) := g.at (by omega) (by omega)
      have e : rd_T38 m (i : Int) = m[i] := by rw [rdV_at]; exact atV_get hl
      refine Tot.shift ?_
      simp only [spec_l11Copy.l0]
      refine Tot.pos (by omega) (Tot.pos (by omega) (Tot.bindN (l3Copy_eq _ _ (by have := gv.2.2.1; omega)) (Tot.pos (by rw [List.length_take]; omega) ?_)))
      rw [w64 (x := (i : Int) + 1) (by omega) (by omega), e]
      have e2 : m.take i ++ [(⟨m[i].f0, m[i].f1⟩ : Vo)] = m.take (i + 1) := by rw [List.take_succ_eq_append_getElem hl]
      rw [e2]
      exact ih (i + 1) (by omega)
  unfold spec_l11Copy.f
  exact loop m.length 0 (by omega)
theorem isName_size {a : ByteArray} (h : isName a = true) : a.size ≤ 100 := by
  unfold isName at h
  rw [Bool.and_eq_true] at h
  have := of_decide_eq_true h.1
  omega
theorem l11Add_eq {n : Nat} {s : List Sl} {m : List Vo} (g : GP n s m) (hn : n ≤ 1000) (a : ByteArray) (b : List Int) : spec_l11Add.f s m a b = some (s, PRawAdd.insG (fun x : Vo => x.f0) ⟨a, b⟩ m) := by
  unfold spec_l11Add.f
  exact if_pos (by have := g.2.1; omega)
theorem l11Make_tot {n : Nat} {s : List Sl} {m : List Vo} (g : GP n s m) (hn : n ≤ 1000) (a : ByteArray) (z : Int) : Tot (fun k => spec_l11Make.f k s m a z) (fun r => GP (n + 1) r.1 r.2.1) := by
  unfold spec_l11Make.f
  have g1 : GP (n + 1) s m := g.le (by omega)
  refine Tot.bindN (spec_l3Name_eq a) (Tot.ite (fun hn1 => Tot.bindN (spec_l6In_eq _ _ _) (Tot.ite (fun hz => Tot.bind (l11At_tot g hn a) fun k hk => Tot.ite (fun _ => Tot.now g1) (fun _ => ?_)) (fun _ => Tot.now g1))) (fun _ => Tot.now g1))
  rw [Bool.and_eq_true, decide_eq_true_eq, decide_eq_true_eq] at hz
  refine Tot.pos (by omega) (Tot.pos (by omega) (Tot.bindN (l11Add_eq g hn a _) (Tot.now (g.add ⟨isName_size hn1, ?_, ?_, fun x hx => ?_⟩))))
  · show 1 ≤ (List.replicate z.toNat (0 : Int)).length
    rw [List.length_replicate]; omega
  · show (List.replicate z.toNat (0 : Int)).length ≤ 6
    rw [List.length_replicate]; omega
  · have := (List.mem_replicate.1 hx).2
    omega
theorem l2Put_mild2 {s : List Sl} (m : Mild s) {t : ByteArray} (ht : textOk t = true) : Tot (fun k => spec_l2Put.f k s t) (fun r => Mild r.1 ∧ 0 ≤ r.2.1 ∧ r.2.1 ≤ 8) := by
  unfold spec_l2Put.f
  have h8 := m.1
  have h4 := textOk_size ht
  refine Tot.bind (l2Find_weak h8 ht) fun a ⟨h0, h1⟩ => Tot.ite (fun h => Tot.now ⟨m, Int.le_refl 0, by show (0 : Int) ≤ 8; omega⟩) (fun h => ?_)
  rw [w64 (x := a.1 - 1) (by omega) (by omega)]
  exact Tot.pos (by omega) (Tot.pos (by omega) (Tot.ite (fun _ => Tot.now ⟨m, Int.le_refl 0, by show (0 : Int) ≤ 8; omega⟩) (fun _ => Tot.now ⟨m.set _ (by show t.size ≤ 7; omega), h0, h1⟩)))
theorem l11Write_j1 {n : Nat} {s s0 : List Sl} {m m0 : List Vo} (g : GP n s m) (g0 : GP n s0 m0) {b x : Int} {t : ByteArray} (ht : textOk t = true) (hx0 : 0 ≤ x) (hx : x < m.length) (hb0 : 0 ≤ b) (hb : b < (rd_T38 m x).f1.length) : Tot (fun k => spec_l11Write.j1 k b t x s0 m0 s m) (fun r => GP n r.1 r.2.1) := by
  have gv : GV (rd_T38 m x) := g.at hx0 hx
  have g1 : GP n s (m.set x.toNat ⟨(rd_T38 m x).f0, (rd_T38 m x).f1.set b.toNat 0⟩) := g.set _ (gv.set _ (by omega) (by omega))
  have e : rd_T38 (m.set x.toNat ⟨(rd_T38 m x).f0, (rd_T38 m x).f1.set b.toNat 0⟩) x = ⟨(rd_T38 m x).f0, (rd_T38 m x).f1.set b.toNat 0⟩ := by
    have hl : x.toNat < m.length := by omega
    show (m.set x.toNat _).getD x.toNat z38 = _
    rw [List.getD_eq_getElem?_getD, List.getElem?_set_self hl]
    rfl
  refine Tot.shift ?_
  simp only [spec_l11Write.j1]
  refine Tot.pos hx0 (Tot.pos hx (Tot.pos hb0 (Tot.pos hb (Tot.bindN rfl (Tot.ite (fun _ => Tot.now g1) (fun _ => Tot.bind (l2Put_mild2 g.1 ht) fun p ⟨hp, p0, p8⟩ => Tot.ite (fun _ => ?_) (fun _ => Tot.now g0)))))))
  rw [e]
  exact Tot.pos (by simpa using hb) (Tot.now ((g1.slots hp).set _ ((gv.set _ (by omega) (by omega)).set _ p0 p8)))
theorem l11Write_j0 {n : Nat} {s : List Sl} {m : List Vo} (g : GP n s m) (hn : n ≤ 1000) {b x : Int} {t : ByteArray} {c : Bool} (h : c = false → textOk t = true ∧ 0 ≤ x ∧ x < m.length ∧ 0 ≤ b ∧ b < (rd_T38 m x).f1.length) : Tot (fun k => spec_l11Write.j0 k b t x c s m) (fun r => GP n r.1 r.2.1) := by
  refine Tot.shift ?_
  simp only [spec_l11Write.j0]
  refine Tot.ite (fun _ => Tot.now g) (fun hc => Tot.bindE (l11Copy_tot g hn) ?_)
  obtain ⟨ht, x0, x1, b0, b1⟩ := h (Bool.eq_false_iff.2 hc)
  have gv : GV (rd_T38 m x) := g.at x0 x1
  have hr := gv.val b0 b1
  refine Tot.pos x0 (Tot.pos x1 (Tot.pos b0 (Tot.pos b1 (Tot.ite (fun hd => Tot.bindO (l2Drop_mild g.1 _ (by omega) hr.2) fun v hv => l11Write_j1 (g.slots hv) g ht x0 x1 b0 b1) (fun _ => l11Write_j1 g g ht x0 x1 b0 b1)))))
theorem l11Write_tot {n : Nat} {s : List Sl} {m : List Vo} (g : GP n s m) (hn : n ≤ 1000) (a : ByteArray) (b : Int) {t : ByteArray} (hts : t.size ≤ 1000) : Tot (fun k => spec_l11Write.f k s m a b t) (fun r => GP n r.1 r.2.1) := by
  unfold spec_l11Write.f
  have no : ∀ x, Tot (fun k => spec_l11Write.j0 k b t x true s m) (fun r => GP n r.1 r.2.1) := fun x => l11Write_j0 g hn fun h => by cases h
  refine Tot.bind (l11At_tot g hn a) fun x ⟨x0, x1⟩ => Tot.ite (fun _ => no x) (fun hx => Tot.pos (by omega) (Tot.pos x1 (Tot.bindN (spec_l6In_eq _ _ _) (Tot.ite (fun hb => Tot.bindE (spec_TextOk_tot t (by omega)) ?_) (fun _ => no x)))))
  have gv : GV (rd_T38 m x) := g.at (by omega) x1
  have h6 := gv.2.2.1
  rw [w64 (by omega) (by omega), Bool.and_eq_true, decide_eq_true_eq, decide_eq_true_eq] at hb
  refine l11Write_j0 g hn fun hc => ⟨?_, by omega, x1, hb.1, by omega⟩
  cases h : textOk t with
  | true => rfl
  | false => rw [h] at hc; cases hc
theorem l11Clone_l0 {n : Nat} {m : List Vo} (a : ByteArray) (b : List Int) (hb : ∀ x ∈ b, 0 ≤ x ∧ x ≤ 8) (hb1 : 1 ≤ b.length) (hb6 : b.length ≤ 6) (ha : a.size ≤ 100) (hn : n ≤ 1000) (d : Nat) : ∀ (i : Nat) (s : List Sl), i + d = b.length → GP n s m → Tot (fun k => spec_l11Clone.l0 k (i : Int) s m a b) (fun r => GP (n + 1) r.1 r.2.1) := by
  induction d with
  | zero =>
    intro i s hi g
    refine Tot.shift ?_
    simp only [spec_l11Clone.l0]
    exact Tot.neg (by omega) (Tot.bindN (l11Add_eq g hn a b) (Tot.now (g.add ⟨ha, hb1, hb6, hb⟩)))
  | succ d ih =>
    intro i s hi g
    have hl : i < b.length := by omega
    have e : rd b (i : Int) = b[i] := by simp [rd, List.getD_eq_getElem?_getD, List.getElem?_eq_getElem hl]
    have hr := hb _ (List.getElem_mem hl)
    have h8 := g.1.1
    refine Tot.shift ?_
    simp only [spec_l11Clone.l0]
    rw [w64 (x := (i : Int) + 1) (by omega) (by omega), e, w64 (x := b[i] - 1) (by omega) (by omega)]
    refine Tot.pos (by omega) (Tot.pos (by omega) (Tot.ite (fun hp => Tot.pos (by omega) (Tot.pos (by omega) (ih (i + 1) _ (by omega) (g.slots (g.1.set _ ?_))))) (fun _ => ih (i + 1) s (by omega) g)))
    exact g.1.at (i := (b[i] - 1).toNat) (by omega)
theorem l11Clone_tot {n : Nat} {s : List Sl} {m : List Vo} (g : GP n s m) (hn : n ≤ 1000) (a c : ByteArray) : Tot (fun k => spec_l11Clone.f k s m a c) (fun r => GP (n + 1) r.1 r.2.1) := by
  unfold spec_l11Clone.f
  have g1 : GP (n + 1) s m := g.le (by omega)
  have j0 : ∀ (x : Int) (bb : Bool), (bb = false → 0 ≤ x ∧ x < m.length ∧ c.size ≤ 100) → Tot (fun k => spec_l11Clone.j0 k c x bb s m) (fun r => GP (n + 1) r.1 r.2.1) := by
    intro x bb h
    refine Tot.shift ?_
    simp only [spec_l11Clone.j0]
    refine Tot.ite (fun _ => Tot.now g1) (fun hb => Tot.bindN rfl ?_)
    obtain ⟨x0, x1, hc⟩ := h (Bool.eq_false_iff.2 hb)
    have gv : GV (rd_T38 m x) := g.at x0 x1
    rw [List.nil_append]
    have h6 := gv.2.2.1
    exact Tot.pos x0 (Tot.pos x1 (Tot.pos (by simp; omega) (l11Clone_l0 c _ gv.2.2.2 gv.2.1 h6 hc hn (rd_T38 m x).f1.length 0 s (by omega) g)))
  have no : ∀ x, Tot (fun k => spec_l11Clone.j0 k c x true s m) (fun r => GP (n + 1) r.1 r.2.1) := fun x => j0 x true fun h => by cases h
  exact Tot.bind (l11At_tot g hn a) fun x ⟨x0, x1⟩ => Tot.ite (fun _ => no x) (fun hx => Tot.bindN (spec_l3Name_eq c) (Tot.ite (fun hc => Tot.bind (l11At_tot g hn c) fun y hy => j0 x _ fun _ => ⟨by omega, x1, isName_size hc⟩) (fun _ => no x)))
theorem l11Gone_l0 {n : Nat} {m : List Vo} (hn : n ≤ 1000) {x : Int} (x0 : 0 ≤ x) (x1 : x < m.length) (d : Nat) : ∀ (i : Nat) (s : List Sl), i + d = (rd_T38 m x).f1.length → GP n s m → Tot (fun k => spec_l11Gone.l0 k x (i : Int) s m) (fun r => GP n r.1 r.2.1) := by
  induction d with
  | zero =>
    intro i s hi g
    refine Tot.shift ?_
    simp only [spec_l11Gone.l0]
    refine Tot.pos x0 (Tot.pos x1 (Tot.neg (by omega) (Tot.pos (by have := g.2.1; omega) (Tot.now ⟨g.1, ?_, fun v hv => ?_⟩))))
    · show (m.take x.toNat ++ m.drop (x.toNat + 1)).length ≤ n
      rw [List.length_append, List.length_take, List.length_drop]
      have := g.2.1
      omega
    · rcases List.mem_append.1 hv with h | h
      · exact g.2.2 v (List.mem_of_mem_take h)
      · exact g.2.2 v (List.mem_of_mem_drop h)
  | succ d ih =>
    intro i s hi g
    have gv : GV (rd_T38 m x) := g.at x0 x1
    have hr := gv.val (i := (i : Int)) (by omega) (by omega)
    have h6 := gv.2.2.1
    refine Tot.shift ?_
    simp only [spec_l11Gone.l0]
    rw [w64 (x := (i : Int) + 1) (by omega) (by omega)]
    exact Tot.pos x0 (Tot.pos x1 (Tot.pos (by omega) (Tot.pos (by omega) (Tot.ite (fun hp => Tot.bindO (l2Drop_mild g.1 _ (by omega) hr.2) fun v hv => ih (i + 1) v (by omega) (g.slots hv)) (fun _ => ih (i + 1) s (by omega) g)))))
theorem l11Gone_tot {n : Nat} {s : List Sl} {m : List Vo} (g : GP n s m) (hn : n ≤ 1000) (a : ByteArray) : Tot (fun k => spec_l11Gone.f k s m a) (fun r => GP n r.1 r.2.1) := by
  unfold spec_l11Gone.f
  exact Tot.bind (l11At_tot g hn a) fun x ⟨x0, x1⟩ => Tot.ite (fun _ => Tot.now g) (fun hx => l11Gone_l0 hn (by omega) x1 (rd_T38 m x).f1.length 0 s (by omega) g)
theorem l12Do_tot {n : Nat} {s : List Sl} {m : List Vo} (g : GP n s m) (hn : n ≤ 1000) (kind : Int) (a b : ByteArray) (z : Int) {t : ByteArray} (ht : t.size ≤ 1000) : Tot (fun k => spec_l12Do.f k s m kind a b z t) (fun r => GP (n + 1) r.1 r.2.1) := by
  unfold spec_l12Do.f
  exact Tot.ite (fun _ => Tot.bind (l11Make_tot g hn a z) fun r hr => Tot.now hr) (fun _ => Tot.ite (fun _ => Tot.bind (l11Write_tot g hn a z ht) fun r hr => Tot.now (hr.le (by omega))) (fun _ => Tot.ite (fun _ => Tot.bind (l11Clone_tot g hn a b) fun r hr => Tot.now hr) (fun _ => Tot.bind (l11Gone_tot g hn a) fun r hr => Tot.now (hr.le (by omega)))))
/-- What a drawn change may be. -/
def OpS (p q : Int) (r : Int × ByteArray × ByteArray × Int × ByteArray × Int) : Prop := (r.2.1.size ≤ 100 ∧ r.2.2.1.size ≤ 100 ∧ r.2.2.2.2.1.size ≤ 100) ∧ p ≤ r.2.2.2.2.2 ∧ r.2.2.2.2.2 ≤ q
theorem fits_l0 {b : List Int} {n : Nat} {s : List Sl} {m : List Vo} (g : GP n s m) (hn : n ≤ 1000) (d : Nat) : ∀ (i : Nat) (p : Int) (kind : Int) (a c : ByteArray) (z : Int) (t : ByteArray), i + d = 8 → Rdr b p → p + 20 * d ≤ 1000000 → a.size ≤ 100 ∧ c.size ≤ 100 ∧ t.size ≤ 100 →
    Tot (fun k => spec_l71Fits.l0 k (i : Int) b p s m kind a c z t) (OpS p (p + 20 * d)) := by
  have hm := g.2.1
  induction d with
  | zero =>
    intro i p kind a c z t hi R hp h
    refine Tot.shift ?_
    simp only [spec_l71Fits.l0]
    exact Tot.neg (by omega) (Tot.now ⟨h, by simp only []; omega, by simp only []; omega⟩)
  | succ d ih =>
    intro i p kind a c z t hi R hp h
    have j1 : Tot (fun k => spec_l71Fits.j1 k (i : Int) b p s m) (OpS p (p + 20 * ((d + 1 : Nat) : Int))) := by
      refine Tot.shift ?_
      simp only [spec_l71Fits.j1]
      rw [w64 (x := (i : Int) + 1) (by omega) (by omega)]
      have go : ∀ (q : Int) (kind : Int) (a c : ByteArray) (z : Int) (t : ByteArray), p ≤ q → q ≤ p + 20 → a.size ≤ 100 ∧ c.size ≤ 100 ∧ t.size ≤ 100 → Tot (fun k => spec_l71Fits.l0 k ((i : Int) + 1) b q s m kind a c z t) (OpS p (p + 20 * ((d + 1 : Nat) : Int))) := fun q kind a c z t q0 q1 h =>
        (ih (i + 1) q kind a c z t (by omega) (R.go q0 (by omega)) (by have := R.hi; omega) h).mono fun r hr => ⟨hr.1, by have := hr.2.1; omega, by have := hr.2.2; omega⟩
      refine Tot.bind (op_tot R (by omega)) fun o ⟨ho, o1, o2⟩ => Tot.ite (fun hl => Tot.bind (pick_tot (R.go (q := o.2.2.2.2.2) o1 (by omega))) fun x ⟨hx, _⟩ => Tot.ite (fun _ => Tot.bind (pick_tot (R.go (q := x.2) (by omega) (by omega))) fun y ⟨hy, hy2⟩ => ?_) (fun _ => go x.2 _ _ _ _ _ (by omega) (by omega) ho)) (fun _ => go _ _ _ _ _ _ o1 (by omega) ho)
      have hy3 := hy2 (by omega)
      exact Tot.pos hy3.1 (Tot.pos hy3.2 (go y.2 _ _ _ _ _ (by omega) (by omega) ⟨(g.at hy3.1 hy3.2).1, ho.2⟩))
    refine Tot.shift ?_
    simp only [spec_l71Fits.l0]
    exact Tot.pos (by omega) (Tot.bindE (spec_OpOk_tot kind a c z t (by omega)) (Tot.ite (fun _ => Tot.bindE (l11Copy_tot g hn) (Tot.bind (l12Do_tot g hn kind a c z (by omega)) fun r hr => Tot.ite (fun _ => Tot.now ⟨h, by simp only []; omega, by simp only []; omega⟩) (fun _ => j1))) (fun _ => j1)))
theorem fits_tot {b : List Int} {p : Int} {n : Nat} {s : List Sl} {m : List Vo} (g : GP n s m) (hn : n ≤ 1000) (R : Rdr b p) (hp : p ≤ 900000) : Tot (fun k => spec_l71Fits.f k b p s m) (OpS p (p + 200)) := by
  unfold spec_l71Fits.f
  refine Tot.bind (op_tot R (by omega)) fun o ⟨ho, o1, o2⟩ => ?_
  exact (fits_l0 g hn 8 0 o.2.2.2.2.2 _ _ _ _ _ (by omega) (R.go o1 (by omega)) (by omega) ho).mono fun r hr => ⟨hr.1, by have := hr.2.1; omega, by have := hr.2.2; omega⟩
theorem ops_l0 {b : List Int} (d : Nat) : ∀ (i n : Nat) (out : List S103) (p : Int) (s : List Sl) (m : List Vo), n + d ≤ 900 → out.length ≤ i → i + d ≤ 900 → Rdr b p → p + 300 * d ≤ 800000 → GP n s m →
    Tot (fun k => spec_l71Ops.l0 k ((i + d : Nat) : Int) out (i : Int) b p s m) (fun r => GP (n + d) r.2.1 r.2.2.1 ∧ p ≤ r.2.2.2 ∧ r.2.2.2 ≤ p + 300 * d) := by
  induction d with
  | zero =>
    intro i n out p s m hn ho hi R hp g
    refine Tot.shift ?_
    simp only [spec_l71Ops.l0]
    exact Tot.neg (by omega) (Tot.now ⟨g, by simp only []; omega, by simp only []; omega⟩)
  | succ d ih =>
    intro i n out p s m hn ho hi R hp g
    refine Tot.shift ?_
    simp only [spec_l71Ops.l0]
    rw [w64 (x := (i : Int) + 1) (by omega) (by omega)]
    refine Tot.pos (by omega) (Tot.bind (fits_tot g (by omega) R (by omega)) fun o ⟨ho2, o1, o2⟩ => Tot.bindE (l11Copy_tot g (by omega)) (Tot.bind (l12Do_tot g (by omega) _ _ _ _ (by have := ho2.2.2; omega)) fun r hr => Tot.bindE (spec_OpOk_tot _ _ _ _ _ (by have := ho2.2.2; omega)) ?_))
    have e1 : i + (d + 1) = (i + 1) + d := by omega
    have e2 : n + (d + 1) = (n + 1) + d := by omega
    have go : ∀ (out : List S103) (s : List Sl) (m : List Vo), out.length ≤ i + 1 → GP (n + 1) s m → Tot (fun k => spec_l71Ops.l0 k ((i + (d + 1) : Nat) : Int) out ((i : Int) + 1) b o.2.2.2.2.2 s m) (fun r => GP (n + (d + 1)) r.2.1 r.2.2.1 ∧ p ≤ r.2.2.2 ∧ r.2.2.2 ≤ p + 300 * ((d + 1 : Nat) : Int)) := by
      intro out s m hl g
      rw [e1, e2]
      exact (ih (i + 1) (n + 1) out o.2.2.2.2.2 s m (by omega) hl (by omega) (R.go o1 (by omega)) (by omega) g).mono fun r ⟨h1, h2, h3⟩ => ⟨h1, by omega, by omega⟩
    exact Tot.ite (fun _ => Tot.ite (fun _ => Tot.pos (by omega) (go _ _ _ (by simp; omega) hr)) (fun _ => go _ _ _ (by omega) (g.le (by omega)))) (fun _ => go _ _ _ (by omega) (g.le (by omega)))
theorem ops_tot {b : List Int} {p : Int} (R : Rdr b p) (hp : p ≤ 1000) {n : Int} (h0 : 0 ≤ n) (h1 : n ≤ 100) : Tot (fun k => spec_l71Ops.f k b p n) (fun r => GP 100 r.2.1 r.2.2.1 ∧ p ≤ r.2.2.2 ∧ r.2.2.2 ≤ p + 30000) := by
  unfold spec_l71Ops.f spec_PoolNew.f spec_StoreNew.f
  obtain ⟨d, rfl⟩ := Int.eq_ofNat_of_zero_le h0
  refine Tot.bindN rfl ?_
  have := ops_l0 (b := b) d 0 0 [] p (List.replicate 8 z55) [] (by omega) (by simp) (by omega) R (by omega) ⟨new_mild, by simp, fun v hv => by cases hv⟩
  rw [Nat.zero_add] at this
  exact this.mono fun r ⟨h1, h2, h3⟩ => ⟨h1.le (by omega), h2, by omega⟩
/-- A pool as one may be drawn, in the end: a block may be anything up to 9. -/
def GV9 (v : Vo) : Prop := v.f0.size ≤ 100 ∧ 1 ≤ v.f1.length ∧ v.f1.length ≤ 6 ∧ ∀ x ∈ v.f1, 0 ≤ x ∧ x ≤ 10
def GP9 (s : List Sl) (m : List Vo) : Prop := Mild s ∧ m.length ≤ 200 ∧ ∀ v ∈ m, GV9 v
theorem GV.nine {v : Vo} (g : GV v) : GV9 v := ⟨g.1, g.2.1, g.2.2.1, fun x hx => by have := g.2.2.2 x hx; omega⟩
theorem GP.nine {n : Nat} {s : List Sl} {m : List Vo} (g : GP n s m) (h : n ≤ 200) : GP9 s m := ⟨g.1, by have := g.2.1; omega, fun v hv => (g.2.2 v hv).nine⟩
theorem GP9.at {s : List Sl} {m : List Vo} (g : GP9 s m) {i : Int} (h0 : 0 ≤ i) (h1 : i < m.length) : GV9 (rd_T38 m i) := g.2.2 _ (atV_mem (i := i.toNat) (by omega))
theorem GV9.set {v : Vo} (g : GV9 v) (i : Nat) {x : Int} (h0 : 0 ≤ x) (h8 : x ≤ 10) : GV9 ⟨v.f0, v.f1.set i x⟩ := by
  refine ⟨g.1, by simpa using g.2.1, by simpa using g.2.2.1, fun y hy => ?_⟩
  rcases List.mem_or_eq_of_mem_set hy with h | h
  · exact g.2.2.2 y h
  · rw [h]; exact ⟨h0, h8⟩
theorem GP9.set {s : List Sl} {m : List Vo} (g : GP9 s m) (i : Nat) {v : Vo} (h : GV9 v) : GP9 s (m.set i v) := by
  refine ⟨g.1, by simpa using g.2.1, fun y hy => ?_⟩
  rcases List.mem_or_eq_of_mem_set hy with h2 | h2
  · exact g.2.2 y h2
  · rw [h2]; exact h
theorem Mild.small {s : List Sl} (m : Mild s) : Small s := ⟨by rw [m.1]; omega, fun x hx => by have := m.2 x hx; omega⟩
theorem GP9.small {s : List Sl} {m : List Vo} (g : GP9 s m) : SmallV m := ⟨by have := g.2.1; omega, fun v hv => ⟨by have := (g.2.2 v hv).1; omega, by have := (g.2.2 v hv).2.2.1; omega⟩⟩
theorem l71Pool_tot {b : List Int} {p : Int} (R : Rdr b p) (hp : p ≤ 900) : Tot (fun k => spec_l71Pool.f k b p) (fun r => GP9 r.1 r.2.1 ∧ p ≤ r.2.2 ∧ r.2.2 ≤ p + 40000) := by
  unfold spec_l71Pool.f
  refine Tot.bind (pick_tot R) fun a ⟨ha, ha2⟩ => ?_
  have a2 := ha2 (by omega)
  rw [w64 (x := 3 + a.1) (by omega) (by omega)]
  refine Tot.bind (ops_tot (R.go (q := a.2) (by omega) (by omega)) (by omega) (by omega) (by omega)) fun o ⟨g, o1, o2⟩ => Tot.bind (pick_tot (R.go (q := o.2.2.2) (by omega) (by omega))) fun c ⟨hc, _⟩ => ?_
  have gn : GP9 o.2.1 o.2.2.1 := g.nine (by omega)
  have h8 := g.1.1
  refine Tot.ite (fun _ => ?_) (fun _ => Tot.ite (fun _ => Tot.ite (fun hl => ?_) (fun _ => Tot.now ⟨gn, by simp only []; omega, by simp only []; omega⟩)) (fun _ => Tot.ite (fun _ => ?_) (fun _ => Tot.now ⟨gn, by simp only []; omega, by simp only []; omega⟩)))
  · refine Tot.bind (pick_tot (R.go (q := c.2) (by omega) (by omega))) fun x ⟨hx, hx2⟩ => Tot.bind (pick_tot (R.go (q := x.2) (by omega) (by omega))) fun y ⟨hy, _⟩ => ?_
    have x2 := hx2 (by omega)
    exact Tot.pos x2.1 (Tot.pos x2.2 (Tot.now ⟨⟨g.1.set _ (g.1.at (i := x.1.toNat) (by omega)), gn.2⟩, by simp only []; omega, by simp only []; omega⟩))
  · refine Tot.bind (pick_tot (R.go (q := c.2) (by omega) (by omega))) fun x ⟨hx, hx2⟩ => ?_
    have x2 := hx2 (by omega)
    refine Tot.pos x2.1 (Tot.pos x2.2 (Tot.bind (pick_tot (R.go (q := x.2) (by omega) (by omega))) fun y ⟨hy, hy2⟩ => ?_))
    have y2 := hy2 (by omega)
    have gv := gn.at x2.1 x2.2
    exact Tot.pos (by have := gv.2.1; omega) (Tot.now ⟨gn.set _ (gv.set _ y2.1 (by omega)), by simp only []; omega, by simp only []; omega⟩)
  · refine Tot.pos (by have := g.2.1; omega) (Tot.now ⟨⟨g.1, ?_, fun v hv => ?_⟩, by simp only []; omega, by simp only []; omega⟩)
    · show (o.2.2.1 ++ _).length ≤ 200
      rw [List.length_append, List.length_singleton]
      have := g.2.1
      omega
    · rcases List.mem_append.1 hv with h | h
      · exact gn.2.2 v h
      · rw [List.mem_singleton.1 h]
        refine ⟨by decide, by decide, by decide, fun x hx => ?_⟩
        have : x = 0 := by simpa using hx
        omega
/-- A drawn disk: short, few blocks, small numbers. -/
def DV (v : ByteArray × List Int) : Prop := v.1.size ≤ 100 ∧ v.2.length ≤ 6 ∧ ∀ x ∈ v.2, -1 ≤ x ∧ x ≤ 10
theorem drawVol_j0 {b : List Int} {p : Int} {nm : ByteArray} {bl : List Int} (R : Rdr b p) (hp : p ≤ 900000) (hn : nm.size ≤ 100) (h1 : 1 ≤ bl.length) (h6 : bl.length ≤ 6) (hx : ∀ x ∈ bl, -1 ≤ x ∧ x ≤ 10) : Tot (fun k => spec_DrawVolOk.j0 k b p nm bl) DV := by
  refine Tot.shift ?_
  simp only [spec_DrawVolOk.j0]
  refine Tot.bind (pick_tot R) fun a ⟨ha, _⟩ => Tot.ite (fun _ => Tot.bind (of_tot (R.go (q := a.2) (by omega) (by omega)) (by decide)) fun c ⟨_, hc⟩ => Tot.now ⟨?_, h6, hx⟩) (fun _ => Tot.ite (fun _ => ?_) (fun _ => Tot.ite (fun _ => Tot.pos (by omega) (Tot.now ⟨hn, ?_, ?_⟩)) (fun _ => Tot.now ⟨hn, h6, hx⟩)))
  · have : ∀ t ∈ ([(⟨#[]⟩ : ByteArray), (⟨#[69]⟩ : ByteArray), (⟨#[98]⟩ : ByteArray), (⟨#[65, 66]⟩ : ByteArray)] : List ByteArray), t.size ≤ 100 := by
      intro t ht
      simp only [List.mem_cons, List.not_mem_nil, or_false] at ht
      rcases ht with rfl | rfl | rfl | rfl <;> decide
    exact this _ hc
  · refine Tot.bind (pick_tot (R.go (q := a.2) (by omega) (by omega))) fun c ⟨hc, hc2⟩ => Tot.bind (pick_tot (R.go (q := c.2) (by omega) (by omega))) fun d ⟨_, hd2⟩ => ?_
    have c2 := hc2 (by omega)
    have d2 := hd2 (by omega)
    rw [w64 (x := d.1 - 1) (by omega) (by omega)]
    refine Tot.pos c2.1 (Tot.pos c2.2 (Tot.now ⟨hn, by show (bl.set _ _).length ≤ 6; rw [List.length_set]; exact h6, fun x hm => ?_⟩))
    rcases List.mem_or_eq_of_mem_set hm with h | h
    · exact hx x h
    · rw [h]; omega
  · show (bl.drop _).length ≤ 6
    rw [List.length_drop]; omega
  · intro x hm
    exact hx x (List.mem_of_mem_drop hm)
theorem drawVol_tot (l : List Int) (h8 : ∀ x ∈ l, (Lit.int .u8 x).wf = true) : Tot (fun k => spec_DrawVolOk.f k l) DV := by
  unfold spec_DrawVolOk.f
  obtain ⟨v, hv, R, h0⟩ := l6Open_tot l h8
  refine Tot.bindN hv (Tot.bind (l71Pool_tot R (by omega)) fun r hr => Tot.ite (fun hl => Tot.bind (pick_tot (R.go (q := r.2.2) (by omega) (by omega))) fun a ⟨ha, ha2⟩ => ?_) (fun _ => ?_))
  · have a2 := ha2 (by omega)
    have gv := hr.1.at (i := a.1) a2.1 a2.2
    exact Tot.pos a2.1 (Tot.pos a2.2 (drawVol_j0 (R.go (q := a.2) (by omega) (by omega)) (by omega) gv.1 gv.2.1 gv.2.2.1 fun x hx => by have := gv.2.2.2 x hx; omega))
  · refine drawVol_j0 (R.go (q := r.2.2) (by omega) (by omega)) (by omega) (by decide) (by decide) (by decide) fun x hx => ?_
    simp only [List.mem_cons, List.not_mem_nil, or_false] at hx
    rcases hx with rfl | rfl | rfl <;> omega
theorem drawVolU_tot (l : List Int) (h8 : ∀ x ∈ l, (Lit.int .u8 x).wf = true) : Tot (fun k => spec_DrawVolUses.f k l) (fun r => DV (r.1, r.2.1)) := by
  unfold spec_DrawVolUses.f
  obtain ⟨v, hv, R, h0⟩ := l6Open_tot l h8
  refine Tot.bindN hv (Tot.bind (drawVol_tot l h8) fun w hw => ?_)
  have last : ∀ (i q : Int), 0 ≤ q → q ≤ 900000 → Tot (fun k => spec_DrawVolUses.j1 k i false v.1 q w.1 w.2) (fun r => DV (r.1, r.2.1)) := by
    intro i q h1 h2
    refine Tot.shift ?_
    simp only [spec_DrawVolUses.j1]
    exact Tot.neg (by simp) (Tot.bind (pick_tot (R.go (q := q) (by omega) (by omega))) fun c _ => Tot.now hw)
  have loop : ∀ (d i : Nat) (q : Int), i + d = 6 → 0 ≤ q → q + 10 * d ≤ 900000 → Tot (fun k => spec_DrawVolUses.l0 k (i : Int) v.1 q w.1 w.2) (fun r => DV (r.1, r.2.1)) := by
    intro d
    induction d with
    | zero =>
      intro i q hi h1 h2
      refine Tot.shift ?_
      simp only [spec_DrawVolUses.l0]
      exact Tot.neg (by omega) (last _ _ h1 (by omega))
    | succ d ih =>
      intro i q hi h1 h2
      refine Tot.shift ?_
      simp only [spec_DrawVolUses.l0]
      refine Tot.pos (by omega) (Tot.ite (fun hl => Tot.bind (pick_tot (R.go (q := q) (by omega) (by omega))) fun c ⟨hc, _⟩ => ?_) (fun _ => last _ _ h1 (by omega)))
      cases decide (c.1 > 0) with
      | false => exact last _ _ (by omega) (by omega)
      | true =>
        refine Tot.shift ?_
        simp only [spec_DrawVolUses.j1]
        refine Tot.pos (by trivial) (Tot.bind (pick_tot (R.go (q := c.2) (by omega) (by omega))) fun e ⟨he, he2⟩ => ?_)
        have e2 := he2 (by omega)
        refine Tot.pos e2.1 (Tot.pos e2.2 (Tot.ite (fun _ => Tot.now hw) (fun _ => ?_)))
        rw [w64 (x := (i : Int) + 1) (by omega) (by omega)]
        exact ih (i + 1) e.2 (by omega) (by omega) (by omega)
  rw [h0]
  exact loop 6 0 0 (by omega) (by omega) (by omega)
theorem volOk_parts {nm : ByteArray} {b : List Int} (h : volOk nm b = true) : b.all blk = true ∧ isName nm = true ∧ 1 ≤ (b.length : Int) ∧ (b.length : Int) ≤ 6 := by
  unfold volOk at h
  rw [Bool.and_eq_true, Bool.and_eq_true, Bool.and_eq_true, decide_eq_true_eq, decide_eq_true_eq] at h
  exact ⟨h.1, h.2.1, h.2.2.1, h.2.2.2⟩
theorem cnt_snoc (x : Int) (b : List Int) (p : Int) : cnt (b ++ [x]) p = cnt b p + if x = p then 1 else 0 := by
  unfold cnt
  rw [List.countP_append, List.countP_singleton]
  by_cases e : x = p
  · rw [if_pos (by simp [e]), if_pos e]; omega
  · rw [if_neg (by simp [e]), if_neg e]; omega
theorem volOk_snoc {nm : ByteArray} {b : List Int} (h : volOk nm b = true) (h5 : (b.length : Int) ≤ 5) {x : Int} (h0 : 0 ≤ x) (h8 : x ≤ 8) : volOk nm (b ++ [x]) = true := by
  obtain ⟨h1, h2, h3, h4⟩ := volOk_parts h
  unfold volOk
  rw [List.length_append, List.length_singleton, h2, decide_eq_true (show 1 ≤ ((b.length + 1 : Nat) : Int) by omega), decide_eq_true (show ((b.length + 1 : Nat) : Int) ≤ 6 by omega), List.all_append, h1]
  unfold blk
  simp [h0, h8]
theorem FnVolCount (l0 : List Int) (l1 : List Int) (_ : l0.length ≤ maxLen) (_ : l0.length * 1 ≤ 140737488351232) (h8 : ∀ x ∈ l0, (Lit.int .u8 x).wf = true) (_ : l1.length ≤ maxLen) (_ : l1.length * 1 ≤ 140737488351232) (_ : ∀ x ∈ l1, (Lit.int .u8 x).wf = true) : ∃ k, laws_FnVolCount.f k l0 l1 = some true := by
  refine Tot.rounds ?_
  have yes : Tot (fun k => laws_FnVolCount.j0 k l0 l1 true) (fun r => r = true) := by
    refine Tot.shift ?_
    simp only [laws_FnVolCount.j0]
    exact Tot.pos (by trivial) (Tot.now rfl)
  unfold laws_FnVolCount.f
  refine Tot.ite (fun _ => yes) (fun _ => ?_)
  cases decide ((l1.length : Int) > 1048576) with
  | true => exact yes
  | false =>
    refine Tot.shift ?_
    simp only [laws_FnVolCount.j0]
    refine Tot.neg (by simp) (Tot.bind (drawVolU_tot l0 h8) fun p g => ?_)
    obtain ⟨nm, b, q⟩ := p
    obtain ⟨gn, g6, gx⟩ := g
    simp only [] at gn g6 gx ⊢
    have hb : b.length ≤ 1048576 := by omega
    have same : Tot (fun k => laws_FnVolCount.j1 k l1 q (volUses nm b q) true nm b) (fun r => r = true) := by
      refine Tot.shift ?_
      simp only [laws_FnVolCount.j1]
      exact Tot.pos (by trivial) (Tot.bindE (spec_VolUses_tot nm b q hb) (Tot.now (by simp)))
    refine Tot.bindE (impl_VolUses_tot nm b q hb) (Tot.bindE (spec_VolUses_tot nm b q hb) (Tot.pos rfl (Tot.bindE (spec_VolOk_tot nm b hb) (Tot.ite (fun h => ?_) (fun _ => same)))))
    by_cases l6 : (b.length : Int) = 6
    · rw [show ((b.length : Int) == 6) = true from beq_iff_eq.2 l6]
      exact same
    · rw [show ((b.length : Int) == 6) = false from beq_eq_false_iff_ne.2 l6]
      refine Tot.shift ?_
      simp only [laws_FnVolCount.j1]
      have a0 : 1 ≤ 1 + (l1.length : Int) % 8 := by omega
      have a1 : 1 + (l1.length : Int) % 8 ≤ 8 := by omega
      generalize 1 + (l1.length : Int) % 8 = a at a0 a1 ⊢
      have ok2 := volOk_snoc h (by omega) (x := a) (by omega) a1
      have hb2 : (b ++ [a]).length ≤ 1048576 := by rw [List.length_append, List.length_singleton]; omega
      have use : ∀ c, volOk nm c = true → ∀ i : Int, 1 ≤ i → i ≤ 8 → volUses nm c i = cnt c i := fun c hc i i1 i8 => by
        unfold volUses
        rw [if_pos hc, if_pos (by simp; omega)]
      have loop : ∀ (d : Nat) (i : Int), i + d = 9 → 1 ≤ i → Tot (fun k => laws_FnVolCount.l0 k a i nm b nm (b ++ [a])) (fun r => r = true) := by
        intro d
        induction d with
        | zero =>
          intro i hi i1
          refine Tot.shift ?_
          simp only [laws_FnVolCount.l0]
          exact Tot.neg (by omega) (Tot.now rfl)
        | succ d ih =>
          intro i hi i1
          refine Tot.shift ?_
          simp only [laws_FnVolCount.l0]
          have c := cnt_le b i
          have step : ∀ o : Int, o = (if a = i then 1 else 0) → Tot (fun k => laws_FnVolCount.j3 k a i o nm b nm (b ++ [a])) (fun r => r = true) := by
            intro o ho
            have o1 : 0 ≤ o ∧ o ≤ 1 := by rw [ho]; split <;> omega
            refine Tot.shift ?_
            simp only [laws_FnVolCount.j3]
            refine Tot.bindE (impl_VolUses_tot nm _ i hb2) (Tot.bindE (impl_VolUses_tot nm b i hb) ?_)
            rw [use _ ok2 i i1 (by omega), use _ h i i1 (by omega), w64 (x := cnt b i + o) (by omega) (by omega), w64 (x := i + 1) (by omega) (by omega), cnt_snoc, ← ho]
            exact Tot.pos rfl (ih (i + 1) (by omega) (by omega))
          exact Tot.pos (by omega) (Tot.ite (fun e => step 1 (by rw [if_pos e.symm])) (fun e => step 0 (by rw [if_neg fun e2 => e e2.symm])))
      have e1 : ([] : List Int) ++ b = b := rfl
      refine Tot.neg (by simp) (Tot.bindN rfl (Tot.pos (by show 0 + b.length < _; omega) (Tot.bindN rfl (Tot.bindN rfl (Tot.pos (by rw [e1]; show b.length + 1 < _; omega) ?_)))))
      rw [e1]
      exact loop 8 1 (by omega) (by omega)
end Go.Proofs.Ytooamacekmjpaaa.Pure
