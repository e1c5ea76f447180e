/- StoreDrop of the program gives what StoreDrop of the reference gives, for every slice of slots and every place; its result is memory of its own, and its argument stays. -/
import Derived.Test.YtjdkccpcgmgmmaaQFnExactStoreDrop6
import Derived.Test.YtjdkccpcgmgmmaaU2
set_option linter.unusedVariables false
set_option linter.unusedSimpArgs false
namespace Go.Proofs.Ytjdkccpcgmgmmaa.Pure
open Go.RowKit Go.Proofs.Ytjdkccpcgmgmmaa.PFnExactStoreDrop Go.Proofs.YtjdkccpcgmgmmaaW.PrintWords Go.Proofs.YtjdkccpcgmgmmaaW.PrintLast Go.Proofs.YtjdkccpcgmgmmaaU
/-! ### pieces -/
theorem spec_l6In_eq (a b c : Int) : spec_l6In.f a b c = some (decide (b ≤ a) && decide (a ≤ c)) := by
  unfold spec_l6In.f
  by_cases h : a ≥ b
  · rw [if_pos h]; simp [show b ≤ a from h]
  · rw [if_neg h]; simp [show ¬ b ≤ a from h]
theorem impl_within_eq (a b c : Int) : impl_within.f a b c = some (decide (b ≤ a) && decide (a ≤ c)) := by
  unfold impl_within.f
  by_cases h : a ≥ b
  · rw [if_pos h]; simp [show b ≤ a from h]
  · rw [if_neg h]; simp [show ¬ b ≤ a from h]
theorem spec_TextOk_l0 (s : ByteArray) (hs : s.size ≤ 140737488355328) (d : Nat) : ∀ i : Nat, i + d = s.size → Tot (fun k => spec_TextOk.l0 k s (i : Int)) (fun r => r = (((bytesOf s).drop i).all okc && decide ((s.size : Int) ≤ 4))) := by
  induction d with
  | zero =>
    intro i hi
    refine Tot.shift ?_
    simp only [spec_TextOk.l0]
    refine Tot.neg (by omega) (Tot.now ?_)
    rw [List.drop_of_length_le (by rw [bytesOf_length]; omega)]
    simp
  | succ d ih =>
    intro i hi
    refine Tot.shift ?_
    simp only [spec_TextOk.l0]
    refine Tot.pos (by omega) (Tot.pos (by omega) (Tot.bindN (spec_l6In_eq _ _ _) ?_))
    rw [w64_bt, w64 (x := (i : Int) + 1) (by omega) (by omega), drop_at s i (by omega), List.all_cons]
    have e : okc (bt s i) = (decide (97 ≤ bt s i) && decide (bt s i ≤ 100)) := rfl
    refine Tot.ite (fun h => ?_) (fun h => Tot.now ?_)
    · rw [e, h, Bool.true_and]; exact ih (i + 1) (by omega)
    · rw [e, Bool.eq_false_iff.2 h]; simp
theorem spec_TextOk_tot (s : ByteArray) (hs : s.size ≤ 140737488355328) : Tot (fun k => spec_TextOk.f k s) (fun r => r = textOk s) := by
  unfold spec_TextOk.f
  exact spec_TextOk_l0 s hs s.size 0 (by omega)
theorem impl_TextOk_l0 (s : ByteArray) (hs : s.size ≤ 140737488355328) (d : Nat) : ∀ i : Nat, i + d = s.size → Tot (fun k => impl_TextOk.l0 k s (s.size : Int) (i : Int)) (fun r => r = (((bytesOf s).drop i).all okc && decide ((s.size : Int) ≤ 4))) := by
  induction d with
  | zero =>
    intro i hi
    refine Tot.shift ?_
    simp only [impl_TextOk.l0]
    refine Tot.neg (by omega) (Tot.now ?_)
    rw [List.drop_of_length_le (by rw [bytesOf_length]; omega)]
    simp
  | succ d ih =>
    intro i hi
    refine Tot.shift ?_
    simp only [impl_TextOk.l0]
    refine Tot.pos (by omega) (Tot.pos (by omega) (Tot.pos (by omega) (Tot.bindN (impl_within_eq _ _ _) ?_)))
    rw [w64_bt, w64 (x := (i : Int) + 1) (by omega) (by omega), drop_at s i (by omega), List.all_cons]
    have e : okc (bt s i) = (decide (97 ≤ bt s i) && decide (bt s i ≤ 100)) := rfl
    refine Tot.ite (fun h => ?_) (fun h => Tot.now ?_)
    · rw [e, h, Bool.true_and]; exact ih (i + 1) (by omega)
    · rw [e, Bool.eq_false_iff.2 h]; simp
theorem impl_TextOk_tot (s : ByteArray) (hs : s.size ≤ 140737488355328) : Tot (fun k => impl_TextOk.f k s) (fun r => r = textOk s) := by
  unfold impl_TextOk.f
  exact impl_TextOk_l0 s hs s.size 0 (by omega)
/-! ### slots -/
abbrev Sl := S36
theorem sl_ext {a b : Sl} (h : a.f0 = b.f0) (h' : a.f1 = b.f1) : a = b := by
  cases a; cases b; simp_all
/-- The slot at a place. -/
def at_ (s : List Sl) (i : Nat) : Sl := s.getD i z36
theorem rd_at (s : List Sl) (i : Nat) : rd_T36 s (i : Int) = at_ s i := rfl
theorem rd_at' (s : List Sl) (i : Int) : rd_T36 s i = at_ s i.toNat := rfl
theorem at_mem {s : List Sl} {i : Nat} (h : i < s.length) : at_ s i ∈ s := by
  unfold at_
  rw [List.getD_eq_getElem?_getD, List.getElem?_eq_getElem h]
  exact List.getElem_mem h
theorem at_get {s : List Sl} {i : Nat} (h : i < s.length) : at_ s i = s[i] := by
  unfold at_
  rw [List.getD_eq_getElem?_getD, List.getElem?_eq_getElem h]
  rfl
theorem at_set {s : List Sl} {i j : Nat} {x : Sl} (h : i < s.length) : at_ (s.set i x) j = if i = j then x else at_ s j := by
  unfold at_
  rw [List.getD_eq_getElem?_getD, List.getD_eq_getElem?_getD, List.getElem?_set]
  by_cases e : i = j
  · rw [if_pos e, if_pos e]; subst e; simp [h]
  · rw [if_neg e, if_neg e]
theorem list_ext {a b : List Sl} (hl : a.length = b.length) (h : ∀ i, i < a.length → at_ a i = at_ b i) : a = b := by
  refine List.ext_getElem hl fun i h1 h2 => ?_
  rw [← at_get h1, ← at_get h2]
  exact h i h1
/-- Small texts, few slots. -/
def Small (s : List Sl) : Prop := s.length ≤ 1048576 ∧ ∀ x ∈ s, x.f0.size ≤ 1048576
theorem Small.at {s : List Sl} (h : Small s) {i : Nat} (hi : i < s.length) : (at_ s i).f0.size ≤ 1048576 := h.2 _ (at_mem hi)
theorem empty_iff (s : ByteArray) : empty s = true ↔ s.size = 0 := by
  unfold empty
  rw [ByteArray.toList_eq, ← data_length]
  constructor
  · intro h; rw [beq_iff_eq.1 h]; rfl
  · intro h; rw [List.eq_nil_of_length_eq_zero h]; rfl
theorem beq_text (a b : ByteArray) : (a.toList == b.toList) = decide (a = b) := by
  by_cases h : a = b
  · subst h; simp
  · rw [decide_eq_false h]
    exact beq_eq_false_iff_ne.2 fun e => h (toList_inj.1 e)
/-! ### a store that is valid -/
/-- Slot i is as it must be beside the slots ahead of it. -/
def slotOk (s : List Sl) (i : Nat) : Bool :=
  textOk (at_ s i).f0 && (decide (0 ≤ (at_ s i).f1) && decide ((at_ s i).f1 ≤ 99)) && (empty (at_ s i).f0 == ((at_ s i).f1 == 0)) && (empty (at_ s i).f0 || !((s.take i).any fun o => o.f0.toList == (at_ s i).f0.toList))
def storeFrom (s : List Sl) : Nat → Nat → Bool
  | 0, _ => ((s.length : Int) == 8)
  | d + 1, i => slotOk s i && storeFrom s d (i + 1)
def storeOk (s : List Sl) : Bool := storeFrom s s.length 0
theorem take_any (s : List Sl) (i : Nat) (h : i < s.length) (p : Sl → Bool) : (s.take (i + 1)).any p = ((s.take i).any p || p (at_ s i)) := by
  rw [List.take_succ_eq_append_getElem h, List.any_append, at_get h]
  simp
theorem storeFrom_all (s : List Sl) : ∀ d i, i + d = s.length → storeFrom s d i = true → s.length = 8 ∧ ∀ j, i ≤ j → j < s.length → slotOk s j = true := by
  intro d
  induction d with
  | zero =>
    intro i hi h
    simp only [storeFrom, beq_iff_eq] at h
    exact ⟨by omega, fun j h1 h2 => by omega⟩
  | succ d ih =>
    intro i hi h
    simp only [storeFrom, Bool.and_eq_true] at h
    obtain ⟨h8, hr⟩ := ih (i + 1) (by omega) h.2
    refine ⟨h8, fun j h1 h2 => ?_⟩
    by_cases e : i = j
    · subst e; exact h.1
    · exact hr j (by omega) h2
theorem storeFrom_of (s : List Sl) (h8 : s.length = 8) : ∀ d i, i + d = s.length → (∀ j, i ≤ j → j < s.length → slotOk s j = true) → storeFrom s d i = true := by
  intro d
  induction d with
  | zero => intro i hi h; simp only [storeFrom, h8]; rfl
  | succ d ih =>
    intro i hi h
    simp only [storeFrom, Bool.and_eq_true]
    exact ⟨h i (Nat.le_refl _) (by omega), ih (i + 1) (by omega) fun j h1 h2 => h j (by omega) h2⟩
/-- What a valid store is, slot by slot. -/
structure Valid (s : List Sl) : Prop where
  len : s.length = 8
  text : ∀ i, i < 8 → textOk (at_ s i).f0 = true
  uses : ∀ i, i < 8 → 0 ≤ (at_ s i).f1 ∧ (at_ s i).f1 ≤ 99
  free : ∀ i, i < 8 → (empty (at_ s i).f0 = true ↔ (at_ s i).f1 = 0)
  once : ∀ i j, i < 8 → j < 8 → i ≠ j → empty (at_ s i).f0 = false → (at_ s i).f0 ≠ (at_ s j).f0
theorem valid_of {s : List Sl} (h : storeOk s = true) : Valid s := by
  obtain ⟨h8, ha⟩ := storeFrom_all s s.length 0 (by omega) h
  have each : ∀ i, i < 8 → slotOk s i = true := fun i hi => ha i (Nat.zero_le _) (by omega)
  have parts : ∀ i, i < 8 → textOk (at_ s i).f0 = true ∧ (0 ≤ (at_ s i).f1 ∧ (at_ s i).f1 ≤ 99) ∧ (empty (at_ s i).f0 == ((at_ s i).f1 == 0)) = true ∧ (empty (at_ s i).f0 = true ∨ ((s.take i).any fun o => o.f0.toList == (at_ s i).f0.toList) = false) := by
    intro i hi
    have := each i hi
    unfold slotOk at this
    rw [Bool.and_eq_true, Bool.and_eq_true, Bool.and_eq_true, Bool.and_eq_true, Bool.or_eq_true, Bool.not_eq_true', decide_eq_true_eq, decide_eq_true_eq] at this
    exact ⟨this.1.1.1, this.1.1.2, this.1.2, this.2⟩
  have lt : ∀ i j, i < 8 → j < i → empty (at_ s i).f0 = false → (at_ s i).f0 ≠ (at_ s j).f0 := by
    intro i j hi hj he hEq
    rcases (parts i hi).2.2.2 with h | h
    · rw [h] at he; cases he
    · have := List.any_eq_false.1 h (at_ s j) (by
        have hl : j < (s.take i).length := by rw [List.length_take]; omega
        have e : (s.take i)[j] = at_ s j := by rw [List.getElem_take, at_get (by omega)]
        rw [← e]; exact List.getElem_mem hl)
      apply this
      simp [hEq]
  refine ⟨h8, fun i hi => (parts i hi).1, fun i hi => (parts i hi).2.1, fun i hi => ?_, fun i j hi hj hne he hEq => ?_⟩
  · have := beq_iff_eq.1 (parts i hi).2.2.1
    rw [this]; simp
  · rcases Nat.lt_or_gt_of_ne hne with h | h
    · have he2 : empty (at_ s j).f0 = false := by rw [← hEq]; exact he
      exact lt j i hj h he2 hEq.symm
    · exact lt i j hi h he hEq
theorem of_valid {s : List Sl} (v : Valid s) : storeOk s = true := by
  refine storeFrom_of s v.len s.length 0 (by omega) fun i _ hi => ?_
  rw [v.len] at hi
  unfold slotOk
  have hu := v.uses i hi
  have hf : (empty (at_ s i).f0 == ((at_ s i).f1 == 0)) = true := by
    rw [beq_iff_eq, Bool.eq_iff_iff, v.free i hi]; simp
  rw [v.text i hi, decide_eq_true hu.1, decide_eq_true hu.2, hf]
  simp only [Bool.true_and, Bool.and_true]
  cases he : empty (at_ s i).f0 with
  | true => rfl
  | false =>
    rw [Bool.false_or, Bool.not_eq_true', List.any_eq_false]
    intro o ho
    obtain ⟨j, hj, e⟩ := List.getElem_of_mem ho
    rw [List.length_take] at hj
    rw [List.getElem_take] at e
    have hj8 : j < 8 := by omega
    have hne := v.once i j hi hj8 (by omega) he
    rw [at_get (i := j) (by omega), e] at hne
    rw [beq_text]
    simpa using fun h => hne h.symm
theorem valid_small {s : List Sl} (v : Valid s) : Small s := by
  refine ⟨by rw [v.len]; omega, fun x hx => ?_⟩
  obtain ⟨i, hi, rfl⟩ := List.getElem_of_mem hx
  rw [v.len] at hi
  rw [← at_get]
  have := textOk_size (v.text i hi)
  omega
theorem spec_StoreOk_ (s : List Sl) (hs : Small s) (d : Nat) : ∀ i : Nat, i + d = s.length → Tot (fun k => spec_StoreOk.l0 k s (i : Int)) (fun r => r = storeFrom s d i) := by
  have hn := hs.1
  induction d with
  | zero =>
    intro i hi
    refine Tot.shift ?_
    simp only [spec_StoreOk.l0]
    exact Tot.neg (by omega) (Tot.now rfl)
  | succ d ih =>
    intro i hi
    have inner : ∀ (e : Nat), ∀ (j : Nat), j + e = i → (empty (at_ s i).f0 = true ∨ ((s.take j).any fun o => o.f0.toList == (at_ s i).f0.toList) = false) → Tot (fun k => spec_StoreOk.l1 k s (i : Int) (j : Int)) (fun r => r = ((empty (at_ s i).f0 || !((s.take i).any fun o => o.f0.toList == (at_ s i).f0.toList)) && storeFrom s d (i + 1))) := by
      intro e
      induction e with
      | zero =>
        intro j hj hno
        obtain rfl : j = i := by omega
        refine Tot.shift ?_
        simp only [spec_StoreOk.l1]
        refine Tot.neg (by omega) ?_
        rw [w64 (x := (j : Int) + 1) (by omega) (by omega)]
        refine (ih (j + 1) (by omega)).mono fun r hr => ?_
        rw [hr]
        rcases hno with h | h <;> rw [h] <;> simp
      | succ e ihe =>
        intro j hj hno
        refine Tot.shift ?_
        simp only [spec_StoreOk.l1, rd_at]
        refine Tot.pos (by omega) (Tot.pos (by omega) (Tot.pos (by omega) ?_))
        rw [w64 (x := (j : Int) + 1) (by omega) (by omega)]
        refine Tot.ite (fun he => ihe (j + 1) (by omega) (Or.inl (by simp [empty, he]))) (fun he => Tot.pos (by omega) (Tot.pos (by omega) (Tot.ite (fun hq => Tot.now ?_) (fun hq => ihe (j + 1) (by omega) ?_))))
        · have h1 : empty (at_ s i).f0 = false := by simp [empty, he]
          have h2 : ((s.take i).any fun o => o.f0.toList == (at_ s i).f0.toList) = true := by
            rw [List.any_eq_true]
            refine ⟨at_ s j, ?_, by simp [hq]⟩
            have hl : j < (s.take i).length := by rw [List.length_take]; omega
            have e2 : (s.take i)[j] = at_ s j := by rw [List.getElem_take, at_get (by omega)]
            rw [← e2]; exact List.getElem_mem hl
          rw [h1, h2]; rfl
        · right
          rw [take_any s j (by omega)]
          rcases hno with h | h
          · exfalso; apply he; simpa [empty] using h
          · rw [h, Bool.false_or]
            exact beq_eq_false_iff_ne.2 fun e => hq e.symm
    refine Tot.shift ?_
    simp only [spec_StoreOk.l0, rd_at]
    have hz := hs.at (i := i) (by omega)
    refine Tot.pos (by omega) (Tot.pos (by omega) (Tot.bindE (spec_TextOk_tot _ (by omega)) ?_))
    have bad : ∀ b : Bool, slotOk s i = false → b = true → Tot (fun k => spec_StoreOk.j1 k s (i : Int) b) (fun r => r = storeFrom s (d + 1) i) := by
      intro b hb hbt
      refine Tot.shift ?_
      simp only [spec_StoreOk.j1]
      refine Tot.pos hbt (Tot.now ?_)
      simp only [storeFrom, hb, Bool.false_and]
    refine Tot.ite (fun h1 => Tot.bindN (spec_l6In_eq _ _ _) (Tot.ite (fun h2 => ?_) (fun h2 => bad _ (by simp only [slotOk, Bool.eq_false_iff.2 h2]; simp) rfl))) (fun h1 => bad _ (by simp only [slotOk, Bool.eq_false_iff.2 h1]; simp) rfl)
    refine Tot.shift ?_
    simp only [spec_StoreOk.j1]
    refine Tot.ite (fun h3 => Tot.now ?_) (fun h3 => ?_)
    · have : (empty (at_ s i).f0 == ((at_ s i).f1 == 0)) = false := by
        rw [bne] at h3
        unfold empty
        cases hx : ((at_ s i).f0.toList == []) <;> cases hy : ((at_ s i).f1 == 0) <;> simp_all
      simp only [storeFrom, slotOk, this]; simp
    · have : (empty (at_ s i).f0 == ((at_ s i).f1 == 0)) = true := by
        rw [bne] at h3
        unfold empty
        cases hx : ((at_ s i).f0.toList == []) <;> cases hy : ((at_ s i).f1 == 0) <;> simp_all
      refine (inner i 0 (by omega) (Or.inr (by simp))).mono fun r hr => ?_
      rw [hr]
      simp only [storeFrom, slotOk, this, h1, h2]; simp
theorem spec_StoreOk_tot {s : List Sl} (hs : Small s) : Tot (fun k => spec_StoreOk.f k s) (fun r => r = storeOk s) := by
  unfold spec_StoreOk.f
  exact spec_StoreOk_ s hs s.length 0 (by omega)
theorem impl_StoreOk_ (s : List Sl) (hs : Small s) (d : Nat) : ∀ i : Nat, i + d = s.length → Tot (fun k => impl_StoreOk.l0 k s (i : Int)) (fun r => r = storeFrom s d i) := by
  have hn := hs.1
  induction d with
  | zero =>
    intro i hi
    refine Tot.shift ?_
    simp only [impl_StoreOk.l0]
    exact Tot.neg (by omega) (Tot.now rfl)
  | succ d ih =>
    intro i hi
    refine Tot.shift ?_
    simp only [impl_StoreOk.l0, rd_at, Int.toNat_natCast]
    have hz := hs.at (i := i) (by omega)
    rw [w64 (x := (i : Int) + 1) (by omega) (by omega)]
    refine Tot.pos (by omega) (Tot.pos (by omega) (Tot.bindE (impl_TextOk_tot _ (by omega)) ?_))
    refine Tot.ite (fun h1 => Tot.bindN (impl_within_eq _ _ _) (Tot.ite (fun h2 => ?_) (fun h2 => Tot.now ?_))) (fun h1 => Tot.now ?_)
    · refine Tot.ite (fun h3 => Tot.now ?_) (fun h3 => ?_)
      · have : (empty (at_ s i).f0 == ((at_ s i).f1 == 0)) = false := by
          rw [bne] at h3
          unfold empty
          cases hx : ((at_ s i).f0.toList == []) <;> cases hy : ((at_ s i).f1 == 0) <;> simp_all
        simp only [storeFrom, slotOk, this]; simp
      · have : (empty (at_ s i).f0 == ((at_ s i).f1 == 0)) = true := by
          rw [bne] at h3
          unfold empty
          cases hx : ((at_ s i).f0.toList == []) <;> cases hy : ((at_ s i).f1 == 0) <;> simp_all
        refine Tot.ite (fun h4 => (ih (i + 1) (by omega)).mono fun r hr => ?_) (fun h4 => Tot.ite (fun h5 => Tot.now ?_) (fun h5 => (ih (i + 1) (by omega)).mono fun r hr => ?_))
        · have h4' : empty (at_ s i).f0 = true := h4
          have hk : slotOk s i = true := by unfold slotOk; rw [h1, h2, this, h4']; rfl
          rw [hr]; simp only [storeFrom, hk, Bool.true_and]
        · have h4' : empty (at_ s i).f0 = false := Bool.eq_false_iff.2 h4
          simp only [storeFrom, slotOk, h5, h4']; simp
        · have hk : slotOk s i = true := by unfold slotOk; rw [h1, h2, this, Bool.eq_false_iff.2 h5]; simp
          rw [hr]; simp only [storeFrom, hk, Bool.true_and]
    · simp only [storeFrom, slotOk, Bool.eq_false_iff.2 h2]; simp
    · simp only [storeFrom, slotOk, Bool.eq_false_iff.2 h1]; simp
theorem impl_StoreOk_tot {s : List Sl} (hs : Small s) : Tot (fun k => impl_StoreOk.f k s) (fun r => r = storeOk s) := by
  unfold impl_StoreOk.f
  exact impl_StoreOk_ s hs s.length 0 (by omega)
/-! ### slots that came in, and copies of them -/
abbrev La := S65
def atL (s : List La) (i : Nat) : La := s.getD i z65
theorem rdL_at (s : List La) (i : Nat) : rd_T65 s (i : Int) = atL s i := rfl
def conv (x : La) : Sl := ⟨x.f0, x.f1⟩
theorem atL_get {s : List La} {i : Nat} (h : i < s.length) : atL s i = s[i] := by
  unfold atL
  rw [List.getD_eq_getElem?_getD, List.getElem?_eq_getElem h]
  rfl
theorem sz_l0 (s : List La) (hs : ∀ x ∈ s, x.f0.size ≤ maxLen) (hn : s.length ≤ 1048576) (d : Nat) : ∀ (i : Nat) (x : Int), i + d = s.length → 0 ≤ x → x ≤ 1048576 → Tot (fun k => laws_szSlotS.l0 k s x (i : Int)) (fun r => r ≤ x ∧ (r < 0 ∨ ∀ j, i ≤ j → j < s.length → (atL s j).f0.size ≤ 1048576)) := by
  induction d with
  | zero =>
    intro i x hi h0 h1
    refine Tot.shift ?_
    simp only [laws_szSlotS.l0]
    exact Tot.neg (by omega) (Tot.now ⟨Int.le_refl _, Or.inr fun j h2 h3 => by omega⟩)
  | succ d ih =>
    intro i x hi h0 h1
    refine Tot.shift ?_
    simp only [laws_szSlotS.l0, rdL_at]
    have hz : (atL s i).f0.size ≤ maxLen := hs _ (by rw [atL_get (by omega)]; exact List.getElem_mem _)
    unfold maxLen at hz
    refine Tot.pos (by omega) (Tot.pos (by omega) ?_)
    rw [w64 (x := (i : Int) + 1) (by omega) (by omega)]
    have e : laws_szSlot.f (atL s i).f0 (atL s i).f1 x = some (if x - (atL s i).f0.size < 0 then -1 else x - (atL s i).f0.size) := by
      unfold laws_szSlot.f
      rw [w64 (x := x - (atL s i).f0.size) (by omega) (by omega)]
      by_cases h : x - (atL s i).f0.size < 0
      · rw [if_pos h, if_pos h]
      · rw [if_neg h, if_neg h]
    refine Tot.bindN e ?_
    by_cases h : x - (atL s i).f0.size < 0
    · rw [if_pos h]
      exact Tot.pos (by omega) (Tot.now ⟨by omega, Or.inl (by omega)⟩)
    · rw [if_neg h]
      refine Tot.neg (by omega) ((ih (i + 1) _ (by omega) (by omega) (by omega)).mono fun r hr => ⟨by omega, ?_⟩)
      rcases hr.2 with h2 | h2
      · exact Or.inl h2
      · refine Or.inr fun j h3 h4 => ?_
        by_cases e : i = j
        · subst e; omega
        · exact h2 j (by omega) h4
theorem sz_tot (s : List La) (hs : ∀ x ∈ s, x.f0.size ≤ maxLen) (hn : s.length ≤ maxLen) (x : Int) (h0 : 0 ≤ x) (h1 : x ≤ 1048576) : Tot (fun k => laws_szSlotS.f k s x) (fun r => r ≤ 1048576 ∧ (r < 0 ∨ Small (s.map conv))) := by
  unfold maxLen at hn
  unfold laws_szSlotS.f
  rw [w64 (x := x - s.length) (by omega) (by omega)]
  refine Tot.ite (fun h => Tot.now ⟨by omega, Or.inl (by omega)⟩) (fun h => (sz_l0 s hs (by omega) s.length 0 _ (by omega) (by omega) (by omega)).mono fun r hr => ⟨by omega, ?_⟩)
  rcases hr.2 with h2 | h2
  · exact Or.inl h2
  · refine Or.inr ⟨by rw [List.length_map]; omega, fun y hy => ?_⟩
    obtain ⟨z, hz, rfl⟩ := List.mem_map.1 hy
    obtain ⟨j, hj, rfl⟩ := List.getElem_of_mem hz
    have := h2 j (Nat.zero_le _) hj
    rw [atL_get hj] at this
    exact this
theorem to_l0 (s : List La) (hn : s.length ≤ 1048576) (d : Nat) : ∀ (i : Nat) (x : List Sl), i + d = s.length → x.length = s.length → (∀ j, j < i → at_ x j = conv (atL s j)) → Tot (fun k => laws_toSlotS.l0 k s x (i : Int)) (fun r => r = s.map conv) := by
  induction d with
  | zero =>
    intro i x hi hx hj
    refine Tot.shift ?_
    simp only [laws_toSlotS.l0]
    refine Tot.neg (by omega) (Tot.now ?_)
    refine list_ext (by rw [hx, List.length_map]) fun j h1 => ?_
    rw [hj j (by omega), atL_get (by omega), at_get (by rw [List.length_map]; omega), List.getElem_map]
  | succ d ih =>
    intro i x hi hx hj
    refine Tot.shift ?_
    simp only [laws_toSlotS.l0, rdL_at, Int.toNat_natCast]
    refine Tot.pos (by omega) (Tot.pos (by omega) (Tot.bindN (v := ((atL s i).f0, (atL s i).f1)) rfl (Tot.pos (by omega) ?_)))
    rw [w64 (x := (i : Int) + 1) (by omega) (by omega)]
    refine ih (i + 1) _ (by omega) (by rw [List.length_set]; exact hx) fun j h => ?_
    rw [at_set (by omega)]
    by_cases e : i = j
    · rw [if_pos e, ← e]; rfl
    · rw [if_neg e]; exact hj j (by omega)
theorem to_tot (s : List La) (hn : s.length ≤ 1048576) : Tot (fun k => laws_toSlotS.f k s) (fun r => r = s.map conv) := by
  unfold laws_toSlotS.f
  refine Tot.pos (by omega) (Tot.pos (by rw [Int.toNat_natCast]; omega) ?_)
  exact to_l0 s hn s.length 0 _ (by omega) (by rw [List.length_replicate, Int.toNat_natCast]) (fun j h => by omega)
theorem eqSlot_eq (a b : Sl) : laws_eqSlot.f a.f0 a.f1 b.f0 b.f1 = some (decide (a.f0 = b.f0) && decide (a.f1 = b.f1)) := by
  unfold laws_eqSlot.f
  by_cases h : a.f0.toList = b.f0.toList
  · rw [if_pos h, decide_eq_true (toList_inj.1 h)]
    by_cases h2 : a.f1 = b.f1
    · rw [if_pos h2, decide_eq_true h2]; rfl
    · rw [if_neg h2, decide_eq_false h2]; rfl
  · rw [if_neg h, decide_eq_false (fun e => h (toList_inj.2 e))]; rfl
theorem eq_l0 (a b : List Sl) (hl : a.length = b.length) (hn : a.length ≤ 1048576) (d : Nat) : ∀ i : Nat, i + d = a.length → (∀ j, j < i → at_ a j = at_ b j) → Tot (fun k => laws_eqSlotS.l0 k a b (i : Int)) (fun r => r = true ↔ a = b) := by
  induction d with
  | zero =>
    intro i hi hj
    refine Tot.shift ?_
    simp only [laws_eqSlotS.l0]
    refine Tot.neg (by omega) (Tot.now ⟨fun _ => list_ext hl fun j h => hj j (by omega), fun _ => rfl⟩)
  | succ d ih =>
    intro i hi hj
    refine Tot.shift ?_
    simp only [laws_eqSlotS.l0, rd_at]
    refine Tot.pos (by omega) (Tot.pos (by omega) (Tot.pos (by omega) (Tot.bindN (eqSlot_eq _ _) (Tot.ite (fun h => ?_) (fun h => Tot.now ⟨fun e => (by cases e), fun e => absurd ?_ h⟩)))))
    · rw [w64 (x := (i : Int) + 1) (by omega) (by omega)]
      rw [Bool.and_eq_true, decide_eq_true_eq, decide_eq_true_eq] at h
      refine ih (i + 1) (by omega) fun j h2 => ?_
      by_cases e : i = j
      · subst e; exact sl_ext h.1 h.2
      · exact hj j (by omega)
    · subst e; simp
theorem eq_tot (a b : List Sl) (hn : a.length ≤ 1048576) : Tot (fun k => laws_eqSlotS.f k a b) (fun r => r = true ↔ a = b) := by
  unfold laws_eqSlotS.f
  refine Tot.ite (fun h => eq_l0 a b (by omega) hn a.length 0 (by omega) fun j h => by omega) (fun h => Tot.now ⟨fun e => (by cases e), fun e => absurd (by rw [e]) h⟩)
theorem impl_copy_eq (s : List Sl) (h : s.length ≤ 1048576) : impl_Slot_67.f s = some s := by
  unfold impl_Slot_67.f
  rw [Option.bind_some, if_pos (by simp; omega)]
  simp
theorem spec_copy_eq (s : List Sl) (h : s.length ≤ 1048576) : spec_l2Copy.f s = some s := by
  unfold spec_l2Copy.f
  rw [Option.bind_some, if_pos (by simp; omega)]
  simp
/-! ### a piece is dropped -/
def drop (s : List Sl) (p : Int) : List Sl := if (at_ s (p - 1).toNat).f1 - 1 = 0 then s.set (p - 1).toNat ⟨(⟨#[]⟩ : ByteArray), 0⟩ else s.set (p - 1).toNat ⟨(at_ s (p - 1).toNat).f0, (at_ s (p - 1).toNat).f1 - 1⟩
theorem dropIf_eq (s : List Sl) (p : Int) (hl : s.length ≤ 1048576) (h1 : 1 ≤ p) (h2 : p ≤ s.length) (hu : 0 ≤ (at_ s (p - 1).toNat).f1) (hu2 : (at_ s (p - 1).toNat).f1 ≤ 1000) :
    (if 0 ≤ (wrap64 (p - 1)) then (if (wrap64 (p - 1)) < (s.length : Int) then ((some (s.set ((wrap64 (p - 1)) : Int).toNat (⟨(rd_T36 s (wrap64 (p - 1))).f0, wrap64 (((rd_T36 s (wrap64 (p - 1))).f1) - 1)⟩ : Sl) : List Sl)).bind fun y => (if ((rd_T36 y (wrap64 (p - 1))).f1) = 0 then (some (y.set ((wrap64 (p - 1)) : Int).toNat (⟨(⟨#[]⟩ : ByteArray), (rd_T36 y (wrap64 (p - 1))).f1⟩ : Sl))) else (some y))) else (none)) else (none)) = some (drop s p) := by
  rw [w64 (x := p - 1) (by omega) (by omega), if_pos (by omega), if_pos (by omega), Option.bind_some]
  simp only [rd_at']
  have z : wrap64 ((at_ s (p - 1).toNat).f1 - 1) = (at_ s (p - 1).toNat).f1 - 1 := w64 (by omega) (by omega)
  have e : at_ (s.set (p - 1).toNat ⟨(at_ s (p - 1).toNat).f0, wrap64 ((at_ s (p - 1).toNat).f1 - 1)⟩) (p - 1).toNat = ⟨(at_ s (p - 1).toNat).f0, (at_ s (p - 1).toNat).f1 - 1⟩ := by
    rw [at_set (by omega), if_pos rfl, z]
  by_cases h : (at_ s (p - 1).toNat).f1 - 1 = 0
  · rw [show drop s p = s.set (p - 1).toNat ⟨(⟨#[]⟩ : ByteArray), 0⟩ from if_pos h]
    refine (if_pos (by rw [e]; exact h)).trans ?_
    rw [e, List.set_set, h]
  · rw [show drop s p = s.set (p - 1).toNat ⟨(at_ s (p - 1).toNat).f0, (at_ s (p - 1).toNat).f1 - 1⟩ from if_neg h]
    refine (if_neg (by rw [e]; exact h)).trans ?_
    rw [z]
theorem impl_drop_eq (s : List Sl) (p : Int) (hl : s.length ≤ 1048576) (h1 : 1 ≤ p) (h2 : p ≤ s.length) (hu : 0 ≤ (at_ s (p - 1).toNat).f1) (hu2 : (at_ s (p - 1).toNat).f1 ≤ 1000) : impl_drop.f s p = some (drop s p) := dropIf_eq s p hl h1 h2 hu hu2
theorem spec_drop_eq (s : List Sl) (p : Int) (hl : s.length ≤ 1048576) (h1 : 1 ≤ p) (h2 : p ≤ s.length) (hu : 0 ≤ (at_ s (p - 1).toNat).f1) (hu2 : (at_ s (p - 1).toNat).f1 ≤ 1000) : spec_l2Drop.f s p = some (drop s p) := dropIf_eq s p hl h1 h2 hu hu2
def canDrop (s : List Sl) (p : Int) : Bool := storeOk s && ((decide (1 ≤ p) && decide (p ≤ 8)) && !((at_ s (p - 1).toNat).f1 == 0))
def storeDrop (s : List Sl) (p : Int) : List Sl × Bool := if canDrop s p = true then (drop s p, true) else ([], false)
theorem spec_StoreDrop_tot {s : List Sl} (hs : Small s) (p : Int) : Tot (fun k => spec_StoreDrop.f k s p) (fun r => r = storeDrop s p) := by
  have no : ∀ b : Bool, b = true → canDrop s p = false → Tot (fun k => spec_StoreDrop.j0 k s p b) (fun r => r = storeDrop s p) := by
    intro b hb ha
    refine Tot.shift ?_
    simp only [spec_StoreDrop.j0]
    refine Tot.pos hb (Tot.now ?_)
    unfold storeDrop
    rw [ha]; rfl
  unfold spec_StoreDrop.f
  refine Tot.bindE (spec_StoreOk_tot hs) (Tot.ite (fun h => Tot.bindN (spec_l6In_eq _ _ _) (Tot.ite (fun h2 => ?_) (fun h2 => no _ rfl (by unfold canDrop; rw [Bool.eq_false_iff.2 h2]; simp)))) (fun h => no _ rfl (by unfold canDrop; rw [Bool.eq_false_iff.2 h]; simp)))
  have v := valid_of h
  have hl := v.len
  have hp := h2
  rw [Bool.and_eq_true, decide_eq_true_eq, decide_eq_true_eq] at hp
  have hu := v.uses (p - 1).toNat (by omega)
  simp only [rd_at']
  rw [w64 (x := p - 1) (by omega) (by omega)]
  refine Tot.pos (by omega) (Tot.pos (by omega) ?_)
  cases hf : ((at_ s (p - 1).toNat).f1 == 0) with
  | true => exact no _ rfl (by unfold canDrop; rw [hf]; simp)
  | false =>
    refine Tot.shift ?_
    simp only [spec_StoreDrop.j0]
    refine Tot.neg (by simp) (Tot.bindN (spec_copy_eq s hs.1) (Tot.bindN (spec_drop_eq s p hs.1 (by omega) (by omega) (by omega) (by omega)) (Tot.now ?_)))
    unfold storeDrop
    rw [if_pos (by unfold canDrop; rw [h, h2, hf]; rfl)]
theorem impl_StoreDrop_tot {s : List Sl} (hs : Small s) (p : Int) : Tot (fun k => impl_StoreDrop.f k s p) (fun r => r = storeDrop s p) := by
  have no : ∀ b : Bool, b = true → canDrop s p = false → Tot (fun k => impl_StoreDrop.j0 k s p b) (fun r => r = storeDrop s p) := by
    intro b hb ha
    refine Tot.shift ?_
    simp only [impl_StoreDrop.j0]
    refine Tot.pos hb (Tot.now ?_)
    unfold storeDrop
    rw [ha]; rfl
  unfold impl_StoreDrop.f
  have hi : impl_isSlot.f p = some (decide (1 ≤ p) && decide (p ≤ 8)) := by
    unfold impl_isSlot.f
    rw [impl_within_eq, Option.bind_some]
  refine Tot.bindE (impl_StoreOk_tot hs) (Tot.ite (fun h => Tot.bindN hi (Tot.ite (fun h2 => ?_) (fun h2 => no _ rfl (by unfold canDrop; rw [Bool.eq_false_iff.2 h2]; simp)))) (fun h => no _ rfl (by unfold canDrop; rw [Bool.eq_false_iff.2 h]; simp)))
  have v := valid_of h
  have hl := v.len
  have hp := h2
  rw [Bool.and_eq_true, decide_eq_true_eq, decide_eq_true_eq] at hp
  have hu := v.uses (p - 1).toNat (by omega)
  simp only [rd_at']
  rw [w64 (x := p - 1) (by omega) (by omega)]
  refine Tot.pos (by omega) (Tot.pos (by omega) ?_)
  cases hf : ((at_ s (p - 1).toNat).f1 == 0) with
  | true => exact no _ rfl (by unfold canDrop; rw [hf]; simp)
  | false =>
    refine Tot.shift ?_
    simp only [impl_StoreDrop.j0]
    refine Tot.neg (by simp) (Tot.bindN (impl_copy_eq s hs.1) (Tot.bindN (impl_drop_eq s p hs.1 (by omega) (by omega) (by omega) (by omega)) (Tot.now ?_)))
    unfold storeDrop
    rw [if_pos (by unfold canDrop; rw [h, h2, hf]; rfl)]
/-! ### marks: a copy is written over, and what is written stands there -/
theorem markText_l0 (d : Nat) : ∀ (x : Int) (s : ByteArray), 0 ≤ x → x < 10 ^ d → x ≤ 1099511627776 → s.size + d ≤ 1000 → ∃ r, Ev (fun k => laws_markText.l0 k x s) r := by
  induction d with
  | zero =>
    intro x s h0 h1 hb hs
    have hx : x = 0 := by simp at h1; omega
    refine ⟨(⟨#[109]⟩ : ByteArray) ++ s, Tot.ev (Tot.shift ?_)⟩
    simp only [laws_markText.l0]
    exact Tot.neg (by omega) (Tot.pos (by omega) (Tot.now rfl))
  | succ d ih =>
    intro x s h0 h1 hb hs
    by_cases hx : x > 0
    · have z : (strOfNums [(wrap64 (48 + Int.tmod x 10)) % 256]).size = 1 := by simp [strOfNums, ByteArray.size]
      have hq : 0 ≤ Int.tdiv x 10 ∧ Int.tdiv x 10 < 10 ^ d ∧ Int.tdiv x 10 ≤ x := by
        rw [Int.tdiv_eq_ediv_of_nonneg h0]
        have : x < 10 ^ d * 10 := by rw [Int.pow_succ] at h1; exact h1
        omega
      obtain ⟨r, hr⟩ := ih (Int.tdiv x 10) (strOfNums [(wrap64 (48 + Int.tmod x 10)) % 256] ++ s) hq.1 hq.2.1 (by omega) (by rw [ByteArray.size_append]; omega)
      refine ⟨r, Tot.ev (Tot.shift ?_)⟩
      simp only [laws_markText.l0]
      rw [w64 (x := Int.tdiv x 10) (by omega) (by omega)]
      exact Tot.pos hx (Tot.bindN (v := [(wrap64 (48 + Int.tmod x 10)) % 256]) rfl (Tot.pos (by omega) (Tot.ofEv hr rfl)))
    · refine ⟨(⟨#[109]⟩ : ByteArray) ++ s, Tot.ev (Tot.shift ?_)⟩
      simp only [laws_markText.l0]
      exact Tot.neg hx (Tot.pos (by omega) (Tot.now rfl))
theorem markText_ex (x : Int) (h0 : 0 ≤ x) (h1 : x ≤ 1099511627776) : ∃ r, Ev (fun k => laws_markText.f k x) r := by
  by_cases h : x ≤ 0
  · refine ⟨(⟨#[109, 48]⟩ : ByteArray), Tot.ev ?_⟩
    unfold laws_markText.f
    exact Tot.pos h (Tot.now rfl)
  · obtain ⟨r, hr⟩ := markText_l0 13 x (⟨#[]⟩ : ByteArray) h0 (by omega) h1 (by decide)
    refine ⟨r, Tot.ev ?_⟩
    unfold laws_markText.f
    exact Tot.neg h (Tot.ofEv hr rfl)
noncomputable def mt (x : Int) : ByteArray := if h : 0 ≤ x ∧ x ≤ 1099511627776 then Classical.choose (markText_ex x h.1 h.2) else ByteArray.empty
theorem mt_tot (x : Int) (h0 : 0 ≤ x) (h1 : x ≤ 1099511627776) : Tot (fun k => laws_markText.f k x) (fun r => r = mt x) := by
  unfold mt
  rw [dif_pos ⟨h0, h1⟩]
  exact Tot.ofEv (Classical.choose_spec (markText_ex x h0 h1)) rfl
theorem mark_l0 (d : Nat) : ∀ (i : Nat) (x : List Sl) (m : Int), i + d = x.length → i + d ≤ 1048576 → 0 ≤ m → m + 2 * d ≤ 1099511627000 → Tot (fun k => laws_markSlotS.l0 k x m (i : Int)) (fun r => r.1 = m + 2 * d ∧ r.2.length = x.length ∧ (∀ j, j < i → at_ r.2 j = at_ x j) ∧ ∀ j : Nat, j < d → at_ r.2 (i + j) = ⟨mt (m + 2 * j), m + 2 * j + 1⟩) := by
  induction d with
  | zero =>
    intro i x m hi hn h0 h1
    refine Tot.shift ?_
    simp only [laws_markSlotS.l0]
    exact Tot.neg (by omega) (Tot.now ⟨by simp, rfl, fun j _ => rfl, fun j hj => by omega⟩)
  | succ d ih =>
    intro i x m hi hn h0 h1
    refine Tot.shift ?_
    simp only [laws_markSlotS.l0, rd_at, Int.toNat_natCast]
    refine Tot.pos (by omega) (Tot.bindE (mt_tot m h0 (by omega)) (Tot.pos (by omega) (Tot.bindN rfl ?_)))
    rw [w64 (x := m + 1) (by omega) (by omega), w64 (x := m + 1 + 1) (by omega) (by omega), w64 (x := (i : Int) + 1) (by omega) (by omega)]
    refine (ih (i + 1) _ (m + 1 + 1) (by rw [List.length_set, List.length_set]; omega) (by omega) (by omega) (by omega)).mono fun r ⟨h2, h3, h4, h5⟩ => ⟨by rw [h2]; omega, by rw [h3, List.length_set, List.length_set], fun j hj => ?_, fun j hj => ?_⟩
    · rw [h4 j (by omega), at_set (by rw [List.length_set]; omega), if_neg (by omega), at_set (by omega), if_neg (by omega)]
    · cases j with
      | zero =>
        rw [Nat.add_zero, h4 i (by omega), at_set (by rw [List.length_set]; omega), if_pos rfl, at_set (by omega), if_pos rfl]
        simp
      | succ j =>
        rw [show i + (j + 1) = i + 1 + j from by omega, h5 j (by omega)]
        rw [show m + 1 + 1 + 2 * (j : Int) = m + 2 * ((j + 1 : Nat) : Int) from by omega]
theorem held_l0 (d : Nat) : ∀ (i : Nat) (x : List Sl) (m : Int), i + d = x.length → i + d ≤ 1048576 → 0 ≤ m → m + 2 * d ≤ 1099511627000 → (∀ j : Nat, j < d → at_ x (i + j) = ⟨mt (m + 2 * j), m + 2 * j + 1⟩) → Tot (fun k => laws_heldSlotS.l0 k x m (i : Int)) (fun r => r = m + 2 * d) := by
  induction d with
  | zero =>
    intro i x m hi hn h0 h1 hx
    refine Tot.shift ?_
    simp only [laws_heldSlotS.l0]
    exact Tot.neg (by omega) (Tot.now (by simp))
  | succ d ih =>
    intro i x m hi hn h0 h1 hx
    have hx0 := hx 0 (by omega)
    simp only [Nat.add_zero, Int.natCast_zero, Int.mul_zero, Int.add_zero] at hx0
    refine Tot.shift ?_
    simp only [laws_heldSlotS.l0, rd_at]
    rw [w64 (x := m + 1) (by omega) (by omega), w64 (x := m + 1 + 1) (by omega) (by omega), w64 (x := (i : Int) + 1) (by omega) (by omega)]
    refine Tot.pos (by omega) (Tot.pos (by omega) (Tot.bindE (mt_tot m h0 (by omega)) (Tot.pos (by rw [hx0]) (Tot.pos (by rw [hx0]) ?_))))
    refine (ih (i + 1) x (m + 1 + 1) (by omega) (by omega) (by omega) (by omega) fun j hj => ?_).mono fun r hr => by rw [hr]; omega
    have := hx (j + 1) (by omega)
    rw [show i + 1 + j = i + (j + 1) from by omega, this]
    rw [show m + 1 + 1 + 2 * (j : Int) = m + 2 * ((j + 1 : Nat) : Int) from by omega]
def Marked (y : List Sl) : Prop := y.length ≤ 1048576 ∧ ∀ j : Nat, j < y.length → at_ y j = ⟨mt (1 + 2 * j), 1 + 2 * j + 1⟩
theorem mark_tot (x : List Sl) (hx : x.length ≤ 1048576) : Tot (fun k => laws_markSlotS.f k x 1) (fun r => r.1 = 1 + 2 * x.length ∧ Marked r.2 ∧ r.2.length = x.length) := by
  unfold laws_markSlotS.f
  refine (mark_l0 x.length 0 x 1 (by omega) (by omega) (by omega) (by omega)).mono fun r ⟨h1, h2, h3, h4⟩ => ⟨h1, ⟨by omega, fun j hj => ?_⟩, h2⟩
  have := h4 j (by omega)
  rw [Nat.zero_add] at this
  exact this
theorem held_tot {y : List Sl} (h : Marked y) : Tot (fun k => laws_heldSlotS.f k y 1) (fun r => r = 1 + 2 * y.length) := by
  unfold laws_heldSlotS.f
  refine held_l0 y.length 0 y 1 (by omega) (by have := h.1; omega) (by omega) (by have := h.1; omega) fun j hj => ?_
  rw [Nat.zero_add]
  exact h.2 j hj
theorem res_small {s : List Sl} (hs : Small s) (p : Int) : (storeDrop s p).1.length ≤ 1048576 := by
  unfold storeDrop
  by_cases h : canDrop s p = true
  · rw [if_pos h]
    have hl := hs.1
    show (drop s p).length ≤ _
    unfold drop
    split <;> (rw [List.length_set]; exact hl)
  · rw [if_neg h]; simp
theorem j2 {y : List Sl} (hy : Marked y) (m : Int) (hm : m = 1 + 2 * y.length) (b : Bool) (hb : b = false) : Tot (fun k => laws_FnExactStoreDrop.j2 k y m b) (fun r => r = true) := by
  refine Tot.shift ?_
  simp only [laws_FnExactStoreDrop.j2]
  exact Tot.neg (by simp [hb]) (Tot.bindE (held_tot hy) (Tot.neg (by omega) (Tot.pos hm.symm (Tot.now rfl))))
theorem j1 (s : List La) (hn : s.length ≤ 1048576) (sm : Small (s.map conv)) (t : Int) (b : Bool) (hb : b = false) (w : List Sl × Bool) (hw : w = storeDrop (s.map conv) t) : Tot (fun k => laws_FnExactStoreDrop.j1 k s t w.1 w.2 w.1 b) (fun r => r = true) := by
  refine Tot.shift ?_
  simp only [laws_FnExactStoreDrop.j1]
  have hl : w.1.length ≤ 1048576 := by rw [hw]; exact res_small sm t
  refine Tot.neg (by simp [hb]) (Tot.bind (mark_tot w.1 hl) fun y ⟨h1, h2, h3⟩ => Tot.bindE (held_tot h2) (Tot.neg (by omega) (Tot.pos (by omega) (Tot.bindE (to_tot s hn) (Tot.bindE (impl_StoreDrop_tot sm t) ?_)))))
  rw [← hw]
  refine Tot.bind (eq_tot _ _ hl) fun q hq => Tot.pos (hq.2 rfl) (j2 h2 _ (by omega) _ (by simp))
theorem j0 (s : List La) (hn : s.length ≤ 1048576) (sm : Small (s.map conv)) (t : Int) (b : Bool) (hb : b = false) (w : List Sl × Bool) (hw : w = storeDrop (s.map conv) t) : Tot (fun k => laws_FnExactStoreDrop.j0 k s t w.1 w.2 (s.map conv) w.1 w.2 b) (fun r => r = true) := by
  refine Tot.shift ?_
  simp only [laws_FnExactStoreDrop.j0]
  have hl : w.1.length ≤ 1048576 := by rw [hw]; exact res_small sm t
  refine Tot.neg (by simp [hb]) (Tot.bindE (to_tot s hn) (Tot.bind (eq_tot _ _ sm.1) fun q hq => Tot.pos (hq.2 rfl) (Tot.bind (mark_tot _ sm.1) fun y ⟨h1, h2, h3⟩ => Tot.neg (by omega) ?_)))
  exact Tot.bind (eq_tot _ _ hl) fun q hq => Tot.pos (hq.2 rfl) (j1 s hn sm t _ (by simp) w hw)
theorem FnExactStoreDrop (s : List La) (hg : s.length ≤ maxLen ∧ ∀ x ∈ s, x.f0.size ≤ maxLen ∧ (Lit.int .i64 x.f1).wf = true) (p : Int) (hp : (Lit.int .i64 p).wf = true) : ∃ k, laws_FnExactStoreDrop.f k s p = some true := by
  refine Tot.rounds ?_
  unfold laws_FnExactStoreDrop.f
  refine Tot.bind (sz_tot s (fun x hx => (hg.2 x hx).1) hg.1 1048576 (by omega) (by omega)) fun r ⟨_, hr⟩ => Tot.ite (fun _ => Tot.now rfl) (fun hr0 => ?_)
  have sm : Small (s.map conv) := hr.resolve_left hr0
  have hn : s.length ≤ 1048576 := by have := sm.1; rwa [List.length_map] at this
  refine Tot.bindE (to_tot s hn) (Tot.bindE (spec_StoreDrop_tot sm p) (Tot.bindE (to_tot s hn) (Tot.bindE (impl_StoreDrop_tot sm p) ?_)))
  refine Tot.bind (eq_tot _ _ (res_small sm p)) fun q hq => Tot.pos (hq.2 rfl) (j0 s hn sm p _ (by simp) _ rfl)
end Go.Proofs.Ytjdkccpcgmgmmaa.Pure
