/- PoolRead of the program reads what PoolRead of the reference reads, for every pool, name and block. -/
import Derived.Test.YtooamacekmjpaaaQFnExactPoolRead11
import Derived.Test.YtooamacekmjpaaaU2
set_option linter.unusedVariables false
set_option linter.unusedSimpArgs false
namespace Go.Proofs.Ytooamacekmjpaaa.Pure
open Go.RowKit Go.Proofs.Ytooamacekmjpaaa.PFnExactPoolRead Go.Proofs.YtooamacekmjpaaaW.PrintWords Go.Proofs.YtooamacekmjpaaaW.PrintLast Go.Proofs.YtooamacekmjpaaaU
/-! ### pieces -/
theorem spec_l6In_eq (a b c : Int) : spec_l6In.f a b c = some (decide (b ≤ a) && decide (a ≤ c)) := by
  unfold spec_l6In.f
  by_cases h : a ≥ b
  · rw [if_pos h]; simp [show b ≤ a from h]
  · rw [if_neg h]; simp [show ¬ b ≤ a from h]
theorem impl_within_eq (a b c : Int) : impl_within.f a b c = some (decide (b ≤ a) && decide (a ≤ c)) := by
  unfold impl_within.f
  by_cases h : a ≥ b
  · rw [if_pos h]; simp [show b ≤ a from h]
  · rw [if_neg h]; simp [show ¬ b ≤ a from h]
theorem spec_TextOk_l0 (s : ByteArray) (hs : s.size ≤ 140737488355328) (d : Nat) : ∀ i : Nat, i + d = s.size → Tot (fun k => spec_TextOk.l0 k s (i : Int)) (fun r => r = (((bytesOf s).drop i).all okc && decide ((s.size : Int) ≤ 4))) := by
  induction d with
  | zero =>
    intro i hi
    refine Tot.shift ?_
    simp only [spec_TextOk.l0]
    refine Tot.neg (by omega) (Tot.now ?_)
    rw [List.drop_of_length_le (by rw [bytesOf_length]; omega)]
    simp
  | succ d ih =>
    intro i hi
    refine Tot.shift ?_
    simp only [spec_TextOk.l0]
    refine Tot.pos (by omega) (Tot.pos (by omega) (Tot.bindN (spec_l6In_eq _ _ _) ?_))
    rw [w64_bt, w64 (x := (i : Int) + 1) (by omega) (by omega), drop_at s i (by omega), List.all_cons]
    have e : okc (bt s i) = (decide (97 ≤ bt s i) && decide (bt s i ≤ 100)) := rfl
    refine Tot.ite (fun h => ?_) (fun h => Tot.now ?_)
    · rw [e, h, Bool.true_and]; exact ih (i + 1) (by omega)
    · rw [e, Bool.eq_false_iff.2 h]; simp
theorem spec_TextOk_tot (s : ByteArray) (hs : s.size ≤ 140737488355328) : Tot (fun k => spec_TextOk.f k s) (fun r => r = textOk s) := by
  unfold spec_TextOk.f
  exact spec_TextOk_l0 s hs s.size 0 (by omega)
theorem impl_TextOk_l0 (s : ByteArray) (hs : s.size ≤ 140737488355328) (d : Nat) : ∀ i : Nat, i + d = s.size → Tot (fun k => impl_TextOk.l0 k s (s.size : Int) (i : Int)) (fun r => r = (((bytesOf s).drop i).all okc && decide ((s.size : Int) ≤ 4))) := by
  induction d with
  | zero =>
    intro i hi
    refine Tot.shift ?_
    simp only [impl_TextOk.l0]
    refine Tot.neg (by omega) (Tot.now ?_)
    rw [List.drop_of_length_le (by rw [bytesOf_length]; omega)]
    simp
  | succ d ih =>
    intro i hi
    refine Tot.shift ?_
    simp only [impl_TextOk.l0]
    refine Tot.pos (by omega) (Tot.pos (by omega) (Tot.pos (by omega) (Tot.bindN (impl_within_eq _ _ _) ?_)))
    rw [w64_bt, w64 (x := (i : Int) + 1) (by omega) (by omega), drop_at s i (by omega), List.all_cons]
    have e : okc (bt s i) = (decide (97 ≤ bt s i) && decide (bt s i ≤ 100)) := rfl
    refine Tot.ite (fun h => ?_) (fun h => Tot.now ?_)
    · rw [e, h, Bool.true_and]; exact ih (i + 1) (by omega)
    · rw [e, Bool.eq_false_iff.2 h]; simp
theorem impl_TextOk_tot (s : ByteArray) (hs : s.size ≤ 140737488355328) : Tot (fun k => impl_TextOk.f k s) (fun r => r = textOk s) := by
  unfold impl_TextOk.f
  exact impl_TextOk_l0 s hs s.size 0 (by omega)
/-! ### slots -/
abbrev Sl := S55
theorem sl_ext {a b : Sl} (h : a.f0 = b.f0) (h' : a.f1 = b.f1) : a = b := by
  cases a; cases b; simp_all
/-- The slot at a place. -/
def at_ (s : List Sl) (i : Nat) : Sl := s.getD i z55
theorem rd_at (s : List Sl) (i : Nat) : rd_T55 s (i : Int) = at_ s i := rfl
theorem rd_at' (s : List Sl) (i : Int) : rd_T55 s i = at_ s i.toNat := rfl
theorem at_mem {s : List Sl} {i : Nat} (h : i < s.length) : at_ s i ∈ s := by
  unfold at_
  rw [List.getD_eq_getElem?_getD, List.getElem?_eq_getElem h]
  exact List.getElem_mem h
theorem at_get {s : List Sl} {i : Nat} (h : i < s.length) : at_ s i = s[i] := by
  unfold at_
  rw [List.getD_eq_getElem?_getD, List.getElem?_eq_getElem h]
  rfl
theorem at_set {s : List Sl} {i j : Nat} {x : Sl} (h : i < s.length) : at_ (s.set i x) j = if i = j then x else at_ s j := by
  unfold at_
  rw [List.getD_eq_getElem?_getD, List.getD_eq_getElem?_getD, List.getElem?_set]
  by_cases e : i = j
  · rw [if_pos e, if_pos e]; subst e; simp [h]
  · rw [if_neg e, if_neg e]
theorem list_ext {a b : List Sl} (hl : a.length = b.length) (h : ∀ i, i < a.length → at_ a i = at_ b i) : a = b := by
  refine List.ext_getElem hl fun i h1 h2 => ?_
  rw [← at_get h1, ← at_get h2]
  exact h i h1
/-- Small texts, few slots. -/
def Small (s : List Sl) : Prop := s.length ≤ 1048576 ∧ ∀ x ∈ s, x.f0.size ≤ 1048576
theorem Small.at {s : List Sl} (h : Small s) {i : Nat} (hi : i < s.length) : (at_ s i).f0.size ≤ 1048576 := h.2 _ (at_mem hi)
theorem empty_iff (s : ByteArray) : empty s = true ↔ s.size = 0 := by
  unfold empty
  rw [ByteArray.toList_eq, ← data_length]
  constructor
  · intro h; rw [beq_iff_eq.1 h]; rfl
  · intro h; rw [List.eq_nil_of_length_eq_zero h]; rfl
theorem beq_text (a b : ByteArray) : (a.toList == b.toList) = decide (a = b) := by
  by_cases h : a = b
  · subst h; simp
  · rw [decide_eq_false h]
    exact beq_eq_false_iff_ne.2 fun e => h (toList_inj.1 e)
/-! ### a store that is valid -/
/-- Slot i is as it must be beside the slots ahead of it. -/
def slotOk (s : List Sl) (i : Nat) : Bool :=
  textOk (at_ s i).f0 && (decide (0 ≤ (at_ s i).f1) && decide ((at_ s i).f1 ≤ 99)) && (empty (at_ s i).f0 == ((at_ s i).f1 == 0)) && (empty (at_ s i).f0 || !((s.take i).any fun o => o.f0.toList == (at_ s i).f0.toList))
def storeFrom (s : List Sl) : Nat → Nat → Bool
  | 0, _ => ((s.length : Int) == 8)
  | d + 1, i => slotOk s i && storeFrom s d (i + 1)
def storeOk (s : List Sl) : Bool := storeFrom s s.length 0
theorem take_any (s : List Sl) (i : Nat) (h : i < s.length) (p : Sl → Bool) : (s.take (i + 1)).any p = ((s.take i).any p || p (at_ s i)) := by
  rw [List.take_succ_eq_append_getElem h, List.any_append, at_get h]
  simp
theorem storeFrom_all (s : List Sl) : ∀ d i, i + d = s.length → storeFrom s d i = true → s.length = 8 ∧ ∀ j, i ≤ j → j < s.length → slotOk s j = true := by
  intro d
  induction d with
  | zero =>
    intro i hi h
    simp only [storeFrom, beq_iff_eq] at h
    exact ⟨by omega, fun j h1 h2 => by omega⟩
  | succ d ih =>
    intro i hi h
    simp only [storeFrom, Bool.and_eq_true] at h
    obtain ⟨h8, hr⟩ := ih (i + 1) (by omega) h.2
    refine ⟨h8, fun j h1 h2 => ?_⟩
    by_cases e : i = j
    · subst e; exact h.1
    · exact hr j (by omega) h2
theorem storeFrom_of (s : List Sl) (h8 : s.length = 8) : ∀ d i, i + d = s.length → (∀ j, i ≤ j → j < s.length → slotOk s j = true) → storeFrom s d i = true := by
  intro d
  induction d with
  | zero => intro i hi h; simp only [storeFrom, h8]; rfl
  | succ d ih =>
    intro i hi h
    simp only [storeFrom, Bool.and_eq_true]
    exact ⟨h i (Nat.le_refl _) (by omega), ih (i + 1) (by omega) fun j h1 h2 => h j (by omega) h2⟩
/-- What a valid store is, slot by slot. -/
structure Valid (s : List Sl) : Prop where
  len : s.length = 8
  text : ∀ i, i < 8 → textOk (at_ s i).f0 = true
  uses : ∀ i, i < 8 → 0 ≤ (at_ s i).f1 ∧ (at_ s i).f1 ≤ 99
  free : ∀ i, i < 8 → (empty (at_ s i).f0 = true ↔ (at_ s i).f1 = 0)
  once : ∀ i j, i < 8 → j < 8 → i ≠ j → empty (at_ s i).f0 = false → (at_ s i).f0 ≠ (at_ s j).f0
theorem valid_of {s : List Sl} (h : storeOk s = true) : Valid s := by
  obtain ⟨h8, ha⟩ := storeFrom_all s s.length 0 (by omega) h
  have each : ∀ i, i < 8 → slotOk s i = true := fun i hi => ha i (Nat.zero_le _) (by omega)
  have parts : ∀ i, i < 8 → textOk (at_ s i).f0 = true ∧ (0 ≤ (at_ s i).f1 ∧ (at_ s i).f1 ≤ 99) ∧ (empty (at_ s i).f0 == ((at_ s i).f1 == 0)) = true ∧ (empty (at_ s i).f0 = true ∨ ((s.take i).any fun o => o.f0.toList == (at_ s i).f0.toList) = false) := by
    intro i hi
    have := each i hi
    unfold slotOk at this
    rw [Bool.and_eq_true, Bool.and_eq_true, Bool.and_eq_true, Bool.and_eq_true, Bool.or_eq_true, Bool.not_eq_true', decide_eq_true_eq, decide_eq_true_eq] at this
    exact ⟨this.1.1.1, this.1.1.2, this.1.2, this.2⟩
  have lt : ∀ i j, i < 8 → j < i → empty (at_ s i).f0 = false → (at_ s i).f0 ≠ (at_ s j).f0 := by
    intro i j hi hj he hEq
    rcases (parts i hi).2.2.2 with h | h
    · rw [h] at he; cases he
    · have := List.any_eq_false.1 h (at_ s j) (by
        have hl : j < (s.take i).length := by rw [List.length_take]; omega
        have e : (s.take i)[j] = at_ s j := by rw [List.getElem_take, at_get (by omega)]
        rw [← e]; exact List.getElem_mem hl)
      apply this
      simp [hEq]
  refine ⟨h8, fun i hi => (parts i hi).1, fun i hi => (parts i hi).2.1, fun i hi => ?_, fun i j hi hj hne he hEq => ?_⟩
  · have := beq_iff_eq.1 (parts i hi).2.2.1
    rw [this]; simp
  · rcases Nat.lt_or_gt_of_ne hne with h | h
    · have he2 : empty (at_ s j).f0 = false := by rw [← hEq]; exact he
      exact lt j i hj h he2 hEq.symm
    · exact lt i j hi h he hEq
theorem of_valid {s : List Sl} (v : Valid s) : storeOk s = true := by
  refine storeFrom_of s v.len s.length 0 (by omega) fun i _ hi => ?_
  rw [v.len] at hi
  unfold slotOk
  have hu := v.uses i hi
  have hf : (empty (at_ s i).f0 == ((at_ s i).f1 == 0)) = true := by
    rw [beq_iff_eq, Bool.eq_iff_iff, v.free i hi]; simp
  rw [v.text i hi, decide_eq_true hu.1, decide_eq_true hu.2, hf]
  simp only [Bool.true_and, Bool.and_true]
  cases he : empty (at_ s i).f0 with
  | true => rfl
  | false =>
    rw [Bool.false_or, Bool.not_eq_true', List.any_eq_false]
    intro o ho
    obtain ⟨j, hj, e⟩ := List.getElem_of_mem ho
    rw [List.length_take] at hj
    rw [List.getElem_take] at e
    have hj8 : j < 8 := by omega
    have hne := v.once i j hi hj8 (by omega) he
    rw [at_get (i := j) (by omega), e] at hne
    rw [beq_text]
    simpa using fun h => hne h.symm
theorem valid_small {s : List Sl} (v : Valid s) : Small s := by
  refine ⟨by rw [v.len]; omega, fun x hx => ?_⟩
  obtain ⟨i, hi, rfl⟩ := List.getElem_of_mem hx
  rw [v.len] at hi
  rw [← at_get]
  have := textOk_size (v.text i hi)
  omega
theorem spec_StoreOk_ (s : List Sl) (hs : Small s) (d : Nat) : ∀ i : Nat, i + d = s.length → Tot (fun k => spec_StoreOk.l0 k s (i : Int)) (fun r => r = storeFrom s d i) := by
  have hn := hs.1
  induction d with
  | zero =>
    intro i hi
    refine Tot.shift ?_
    simp only [spec_StoreOk.l0]
    exact Tot.neg (by omega) (Tot.now rfl)
  | succ d ih =>
    intro i hi
    have inner : ∀ (e : Nat), ∀ (j : Nat), j + e = i → (empty (at_ s i).f0 = true ∨ ((s.take j).any fun o => o.f0.toList == (at_ s i).f0.toList) = false) → Tot (fun k => spec_StoreOk.l1 k s (i : Int) (j : Int)) (fun r => r = ((empty (at_ s i).f0 || !((s.take i).any fun o => o.f0.toList == (at_ s i).f0.toList)) && storeFrom s d (i + 1))) := by
      intro e
      induction e with
      | zero =>
        intro j hj hno
        obtain rfl : j = i := by omega
        refine Tot.shift ?_
        simp only [spec_StoreOk.l1]
        refine Tot.neg (by omega) ?_
        rw [w64 (x := (j : Int) + 1) (by omega) (by omega)]
        refine (ih (j + 1) (by omega)).mono fun r hr => ?_
        rw [hr]
        rcases hno with h | h <;> rw [h] <;> simp
      | succ e ihe =>
        intro j hj hno
        refine Tot.shift ?_
        simp only [spec_StoreOk.l1, rd_at]
        refine Tot.pos (by omega) (Tot.pos (by omega) (Tot.pos (by omega) ?_))
        rw [w64 (x := (j : Int) + 1) (by omega) (by omega)]
        refine Tot.ite (fun he => ihe (j + 1) (by omega) (Or.inl (by simp [empty, he]))) (fun he => Tot.pos (by omega) (Tot.pos (by omega) (Tot.ite (fun hq => Tot.now ?_) (fun hq => ihe (j + 1) (by omega) ?_))))
        · have h1 : empty (at_ s i).f0 = false := by simp [empty, he]
          have h2 : ((s.take i).any fun o => o.f0.toList == (at_ s i).f0.toList) = true := by
            rw [List.any_eq_true]
            refine ⟨at_ s j, ?_, by simp [hq]⟩
            have hl : j < (s.take i).length := by rw [List.length_take]; omega
            have e2 : (s.take i)[j] = at_ s j := by rw [List.getElem_take, at_get (by omega)]
            rw [← e2]; exact List.getElem_mem hl
          rw [h1, h2]; rfl
        · right
          rw [take_any s j (by omega)]
          rcases hno with h | h
          · exfalso; apply he; simpa [empty] using h
          · rw [h, Bool.false_or]
            exact beq_eq_false_iff_ne.2 fun e => hq e.symm
    refine Tot.shift ?_
    simp only [spec_StoreOk.l0, rd_at]
    have hz := hs.at (i := i) (by omega)
    refine Tot.pos (by omega) (Tot.pos (by omega) (Tot.bindE (spec_TextOk_tot _ (by omega)) ?_))
    have bad : ∀ b : Bool, slotOk s i = false → b = true → Tot (fun k => spec_StoreOk.j1 k s (i : Int) b) (fun r => r = storeFrom s (d + 1) i) := by
      intro b hb hbt
      refine Tot.shift ?_
      simp only [spec_StoreOk.j1]
      refine Tot.pos hbt (Tot.now ?_)
      simp only [storeFrom, hb, Bool.false_and]
    refine Tot.ite (fun h1 => Tot.bindN (spec_l6In_eq _ _ _) (Tot.ite (fun h2 => ?_) (fun h2 => bad _ (by simp only [slotOk, Bool.eq_false_iff.2 h2]; simp) rfl))) (fun h1 => bad _ (by simp only [slotOk, Bool.eq_false_iff.2 h1]; simp) rfl)
    refine Tot.shift ?_
    simp only [spec_StoreOk.j1]
    refine Tot.ite (fun h3 => Tot.now ?_) (fun h3 => ?_)
    · have : (empty (at_ s i).f0 == ((at_ s i).f1 == 0)) = false := by
        rw [bne] at h3
        unfold empty
        cases hx : ((at_ s i).f0.toList == []) <;> cases hy : ((at_ s i).f1 == 0) <;> simp_all
      simp only [storeFrom, slotOk, this]; simp
    · have : (empty (at_ s i).f0 == ((at_ s i).f1 == 0)) = true := by
        rw [bne] at h3
        unfold empty
        cases hx : ((at_ s i).f0.toList == []) <;> cases hy : ((at_ s i).f1 == 0) <;> simp_all
      refine (inner i 0 (by omega) (Or.inr (by simp))).mono fun r hr => ?_
      rw [hr]
      simp only [storeFrom, slotOk, this, h1, h2]; simp
theorem spec_StoreOk_tot {s : List Sl} (hs : Small s) : Tot (fun k => spec_StoreOk.f k s) (fun r => r = storeOk s) := by
  unfold spec_StoreOk.f
  exact spec_StoreOk_ s hs s.length 0 (by omega)
theorem impl_StoreOk_ (s : List Sl) (hs : Small s) (d : Nat) : ∀ i : Nat, i + d = s.length → Tot (fun k => impl_StoreOk.l0 k s (i : Int)) (fun r => r = storeFrom s d i) := by
  have hn := hs.1
  induction d with
  | zero =>
    intro i hi
    refine Tot.shift ?_
    simp only [impl_StoreOk.l0]
    exact Tot.neg (by omega) (Tot.now rfl)
  | succ d ih =>
    intro i hi
    refine Tot.shift ?_
    simp only [impl_StoreOk.l0, rd_at, Int.toNat_natCast]
    have hz := hs.at (i := i) (by omega)
    rw [w64 (x := (i : Int) + 1) (by omega) (by omega)]
    refine Tot.pos (by omega) (Tot.pos (by omega) (Tot.bindE (impl_TextOk_tot _ (by omega)) ?_))
    refine Tot.ite (fun h1 => Tot.bindN (impl_within_eq _ _ _) (Tot.ite (fun h2 => ?_) (fun h2 => Tot.now ?_))) (fun h1 => Tot.now ?_)
    · refine Tot.ite (fun h3 => Tot.now ?_) (fun h3 => ?_)
      · have : (empty (at_ s i).f0 == ((at_ s i).f1 == 0)) = false := by
          rw [bne] at h3
          unfold empty
          cases hx : ((at_ s i).f0.toList == []) <;> cases hy : ((at_ s i).f1 == 0) <;> simp_all
        simp only [storeFrom, slotOk, this]; simp
      · have : (empty (at_ s i).f0 == ((at_ s i).f1 == 0)) = true := by
          rw [bne] at h3
          unfold empty
          cases hx : ((at_ s i).f0.toList == []) <;> cases hy : ((at_ s i).f1 == 0) <;> simp_all
        refine Tot.ite (fun h4 => (ih (i + 1) (by omega)).mono fun r hr => ?_) (fun h4 => Tot.ite (fun h5 => Tot.now ?_) (fun h5 => (ih (i + 1) (by omega)).mono fun r hr => ?_))
        · have h4' : empty (at_ s i).f0 = true := h4
          have hk : slotOk s i = true := by unfold slotOk; rw [h1, h2, this, h4']; rfl
          rw [hr]; simp only [storeFrom, hk, Bool.true_and]
        · have h4' : empty (at_ s i).f0 = false := Bool.eq_false_iff.2 h4
          simp only [storeFrom, slotOk, h5, h4']; simp
        · have hk : slotOk s i = true := by unfold slotOk; rw [h1, h2, this, Bool.eq_false_iff.2 h5]; simp
          rw [hr]; simp only [storeFrom, hk, Bool.true_and]
    · simp only [storeFrom, slotOk, Bool.eq_false_iff.2 h2]; simp
    · simp only [storeFrom, slotOk, Bool.eq_false_iff.2 h1]; simp
theorem impl_StoreOk_tot {s : List Sl} (hs : Small s) : Tot (fun k => impl_StoreOk.f k s) (fun r => r = storeOk s) := by
  unfold impl_StoreOk.f
  exact impl_StoreOk_ s hs s.length 0 (by omega)
/-! ### slots that came in, and copies of them -/
abbrev La := S83
def atL (s : List La) (i : Nat) : La := s.getD i z83
theorem rdL_at (s : List La) (i : Nat) : rd_T83 s (i : Int) = atL s i := rfl
def conv (x : La) : Sl := ⟨x.f0, x.f1⟩
theorem atL_get {s : List La} {i : Nat} (h : i < s.length) : atL s i = s[i] := by
  unfold atL
  rw [List.getD_eq_getElem?_getD, List.getElem?_eq_getElem h]
  rfl
theorem sz_l0 (s : List La) (hs : ∀ x ∈ s, x.f0.size ≤ maxLen) (hn : s.length ≤ 1048576) (d : Nat) : ∀ (i : Nat) (x : Int), i + d = s.length → 0 ≤ x → x ≤ 1048576 → Tot (fun k => laws_szSlotS.l0 k s x (i : Int)) (fun r => r ≤ x ∧ (r < 0 ∨ ∀ j, i ≤ j → j < s.length → (atL s j).f0.size ≤ 1048576)) := by
  induction d with
  | zero =>
    intro i x hi h0 h1
    refine Tot.shift ?_
    simp only [laws_szSlotS.l0]
    exact Tot.neg (by omega) (Tot.now ⟨Int.le_refl _, Or.inr fun j h2 h3 => by omega⟩)
  | succ d ih =>
    intro i x hi h0 h1
    refine Tot.shift ?_
    simp only [laws_szSlotS.l0, rdL_at]
    have hz : (atL s i).f0.size ≤ maxLen := hs _ (by rw [atL_get (by omega)]; exact List.getElem_mem _)
    unfold maxLen at hz
    refine Tot.pos (by omega) (Tot.pos (by omega) ?_)
    rw [w64 (x := (i : Int) + 1) (by omega) (by omega)]
    have e : laws_szSlot.f (atL s i).f0 (atL s i).f1 x = some (if x - (atL s i).f0.size < 0 then -1 else x - (atL s i).f0.size) := by
      unfold laws_szSlot.f
      rw [w64 (x := x - (atL s i).f0.size) (by omega) (by omega)]
      by_cases h : x - (atL s i).f0.size < 0
      · rw [if_pos h, if_pos h]
      · rw [if_neg h, if_neg h]
    refine Tot.bindN e ?_
    by_cases h : x - (atL s i).f0.size < 0
    · rw [if_pos h]
      exact Tot.pos (by omega) (Tot.now ⟨by omega, Or.inl (by omega)⟩)
    · rw [if_neg h]
      refine Tot.neg (by omega) ((ih (i + 1) _ (by omega) (by omega) (by omega)).mono fun r hr => ⟨by omega, ?_⟩)
      rcases hr.2 with h2 | h2
      · exact Or.inl h2
      · refine Or.inr fun j h3 h4 => ?_
        by_cases e : i = j
        · subst e; omega
        · exact h2 j (by omega) h4
theorem sz_tot (s : List La) (hs : ∀ x ∈ s, x.f0.size ≤ maxLen) (hn : s.length ≤ maxLen) (x : Int) (h0 : 0 ≤ x) (h1 : x ≤ 1048576) : Tot (fun k => laws_szSlotS.f k s x) (fun r => r ≤ 1048576 ∧ (r < 0 ∨ Small (s.map conv))) := by
  unfold maxLen at hn
  unfold laws_szSlotS.f
  rw [w64 (x := x - s.length) (by omega) (by omega)]
  refine Tot.ite (fun h => Tot.now ⟨by omega, Or.inl (by omega)⟩) (fun h => (sz_l0 s hs (by omega) s.length 0 _ (by omega) (by omega) (by omega)).mono fun r hr => ⟨by omega, ?_⟩)
  rcases hr.2 with h2 | h2
  · exact Or.inl h2
  · refine Or.inr ⟨by rw [List.length_map]; omega, fun y hy => ?_⟩
    obtain ⟨z, hz, rfl⟩ := List.mem_map.1 hy
    obtain ⟨j, hj, rfl⟩ := List.getElem_of_mem hz
    have := h2 j (Nat.zero_le _) hj
    rw [atL_get hj] at this
    exact this
theorem to_l0 (s : List La) (hn : s.length ≤ 1048576) (d : Nat) : ∀ (i : Nat) (x : List Sl), i + d = s.length → x.length = s.length → (∀ j, j < i → at_ x j = conv (atL s j)) → Tot (fun k => laws_toSlotS.l0 k s x (i : Int)) (fun r => r = s.map conv) := by
  induction d with
  | zero =>
    intro i x hi hx hj
    refine Tot.shift ?_
    simp only [laws_toSlotS.l0]
    refine Tot.neg (by omega) (Tot.now ?_)
    refine list_ext (by rw [hx, List.length_map]) fun j h1 => ?_
    rw [hj j (by omega), atL_get (by omega), at_get (by rw [List.length_map]; omega), List.getElem_map]
  | succ d ih =>
    intro i x hi hx hj
    refine Tot.shift ?_
    simp only [laws_toSlotS.l0, rdL_at, Int.toNat_natCast]
    refine Tot.pos (by omega) (Tot.pos (by omega) (Tot.bindN (v := ((atL s i).f0, (atL s i).f1)) rfl (Tot.pos (by omega) ?_)))
    rw [w64 (x := (i : Int) + 1) (by omega) (by omega)]
    refine ih (i + 1) _ (by omega) (by rw [List.length_set]; exact hx) fun j h => ?_
    rw [at_set (by omega)]
    by_cases e : i = j
    · rw [if_pos e, ← e]; rfl
    · rw [if_neg e]; exact hj j (by omega)
theorem to_tot (s : List La) (hn : s.length ≤ 1048576) : Tot (fun k => laws_toSlotS.f k s) (fun r => r = s.map conv) := by
  unfold laws_toSlotS.f
  refine Tot.pos (by omega) (Tot.pos (by rw [Int.toNat_natCast]; omega) ?_)
  exact to_l0 s hn s.length 0 _ (by omega) (by rw [List.length_replicate, Int.toNat_natCast]) (fun j h => by omega)
theorem eqSlot_eq (a b : Sl) : laws_eqSlot.f a.f0 a.f1 b.f0 b.f1 = some (decide (a.f0 = b.f0) && decide (a.f1 = b.f1)) := by
  unfold laws_eqSlot.f
  by_cases h : a.f0.toList = b.f0.toList
  · rw [if_pos h, decide_eq_true (toList_inj.1 h)]
    by_cases h2 : a.f1 = b.f1
    · rw [if_pos h2, decide_eq_true h2]; rfl
    · rw [if_neg h2, decide_eq_false h2]; rfl
  · rw [if_neg h, decide_eq_false (fun e => h (toList_inj.2 e))]; rfl
theorem eq_l0 (a b : List Sl) (hl : a.length = b.length) (hn : a.length ≤ 1048576) (d : Nat) : ∀ i : Nat, i + d = a.length → (∀ j, j < i → at_ a j = at_ b j) → Tot (fun k => laws_eqSlotS.l0 k a b (i : Int)) (fun r => r = true ↔ a = b) := by
  induction d with
  | zero =>
    intro i hi hj
    refine Tot.shift ?_
    simp only [laws_eqSlotS.l0]
    refine Tot.neg (by omega) (Tot.now ⟨fun _ => list_ext hl fun j h => hj j (by omega), fun _ => rfl⟩)
  | succ d ih =>
    intro i hi hj
    refine Tot.shift ?_
    simp only [laws_eqSlotS.l0, rd_at]
    refine Tot.pos (by omega) (Tot.pos (by omega) (Tot.pos (by omega) (Tot.bindN (eqSlot_eq _ _) (Tot.ite (fun h => ?_) (fun h => Tot.now ⟨fun e => (by cases e), fun e => absurd ?_ h⟩)))))
    · rw [w64 (x := (i : Int) + 1) (by omega) (by omega)]
      rw [Bool.and_eq_true, decide_eq_true_eq, decide_eq_true_eq] at h
      refine ih (i + 1) (by omega) fun j h2 => ?_
      by_cases e : i = j
      · subst e; exact sl_ext h.1 h.2
      · exact hj j (by omega)
    · subst e; simp
theorem eq_tot (a b : List Sl) (hn : a.length ≤ 1048576) : Tot (fun k => laws_eqSlotS.f k a b) (fun r => r = true ↔ a = b) := by
  unfold laws_eqSlotS.f
  refine Tot.ite (fun h => eq_l0 a b (by omega) hn a.length 0 (by omega) fun j h => by omega) (fun h => Tot.now ⟨fun e => (by cases e), fun e => absurd (by rw [e]) h⟩)
/-! ### names -/
theorem size_toList (s : ByteArray) : s.size = s.toList.length := by
  rw [ByteArray.toList_eq]; exact (data_length s).symm
theorem bt0_toList (s : ByteArray) (c : UInt8) (l : List UInt8) (h : s.toList = c :: l) : bt s 0 = (c.toNat : Int) := by
  rw [bt_rd, toList_bytes, h]
  rfl
theorem isName_toList (s : ByteArray) : isName s = (s.toList == [65] || s.toList == [66] || s.toList == [67] || s.toList == [68]) := by
  unfold isName
  cases h : s.toList with
  | nil => rw [size_toList, h]; simp
  | cons c l =>
    rw [bt0_toList s c l h, size_toList, h]
    cases l with
    | nil =>
      have hc := c.toNat_lt
      have e : ∀ n : Nat, n < 256 → ((c == UInt8.ofNat n) = decide ((c.toNat : Int) = n)) := fun n hn => by
        rw [Bool.eq_iff_iff]
        simp only [beq_iff_eq, decide_eq_true_eq]
        constructor
        · rintro rfl; simp; omega
        · intro h2
          have h3 : c.toNat = n := by exact_mod_cast h2
          rw [← h3]; simp
      have e65 := e 65 (by omega); have e66 := e 66 (by omega); have e67 := e 67 (by omega); have e68 := e 68 (by omega)
      simp only [List.cons_beq_cons, List.length_cons, List.length_nil]
      rw [show (65 : UInt8) = UInt8.ofNat 65 from rfl, show (66 : UInt8) = UInt8.ofNat 66 from rfl, show (67 : UInt8) = UInt8.ofNat 67 from rfl, show (68 : UInt8) = UInt8.ofNat 68 from rfl, e65, e66, e67, e68]
      rw [Bool.eq_iff_iff]
      simp
      omega
    | cons d l => simp; omega
theorem spec_l3Name_eq (s : ByteArray) : spec_l3Name.f s = some (isName s) := by
  unfold spec_l3Name.f isName
  by_cases h : (s.size : Int) = 1
  · rw [if_pos h, if_pos (by omega), spec_l6In_eq, w64_bt, Option.bind_some, decide_eq_true h, Bool.true_and]
  · rw [if_neg h, decide_eq_false h, Bool.false_and]
theorem impl_isName_eq (s : ByteArray) : impl_isName.f s = some (isName s) := by
  rw [isName_toList]
  unfold impl_isName.f
  by_cases h1 : s.toList = ([65] : List UInt8)
  · rw [if_pos h1]; simp [h1]
  by_cases h2 : s.toList = ([66] : List UInt8)
  · rw [if_neg h1, if_pos h2]; simp [h2]
  by_cases h3 : s.toList = ([67] : List UInt8)
  · rw [if_neg h1, if_neg h2, if_pos h3]; simp [h3]
  · rw [if_neg h1, if_neg h2, if_neg h3]; simp [h1, h2, h3]
/-! ### slices of numbers -/
def atI (s : List Int) (i : Nat) : Int := s.getD i 0
theorem rdI_at (s : List Int) (i : Nat) : rd s (i : Int) = atI s i := rfl
theorem atI_get {s : List Int} {i : Nat} (h : i < s.length) : atI s i = s[i] := by
  unfold atI
  rw [List.getD_eq_getElem?_getD, List.getElem?_eq_getElem h]
  rfl
theorem atI_set {s : List Int} {i j : Nat} {x : Int} (h : i < s.length) : atI (s.set i x) j = if i = j then x else atI s j := by
  unfold atI
  rw [List.getD_eq_getElem?_getD, List.getD_eq_getElem?_getD, List.getElem?_set]
  by_cases e : i = j
  · rw [if_pos e, if_pos e]; subst e; simp [h]
  · rw [if_neg e, if_neg e]
theorem listI_ext {a b : List Int} (hl : a.length = b.length) (h : ∀ i, i < a.length → atI a i = atI b i) : a = b := by
  refine List.ext_getElem hl fun i h1 h2 => ?_
  rw [← atI_get h1, ← atI_get h2]
  exact h i h1
theorem dropI (s : List Int) (i : Nat) (h : i < s.length) : s.drop i = atI s i :: s.drop (i + 1) := by
  rw [List.drop_eq_getElem_cons h, atI_get h]
/-! ### disks -/
def blk (p : Int) : Bool := decide (0 ≤ p) && decide (p ≤ 8)
def volOk (nm : ByteArray) (b : List Int) : Bool := b.all blk && (isName nm && (decide (1 ≤ (b.length : Int)) && decide ((b.length : Int) ≤ 6)))
def cnt (b : List Int) (p : Int) : Int := ((b.countP fun x => x == p : Nat) : Int)
theorem spec_VolOk_ (nm : ByteArray) (b : List Int) (hb : b.length ≤ 1048576) (d : Nat) : ∀ i : Nat, i + d = b.length → Tot (fun k => spec_VolOk.l0 k (i : Int) nm b) (fun r => r = ((b.drop i).all blk && (isName nm && (decide (1 ≤ (b.length : Int)) && decide ((b.length : Int) ≤ 6))))) := by
  induction d with
  | zero =>
    intro i hi
    refine Tot.shift ?_
    simp only [spec_VolOk.l0]
    rw [List.drop_of_length_le (by omega)]
    refine Tot.neg (by omega) (Tot.bindN (spec_l3Name_eq nm) (Tot.ite (fun h => Tot.bindN (spec_l6In_eq _ _ _) (Tot.now ?_)) (fun h => Tot.now ?_)))
    · rw [h]; rfl
    · rw [Bool.eq_false_iff.2 h]; rfl
  | succ d ih =>
    intro i hi
    refine Tot.shift ?_
    simp only [spec_VolOk.l0, rdI_at]
    rw [w64 (x := (i : Int) + 1) (by omega) (by omega), dropI b i (by omega), List.all_cons]
    refine Tot.pos (by omega) (Tot.pos (by omega) (Tot.bindN (spec_l6In_eq _ _ _) (Tot.ite (fun h => (ih (i + 1) (by omega)).mono fun r hr => ?_) (fun h => Tot.now ?_))))
    · rw [hr, show blk (atI b i) = true from h, Bool.true_and]
    · rw [show blk (atI b i) = false from Bool.eq_false_iff.2 h]; rfl
theorem spec_VolOk_tot (nm : ByteArray) (b : List Int) (hb : b.length ≤ 1048576) : Tot (fun k => spec_VolOk.f k nm b) (fun r => r = volOk nm b) := by
  unfold spec_VolOk.f
  exact spec_VolOk_ nm b hb b.length 0 (by omega)
theorem impl_VolOk_ (nm : ByteArray) (b : List Int) (hb : b.length ≤ 1048576) (d : Nat) : ∀ i : Nat, i + d = b.length → Tot (fun k => impl_VolOk.l0 k b (b.length : Int) (i : Int) nm b) (fun r => r = ((b.drop i).all blk && (isName nm && (decide (1 ≤ (b.length : Int)) && decide ((b.length : Int) ≤ 6))))) := by
  induction d with
  | zero =>
    intro i hi
    refine Tot.shift ?_
    simp only [impl_VolOk.l0]
    rw [List.drop_of_length_le (by omega)]
    refine Tot.neg (by omega) (Tot.bindN (impl_isName_eq nm) (Tot.ite (fun h => Tot.bindN (impl_within_eq _ _ _) (Tot.now ?_)) (fun h => Tot.now ?_)))
    · rw [h]; rfl
    · rw [Bool.eq_false_iff.2 h]; rfl
  | succ d ih =>
    intro i hi
    refine Tot.shift ?_
    simp only [impl_VolOk.l0, rdI_at]
    rw [w64 (x := (i : Int) + 1) (by omega) (by omega), dropI b i (by omega), List.all_cons]
    refine Tot.pos (by omega) (Tot.pos (by omega) (Tot.pos (by omega) (Tot.bindN (impl_within_eq _ _ _) (Tot.ite (fun h => (ih (i + 1) (by omega)).mono fun r hr => ?_) (fun h => Tot.now ?_)))))
    · rw [hr, show blk (atI b i) = true from h, Bool.true_and]
    · rw [show blk (atI b i) = false from Bool.eq_false_iff.2 h]; rfl
theorem impl_VolOk_tot (nm : ByteArray) (b : List Int) (hb : b.length ≤ 1048576) : Tot (fun k => impl_VolOk.f k nm b) (fun r => r = volOk nm b) := by
  unfold impl_VolOk.f
  exact impl_VolOk_ nm b hb b.length 0 (by omega)
theorem cnt_drop (b : List Int) (p : Int) (i : Nat) (h : i < b.length) : cnt (b.drop i) p = (if atI b i = p then 1 else 0) + cnt (b.drop (i + 1)) p := by
  unfold cnt
  rw [dropI b i h, List.countP_cons]
  by_cases e : atI b i = p
  · rw [if_pos (by simp [e]), if_pos e]; omega
  · rw [if_neg (by simp [e]), if_neg e]; omega
theorem cnt_le (b : List Int) (p : Int) : 0 ≤ cnt b p ∧ cnt b p ≤ b.length := by
  unfold cnt
  have := List.countP_le_length (p := fun x => x == p) (l := b)
  omega
theorem spec_l3Uses_ (nm : ByteArray) (b : List Int) (p : Int) (hb : b.length ≤ 1048576) (d : Nat) : ∀ (i : Nat) (n : Int), i + d = b.length → 0 ≤ n → n ≤ i → Tot (fun k => spec_l3Uses.l0 k p n (i : Int) nm b) (fun r => r = n + cnt (b.drop i) p) := by
  induction d with
  | zero =>
    intro i n hi h0 h1
    refine Tot.shift ?_
    simp only [spec_l3Uses.l0]
    rw [List.drop_of_length_le (by omega)]
    exact Tot.neg (by omega) (Tot.now (by simp [cnt]))
  | succ d ih =>
    intro i n hi h0 h1
    refine Tot.shift ?_
    simp only [spec_l3Uses.l0, rdI_at]
    rw [w64 (x := (i : Int) + 1) (by omega) (by omega), w64 (x := n + 1) (by omega) (by omega), cnt_drop b p i (by omega)]
    refine Tot.pos (by omega) (Tot.pos (by omega) (Tot.ite (fun h => (ih (i + 1) _ (by omega) (by omega) (by omega)).mono fun r hr => ?_) (fun h => (ih (i + 1) _ (by omega) (by omega) (by omega)).mono fun r hr => ?_)))
    · rw [hr, if_pos h]; omega
    · rw [hr, if_neg h]; omega
theorem spec_l3Uses_tot (nm : ByteArray) (b : List Int) (p : Int) (hb : b.length ≤ 1048576) : Tot (fun k => spec_l3Uses.f k nm b p) (fun r => r = cnt b p) := by
  unfold spec_l3Uses.f
  refine (spec_l3Uses_ nm b p hb b.length 0 0 (by omega) (by omega) (by omega)).mono fun r hr => ?_
  rw [hr]; simp
theorem impl_uses_ (b : List Int) (p : Int) (hb : b.length ≤ 1048576) (d : Nat) : ∀ (i : Nat) (n : Int), i + d = b.length → 0 ≤ n → n ≤ i → Tot (fun k => impl_Vol_uses.l0 k p n b (b.length : Int) (i : Int)) (fun r => r = n + cnt (b.drop i) p) := by
  induction d with
  | zero =>
    intro i n hi h0 h1
    refine Tot.shift ?_
    simp only [impl_Vol_uses.l0]
    rw [List.drop_of_length_le (by omega)]
    exact Tot.neg (by omega) (Tot.now (by simp [cnt]))
  | succ d ih =>
    intro i n hi h0 h1
    refine Tot.shift ?_
    simp only [impl_Vol_uses.l0, rdI_at]
    rw [w64 (x := (i : Int) + 1) (by omega) (by omega), w64 (x := n + 1) (by omega) (by omega), cnt_drop b p i (by omega)]
    refine Tot.pos (by omega) (Tot.pos (by omega) (Tot.pos (by omega) (Tot.ite (fun h => (ih (i + 1) _ (by omega) (by omega) (by omega)).mono fun r hr => ?_) (fun h => (ih (i + 1) _ (by omega) (by omega) (by omega)).mono fun r hr => ?_))))
    · rw [hr, if_pos h]; omega
    · rw [hr, if_neg h]; omega
theorem impl_uses_tot (nm : ByteArray) (b : List Int) (p : Int) (hb : b.length ≤ 1048576) : Tot (fun k => impl_Vol_uses.f k nm b p) (fun r => r = cnt b p) := by
  unfold impl_Vol_uses.f
  refine (impl_uses_ b p hb b.length 0 0 (by omega) (by omega) (by omega)).mono fun r hr => ?_
  rw [hr]; simp
/-! ### a disk that came in -/
theorem szInt_eq (l : List Int) (hl : l.length ≤ maxLen) (x : Int) (h0 : 0 ≤ x) (h1 : x ≤ 1048576) : laws_szIntS.f l x = some (if x - l.length < 0 then -1 else x - l.length) := by
  unfold maxLen at hl
  unfold laws_szIntS.f
  rw [w64 (x := x - l.length) (by omega) (by omega)]
  by_cases h : x - (l.length : Int) < 0
  · rw [if_pos h, if_pos h]
  · rw [if_neg h, if_neg h]
theorem szVol_eq (nm : ByteArray) (b : List Int) (hn : nm.size ≤ maxLen) (hb : b.length ≤ maxLen) (x : Int) (h0 : 0 ≤ x) (h1 : x ≤ 1048576) : ∃ r, laws_szVol.f nm b x = some r ∧ (r < 0 ∨ nm.size ≤ 1048576 ∧ b.length ≤ 1048576 ∧ 0 ≤ r ∧ r ≤ x) := by
  unfold maxLen at hn
  unfold laws_szVol.f
  rw [w64 (x := x - nm.size) (by omega) (by omega)]
  by_cases h : x - (nm.size : Int) < 0
  · rw [if_pos h]; exact ⟨-1, rfl, Or.inl (by omega)⟩
  · rw [if_neg h, szInt_eq b hb _ (by omega) (by omega), Option.bind_some]
    by_cases h2 : x - (nm.size : Int) - (b.length : Int) < 0
    · rw [if_pos h2, if_pos (by omega)]; exact ⟨-1, rfl, Or.inl (by omega)⟩
    · rw [if_neg h2, if_neg h2]; exact ⟨_, rfl, Or.inr ⟨by omega, by omega, by omega, by omega⟩⟩
theorem toInt_l0 (s : List Int) (hn : s.length ≤ 1048576) (d : Nat) : ∀ (i : Nat) (x : List Int), i + d = s.length → x.length = s.length → (∀ j, j < i → atI x j = atI s j) → Tot (fun k => laws_toIntS.l0 k s x (i : Int)) (fun r => r = s) := by
  induction d with
  | zero =>
    intro i x hi hx hj
    refine Tot.shift ?_
    simp only [laws_toIntS.l0]
    exact Tot.neg (by omega) (Tot.now (listI_ext hx fun j h1 => hj j (by omega)))
  | succ d ih =>
    intro i x hi hx hj
    refine Tot.shift ?_
    simp only [laws_toIntS.l0, rdI_at, Int.toNat_natCast]
    refine Tot.pos (by omega) (Tot.pos (by omega) (Tot.pos (by omega) ?_))
    rw [w64 (x := (i : Int) + 1) (by omega) (by omega)]
    refine ih (i + 1) _ (by omega) (by rw [List.length_set]; exact hx) fun j h => ?_
    rw [atI_set (by omega)]
    by_cases e : i = j
    · rw [if_pos e, ← e]
    · rw [if_neg e]; exact hj j (by omega)
theorem toInt_tot (s : List Int) (hn : s.length ≤ 1048576) : Tot (fun k => laws_toIntS.f k s) (fun r => r = s) := by
  unfold laws_toIntS.f
  refine Tot.pos (by omega) (Tot.pos (by rw [Int.toNat_natCast]; omega) ?_)
  exact toInt_l0 s hn s.length 0 _ (by omega) (by rw [List.length_replicate, Int.toNat_natCast]) (fun j h => by omega)
theorem toVol_tot (nm : ByteArray) (s : List Int) (hn : s.length ≤ 1048576) : Tot (fun k => laws_toVol.f k nm s) (fun r => r = (nm, s)) := by
  unfold laws_toVol.f
  exact Tot.bindE (toInt_tot s hn) (Tot.now rfl)
theorem eqInt_l0 (a b : List Int) (hl : a.length = b.length) (hn : a.length ≤ 1048576) (d : Nat) : ∀ i : Nat, i + d = a.length → (∀ j, j < i → atI a j = atI b j) → Tot (fun k => laws_eqIntS.l0 k a b (i : Int)) (fun r => r = true ↔ a = b) := by
  induction d with
  | zero =>
    intro i hi hj
    refine Tot.shift ?_
    simp only [laws_eqIntS.l0]
    exact Tot.neg (by omega) (Tot.now ⟨fun _ => listI_ext hl fun j h => hj j (by omega), fun _ => rfl⟩)
  | succ d ih =>
    intro i hi hj
    refine Tot.shift ?_
    simp only [laws_eqIntS.l0, rdI_at]
    refine Tot.pos (by omega) (Tot.pos (by omega) (Tot.pos (by omega) (Tot.ite (fun h => ?_) (fun h => Tot.now ⟨fun e => (by cases e), fun e => absurd (by rw [e]) h⟩))))
    rw [w64 (x := (i : Int) + 1) (by omega) (by omega)]
    refine ih (i + 1) (by omega) fun j h2 => ?_
    by_cases e : i = j
    · subst e; exact h
    · exact hj j (by omega)
theorem eqInt_tot (a b : List Int) (hn : a.length ≤ 1048576) : Tot (fun k => laws_eqIntS.f k a b) (fun r => r = true ↔ a = b) := by
  unfold laws_eqIntS.f
  exact Tot.ite (fun h => eqInt_l0 a b (by omega) hn a.length 0 (by omega) fun j h => by omega) (fun h => Tot.now ⟨fun e => (by cases e), fun e => absurd (by rw [e]) h⟩)
theorem eqVol_tot (n : ByteArray) (a : List Int) (m : ByteArray) (b : List Int) (hn : a.length ≤ 1048576) : Tot (fun k => laws_eqVol.f k n a m b) (fun r => r = true ↔ n = m ∧ a = b) := by
  unfold laws_eqVol.f
  refine Tot.ite (fun h => Tot.bind (eqInt_tot a b hn) fun r hr => Tot.ite (fun h2 => Tot.now ⟨fun _ => ⟨toList_inj.1 h, hr.1 h2⟩, fun _ => rfl⟩) (fun h2 => Tot.now ⟨fun e => (by cases e), fun e => absurd (hr.2 e.2) h2⟩)) (fun h => Tot.now ⟨fun e => (by cases e), fun e => absurd (toList_inj.2 e.1) h⟩)
/-! ### pools -/
abbrev Vo := S38
def atV (m : List Vo) (i : Nat) : Vo := m.getD i z38
theorem rdV_at (m : List Vo) (i : Nat) : rd_T38 m (i : Int) = atV m i := rfl
theorem rdV_at' (m : List Vo) (i : Int) : rd_T38 m i = atV m i.toNat := rfl
theorem atV_get {m : List Vo} {i : Nat} (h : i < m.length) : atV m i = m[i] := by
  unfold atV
  rw [List.getD_eq_getElem?_getD, List.getElem?_eq_getElem h]
  rfl
theorem atV_mem {m : List Vo} {i : Nat} (h : i < m.length) : atV m i ∈ m := by rw [atV_get h]; exact List.getElem_mem h
def SmallV (m : List Vo) : Prop := m.length ≤ 1048576 ∧ ∀ v ∈ m, v.f0.size ≤ 1048576 ∧ v.f1.length ≤ 1048576
theorem SmallV.at {m : List Vo} (h : SmallV m) {i : Nat} (hi : i < m.length) : (atV m i).f0.size ≤ 1048576 ∧ (atV m i).f1.length ≤ 1048576 := h.2 _ (atV_mem hi)
def lessAt (m : List Vo) (i : Nat) : Bool := decide (i = 0) || Op.bytesLess (atV m (i - 1)).f0.toList (atV m i).f0.toList
def volsOk (m : List Vo) : Nat → Nat → Bool
  | 0, _ => true
  | d + 1, i => volOk (atV m i).f0 (atV m i).f1 && (lessAt m i && volsOk m d (i + 1))
def sumUses (m : List Vo) (p : Int) : Nat → Nat → Int
  | 0, _ => 0
  | d + 1, i => cnt (atV m i).f1 p + sumUses m p d (i + 1)
def usesOk (s : List Sl) (m : List Vo) : Nat → Int → Bool
  | 0, _ => true
  | d + 1, p => decide ((at_ s (p - 1).toNat).f1 = sumUses m p m.length 0) && usesOk s m d (p + 1)
def poolOk (s : List Sl) (m : List Vo) : Bool := (storeOk s && decide (m.length ≤ 4)) && (volsOk m m.length 0 && usesOk s m 8 1)
theorem sumUses_range {m : List Vo} (hm : SmallV m) (p : Int) : ∀ d i : Nat, i + d ≤ m.length → 0 ≤ sumUses m p d i ∧ sumUses m p d i ≤ 1048576 * d := by
  intro d
  induction d with
  | zero => intro i hi; simp [sumUses]
  | succ d ih =>
    intro i hi
    have h1 := ih (i + 1) (by omega)
    have h2 := cnt_le (atV m i).f1 p
    have h3 := (hm.at (i := i) (by omega)).2
    simp only [sumUses]
    omega
theorem spec_l11Uses_tot (s : List Sl) {m : List Vo} (hm : SmallV m) (h4 : m.length ≤ 4) (p : Int) : Tot (fun k => spec_l11Uses.f k s m p) (fun r => r = sumUses m p m.length 0) := by
  have loop : ∀ (d i : Nat) (n : Int), i + d = m.length → 0 ≤ n → n ≤ 1048576 * i → Tot (fun k => spec_l11Uses.l0 k p n (i : Int) s m) (fun r => r = n + sumUses m p d i) := by
    intro d
    induction d with
    | zero =>
      intro i n hi h0 h1
      refine Tot.shift ?_
      simp only [spec_l11Uses.l0]
      exact Tot.neg (by omega) (Tot.now (by simp [sumUses]))
    | succ d ih =>
      intro i n hi h0 h1
      refine Tot.shift ?_
      simp only [spec_l11Uses.l0, rdV_at]
      have h2 := cnt_le (atV m i).f1 p
      have h3 := (hm.at (i := i) (by omega)).2
      refine Tot.pos (by omega) (Tot.pos (by omega) (Tot.bindE (spec_l3Uses_tot _ _ p h3) ?_))
      rw [w64 (x := (i : Int) + 1) (by omega) (by omega), w64 (x := n + cnt (atV m i).f1 p) (by omega) (by omega)]
      exact (ih (i + 1) _ (by omega) (by omega) (by omega)).mono fun r hr => by rw [hr]; simp only [sumUses]; omega
  unfold spec_l11Uses.f
  exact (loop m.length 0 0 (by omega) (by omega) (by omega)).mono fun r hr => by rw [hr]; omega
theorem spec_PoolOk_l1 {s : List Sl} (h8 : s.length = 8) {m : List Vo} (hm : SmallV m) (h4 : m.length ≤ 4) (d : Nat) : ∀ p : Int, p + d = 9 → 1 ≤ p → Tot (fun k => spec_PoolOk.l1 k p s m) (fun r => r = usesOk s m d p) := by
  induction d with
  | zero =>
    intro p hp h1
    refine Tot.shift ?_
    simp only [spec_PoolOk.l1]
    exact Tot.neg (by omega) (Tot.now rfl)
  | succ d ih =>
    intro p hp h1
    refine Tot.shift ?_
    simp only [spec_PoolOk.l1, rd_at']
    rw [w64 (x := p + 1) (by omega) (by omega), w64 (x := p - 1) (by omega) (by omega)]
    refine Tot.pos (by omega) (Tot.pos (by omega) (Tot.pos (by omega) (Tot.bindE (spec_l11Uses_tot s hm h4 p) (Tot.ite (fun h => (ih (p + 1) (by omega) (by omega)).mono fun r hr => ?_) (fun h => Tot.now ?_)))))
    · rw [hr]; simp only [usesOk]; rw [decide_eq_true h, Bool.true_and]
    · simp only [usesOk]; rw [decide_eq_false h, Bool.false_and]
theorem spec_PoolOk_l0 {s : List Sl} (h8 : s.length = 8) {m : List Vo} (hm : SmallV m) (h4 : m.length ≤ 4) (d : Nat) : ∀ i : Nat, i + d = m.length → Tot (fun k => spec_PoolOk.l0 k (i : Int) s m) (fun r => r = (volsOk m d i && usesOk s m 8 1)) := by
  induction d with
  | zero =>
    intro i hi
    refine Tot.shift ?_
    simp only [spec_PoolOk.l0]
    exact Tot.neg (by omega) ((spec_PoolOk_l1 h8 hm h4 8 1 (by omega) (by omega)).mono fun r hr => by rw [hr]; rfl)
  | succ d ih =>
    intro i hi
    refine Tot.shift ?_
    simp only [spec_PoolOk.l0, rdV_at]
    have h3 := (hm.at (i := i) (by omega)).2
    refine Tot.pos (by omega) (Tot.pos (by omega) (Tot.bindE (spec_VolOk_tot _ _ h3) (Tot.ite (fun h => ?_) (fun h => Tot.now (by simp only [volsOk]; rw [Bool.eq_false_iff.2 h]; rfl)))))
    rw [w64 (x := (i : Int) + 1) (by omega) (by omega)]
    have next := ih (i + 1) (by omega)
    refine Tot.ite (fun h0 => ?_) (fun h0 => next.mono fun r hr => ?_)
    · rw [w64 (x := (i : Int) - 1) (by omega) (by omega), show (i : Int) - 1 = ((i - 1 : Nat) : Int) from by omega, rdV_at]
      refine Tot.pos (by omega) (Tot.pos (by omega) (Tot.ite (fun hl => next.mono fun r hr => ?_) (fun hl => Tot.now ?_)))
      · rw [hr]; simp only [volsOk]; rw [h, show lessAt m i = true from by unfold lessAt; rw [hl, Bool.or_true]]; simp
      · simp only [volsOk]; rw [show lessAt m i = false from by unfold lessAt; rw [decide_eq_false (by omega), Bool.eq_false_iff.2 hl]; rfl]; simp
    · rw [hr]; simp only [volsOk]; rw [h, show lessAt m i = true from by unfold lessAt; rw [decide_eq_true (by omega), Bool.true_or]]; simp
theorem spec_PoolOk_tot {s : List Sl} (hs : Small s) {m : List Vo} (hm : SmallV m) : Tot (fun k => spec_PoolOk.f k s m) (fun r => r = poolOk s m) := by
  unfold spec_PoolOk.f
  have no : poolOk s m = false → Tot (fun k => spec_PoolOk.j0 k true s m) (fun r => r = poolOk s m) := by
    intro h
    refine Tot.shift ?_
    simp only [spec_PoolOk.j0]
    exact Tot.pos (by trivial) (Tot.now h.symm)
  refine Tot.bindE (spec_StoreOk_tot hs) (Tot.ite (fun h => ?_) (fun h => no (by unfold poolOk; rw [Bool.eq_false_iff.2 h]; rfl)))
  by_cases h4 : (m.length : Int) > 4
  · rw [decide_eq_true h4]; exact no (by unfold poolOk; rw [decide_eq_false (show ¬ m.length ≤ 4 by omega)]; simp)
  · rw [decide_eq_false h4]
    refine Tot.shift ?_
    simp only [spec_PoolOk.j0]
    exact Tot.neg (by simp) ((spec_PoolOk_l0 (valid_of h).len hm (by omega) m.length 0 (by omega)).mono fun r hr => by rw [hr]; unfold poolOk; rw [h, decide_eq_true (show m.length ≤ 4 by omega)]; rfl)
theorem impl_PoolOk_l1 {s : List Sl} (h8 : s.length = 8) {m : List Vo} (hm : SmallV m) (h4 : m.length ≤ 4) (d : Nat) : ∀ p : Int, p + d = 9 → 1 ≤ p → Tot (fun k => impl_PoolOk.l1 k p s m) (fun r => r = usesOk s m d p) := by
  induction d with
  | zero =>
    intro p hp h1
    refine Tot.shift ?_
    simp only [impl_PoolOk.l1]
    exact Tot.neg (by omega) (Tot.now rfl)
  | succ d ih =>
    intro p hp h1
    have loop : ∀ (e i : Nat) (n : Int), i + e = m.length → 0 ≤ n → n ≤ 1048576 * i → n + sumUses m p e i = sumUses m p m.length 0 → Tot (fun k => impl_PoolOk.l2 k p n m (m.length : Int) (i : Int) s m) (fun r => r = usesOk s m (d + 1) p) := by
      intro e
      induction e with
      | zero =>
        intro i n hi h0 h1 hn
        refine Tot.shift ?_
        simp only [impl_PoolOk.l2, rd_at']
        rw [w64 (x := p + 1) (by omega) (by omega), w64 (x := p - 1) (by omega) (by omega)]
        have hn' : n = sumUses m p m.length 0 := by rw [← hn]; simp [sumUses]
        refine Tot.neg (by omega) (Tot.pos (by omega) (Tot.pos (by omega) (Tot.ite (fun h => (ih (p + 1) (by omega) (by omega)).mono fun r hr => ?_) (fun h => Tot.now ?_))))
        · rw [hr]; simp only [usesOk]; rw [decide_eq_true (h.symm.trans hn'), Bool.true_and]
        · simp only [usesOk]; rw [decide_eq_false (fun e => h (hn'.trans e.symm)), Bool.false_and]
      | succ e ihe =>
        intro i n hi h0 h1 hn
        refine Tot.shift ?_
        simp only [impl_PoolOk.l2, rdV_at]
        have h2 := cnt_le (atV m i).f1 p
        have h3 := (hm.at (i := i) (by omega)).2
        refine Tot.pos (by omega) (Tot.pos (by omega) (Tot.pos (by omega) (Tot.bindE (impl_uses_tot _ _ p h3) ?_)))
        rw [w64 (x := (i : Int) + 1) (by omega) (by omega), w64 (x := n + cnt (atV m i).f1 p) (by omega) (by omega)]
        exact ihe (i + 1) _ (by omega) (by omega) (by omega) (by rw [← hn]; simp only [sumUses]; omega)
    refine Tot.shift ?_
    simp only [impl_PoolOk.l1]
    exact Tot.pos (by omega) (loop m.length 0 0 (by omega) (by omega) (by omega) (by omega))
theorem impl_PoolOk_l0 {s : List Sl} (h8 : s.length = 8) {m : List Vo} (hm : SmallV m) (h4 : m.length ≤ 4) (d : Nat) : ∀ i : Nat, i + d = m.length → Tot (fun k => impl_PoolOk.l0 k m (m.length : Int) (i : Int) s m) (fun r => r = (volsOk m d i && usesOk s m 8 1)) := by
  induction d with
  | zero =>
    intro i hi
    refine Tot.shift ?_
    simp only [impl_PoolOk.l0]
    exact Tot.neg (by omega) ((impl_PoolOk_l1 h8 hm h4 8 1 (by omega) (by omega)).mono fun r hr => by rw [hr]; rfl)
  | succ d ih =>
    intro i hi
    refine Tot.shift ?_
    simp only [impl_PoolOk.l0, rdV_at]
    have h3 := (hm.at (i := i) (by omega)).2
    refine Tot.pos (by omega) (Tot.pos (by omega) (Tot.pos (by omega) (Tot.bindE (impl_VolOk_tot _ _ h3) (Tot.ite (fun h => ?_) (fun h => Tot.now (by simp only [volsOk]; rw [Bool.eq_false_iff.2 h]; rfl))))))
    rw [w64 (x := (i : Int) + 1) (by omega) (by omega)]
    have next := ih (i + 1) (by omega)
    refine Tot.ite (fun h0 => ?_) (fun h0 => next.mono fun r hr => ?_)
    · rw [w64 (x := (i : Int) - 1) (by omega) (by omega), show (i : Int) - 1 = ((i - 1 : Nat) : Int) from by omega, rdV_at]
      refine Tot.pos (by omega) (Tot.pos (by omega) (Tot.ite (fun hl => next.mono fun r hr => ?_) (fun hl => Tot.now ?_)))
      · rw [hr]; simp only [volsOk]; rw [h, show lessAt m i = true from by unfold lessAt; rw [hl, Bool.or_true]]; simp
      · simp only [volsOk]; rw [show lessAt m i = false from by unfold lessAt; rw [decide_eq_false (by omega), Bool.eq_false_iff.2 hl]; rfl]; simp
    · rw [hr]; simp only [volsOk]; rw [h, show lessAt m i = true from by unfold lessAt; rw [decide_eq_true (by omega), Bool.true_or]]; simp
theorem impl_PoolOk_tot {s : List Sl} (hs : Small s) {m : List Vo} (hm : SmallV m) : Tot (fun k => impl_PoolOk.f k s m) (fun r => r = poolOk s m) := by
  unfold impl_PoolOk.f
  have no : poolOk s m = false → Tot (fun k => impl_PoolOk.j0 k true s m) (fun r => r = poolOk s m) := by
    intro h
    refine Tot.shift ?_
    simp only [impl_PoolOk.j0]
    exact Tot.pos (by trivial) (Tot.now h.symm)
  refine Tot.bindE (impl_StoreOk_tot hs) (Tot.ite (fun h => ?_) (fun h => no (by unfold poolOk; rw [Bool.eq_false_iff.2 h]; rfl)))
  by_cases h4 : (m.length : Int) > 4
  · rw [decide_eq_true h4]; exact no (by unfold poolOk; rw [decide_eq_false (show ¬ m.length ≤ 4 by omega)]; simp)
  · rw [decide_eq_false h4]
    refine Tot.shift ?_
    simp only [impl_PoolOk.j0]
    exact Tot.neg (by simp) ((impl_PoolOk_l0 (valid_of h).len hm (by omega) m.length 0 (by omega)).mono fun r hr => by rw [hr]; unfold poolOk; rw [h, decide_eq_true (show m.length ≤ 4 by omega)]; rfl)
/-! ### a pool that came in -/
abbrev Lv := S85
def atLV (m : List Lv) (i : Nat) : Lv := m.getD i z85
theorem rdLV_at (m : List Lv) (i : Nat) : rd_T85 m (i : Int) = atLV m i := rfl
theorem atLV_get {m : List Lv} {i : Nat} (h : i < m.length) : atLV m i = m[i] := by
  unfold atLV
  rw [List.getD_eq_getElem?_getD, List.getElem?_eq_getElem h]
  rfl
def convV (x : Lv) : Vo := ⟨x.f0, x.f1⟩
def LvOk (x : Lv) : Prop := x.f0.size ≤ maxLen ∧ x.f1.length ≤ maxLen ∧ ∀ y ∈ x.f1, (Lit.int .i64 y).wf = true
theorem szV_l0 (m : List Lv) (hm : ∀ x ∈ m, LvOk x) (hn : m.length ≤ 1048576) (d : Nat) : ∀ (i : Nat) (x : Int), i + d = m.length → 0 ≤ x → x ≤ 1048576 → Tot (fun k => laws_szVolS.l0 k m x (i : Int)) (fun r => r < 0 ∨ ∀ j, i ≤ j → j < m.length → (atLV m j).f0.size ≤ 1048576 ∧ (atLV m j).f1.length ≤ 1048576) := by
  induction d with
  | zero =>
    intro i x hi h0 h1
    refine Tot.shift ?_
    simp only [laws_szVolS.l0]
    exact Tot.neg (by omega) (Tot.now (Or.inr fun j h2 h3 => by omega))
  | succ d ih =>
    intro i x hi h0 h1
    refine Tot.shift ?_
    simp only [laws_szVolS.l0, rdLV_at]
    have hz : LvOk (atLV m i) := hm _ (by rw [atLV_get (by omega)]; exact List.getElem_mem _)
    refine Tot.pos (by omega) (Tot.pos (by omega) (Tot.bindO (szVol_eq _ _ hz.1 hz.2.1 x h0 h1) fun r hr => Tot.ite (fun h => Tot.now (Or.inl (by omega))) (fun h => ?_)))
    obtain ⟨g1, g2, g3, g4⟩ := hr.resolve_left h
    rw [w64 (x := (i : Int) + 1) (by omega) (by omega)]
    refine (ih (i + 1) r (by omega) g3 (by omega)).mono fun q hq => ?_
    rcases hq with hq | hq
    · exact Or.inl hq
    · refine Or.inr fun j h3 h4 => ?_
      by_cases e : i = j
      · subst e; exact ⟨g1, g2⟩
      · exact hq j (by omega) h4
theorem szV_tot (m : List Lv) (hm : ∀ x ∈ m, LvOk x) (hn : m.length ≤ maxLen) (x : Int) (h0 : 0 ≤ x) (h1 : x ≤ 1048576) : Tot (fun k => laws_szVolS.f k m x) (fun r => r < 0 ∨ SmallV (m.map convV)) := by
  unfold maxLen at hn
  unfold laws_szVolS.f
  rw [w64 (x := x - m.length) (by omega) (by omega)]
  refine Tot.ite (fun h => Tot.now (Or.inl (by omega))) (fun h => (szV_l0 m hm (by omega) m.length 0 _ (by omega) (by omega) (by omega)).mono fun r hr => ?_)
  rcases hr with h2 | h2
  · exact Or.inl h2
  · refine Or.inr ⟨by rw [List.length_map]; omega, fun y hy => ?_⟩
    obtain ⟨z, hz, rfl⟩ := List.mem_map.1 hy
    obtain ⟨j, hj, rfl⟩ := List.getElem_of_mem hz
    have := h2 j (Nat.zero_le _) hj
    rw [atLV_get hj] at this
    exact this
theorem atV_set {m : List Vo} {i j : Nat} {x : Vo} (h : i < m.length) : atV (m.set i x) j = if i = j then x else atV m j := by
  unfold atV
  rw [List.getD_eq_getElem?_getD, List.getD_eq_getElem?_getD, List.getElem?_set]
  by_cases e : i = j
  · rw [if_pos e, if_pos e]; subst e; simp [h]
  · rw [if_neg e, if_neg e]
theorem listV_ext {a b : List Vo} (hl : a.length = b.length) (h : ∀ i, i < a.length → atV a i = atV b i) : a = b := by
  refine List.ext_getElem hl fun i h1 h2 => ?_
  rw [← atV_get h1, ← atV_get h2]
  exact h i h1
theorem toV_l0 (m : List Lv) (hn : m.length ≤ 1048576) (hb : ∀ j, j < m.length → (atLV m j).f1.length ≤ 1048576) (d : Nat) : ∀ (i : Nat) (x : List Vo), i + d = m.length → x.length = m.length → (∀ j, j < i → atV x j = convV (atLV m j)) → Tot (fun k => laws_toVolS.l0 k m x (i : Int)) (fun r => r = m.map convV) := by
  induction d with
  | zero =>
    intro i x hi hx hj
    refine Tot.shift ?_
    simp only [laws_toVolS.l0]
    refine Tot.neg (by omega) (Tot.now (listV_ext (by rw [List.length_map]; exact hx) fun j h1 => ?_))
    rw [hj j (by omega), atV_get (by rw [List.length_map]; omega), List.getElem_map, atLV_get (by omega)]
  | succ d ih =>
    intro i x hi hx hj
    refine Tot.shift ?_
    simp only [laws_toVolS.l0, rdLV_at, Int.toNat_natCast]
    refine Tot.pos (by omega) (Tot.pos (by omega) (Tot.bindE (toVol_tot _ _ (hb i (by omega))) (Tot.pos (by omega) ?_)))
    rw [w64 (x := (i : Int) + 1) (by omega) (by omega)]
    refine ih (i + 1) _ (by omega) (by rw [List.length_set]; exact hx) fun j h => ?_
    rw [atV_set (by omega)]
    by_cases e : i = j
    · rw [if_pos e, ← e]; rfl
    · rw [if_neg e]; exact hj j (by omega)
theorem toV_tot (m : List Lv) (hm : SmallV (m.map convV)) : Tot (fun k => laws_toVolS.f k m) (fun r => r = m.map convV) := by
  have hn : m.length ≤ 1048576 := by have := hm.1; rwa [List.length_map] at this
  unfold laws_toVolS.f
  refine Tot.pos (by omega) (Tot.pos (by rw [Int.toNat_natCast]; omega) ?_)
  refine toV_l0 m hn (fun j hj => ?_) m.length 0 _ (by omega) (by rw [List.length_replicate, Int.toNat_natCast]) (fun j h => by omega)
  have := (hm.2 (convV (atLV m j)) (List.mem_map.2 ⟨_, by rw [atLV_get hj]; exact List.getElem_mem hj, rfl⟩)).2
  exact this
theorem eqV_same (m : List Vo) (hm : SmallV m) : Tot (fun k => laws_eqVolS.f k m m) (fun r => r = true) := by
  have hn := hm.1
  have loop : ∀ (d i : Nat), i + d = m.length → Tot (fun k => laws_eqVolS.l0 k m m (i : Int)) (fun r => r = true) := by
    intro d
    induction d with
    | zero =>
      intro i hi
      refine Tot.shift ?_
      simp only [laws_eqVolS.l0]
      exact Tot.neg (by omega) (Tot.now rfl)
    | succ d ih =>
      intro i hi
      refine Tot.shift ?_
      simp only [laws_eqVolS.l0, rdV_at]
      rw [w64 (x := (i : Int) + 1) (by omega) (by omega)]
      exact Tot.pos (by omega) (Tot.pos (by omega) (Tot.pos (by omega) (Tot.bind (eqVol_tot _ _ _ _ (hm.at (i := i) (by omega)).2) fun q hq => Tot.pos (hq.2 ⟨rfl, rfl⟩) (ih (i + 1) (by omega)))))
  unfold laws_eqVolS.f
  exact Tot.pos (by first | rfl | trivial) (loop m.length 0 (by omega))
theorem szP_tot (s : List La) (m : List Lv) (hs : s.length ≤ maxLen ∧ ∀ x ∈ s, x.f0.size ≤ maxLen ∧ (Lit.int .i64 x.f1).wf = true) (hm : m.length ≤ maxLen ∧ ∀ x ∈ m, LvOk x) : Tot (fun k => laws_szPool.f k s m 1048576) (fun r => r < 0 ∨ Small (s.map conv) ∧ SmallV (m.map convV)) := by
  unfold laws_szPool.f
  refine Tot.bind (sz_tot s (fun x hx => (hs.2 x hx).1) hs.1 1048576 (by omega) (by omega)) fun r ⟨h1, h2⟩ => Tot.ite (fun _ => Tot.now (Or.inl (by omega))) (fun h0 => ?_)
  refine Tot.bind (szV_tot m hm.2 hm.1 r (by omega) h1) fun q hq => Tot.ite (fun _ => Tot.now (Or.inl (by omega))) (fun h3 => Tot.now ?_)
  exact Or.inr ⟨h2.resolve_left h0, hq.resolve_left h3⟩
theorem toP_tot (s : List La) (m : List Lv) (sm : Small (s.map conv)) (vm : SmallV (m.map convV)) : Tot (fun k => laws_toPool.f k s m) (fun r => r = (s.map conv, m.map convV)) := by
  unfold laws_toPool.f
  have hn : s.length ≤ 1048576 := by have := sm.1; rwa [List.length_map] at this
  exact Tot.bindE (to_tot s hn) (Tot.bindE (toV_tot m vm) (Tot.now rfl))
theorem eqP_same {s : List Sl} {m : List Vo} (sm : Small s) (vm : SmallV m) : Tot (fun k => laws_eqPool.f k s m s m) (fun r => r = true) := by
  unfold laws_eqPool.f
  exact Tot.bind (eq_tot s s sm.1) fun q hq => Tot.pos (hq.2 rfl) (Tot.bindE (eqV_same m vm) (Tot.pos rfl (Tot.now rfl)))
def Blks (b : List Int) : Prop := b.length ≤ 6 ∧ ∀ i, i < b.length → 0 ≤ atI b i ∧ atI b i ≤ 8
theorem blks_of {nm : ByteArray} {b : List Int} (h : volOk nm b = true) : Blks b := by
  unfold volOk at h
  rw [Bool.and_eq_true, Bool.and_eq_true, Bool.and_eq_true, decide_eq_true_eq, decide_eq_true_eq, List.all_eq_true] at h
  refine ⟨by omega, fun i hi => ?_⟩
  have := h.1 _ (by rw [atI_get hi]; exact List.getElem_mem hi : atI b i ∈ b)
  unfold blk at this
  rw [Bool.and_eq_true, decide_eq_true_eq, decide_eq_true_eq] at this
  exact this
/-! ### where a disk is -/
def vat (m : List Vo) (a : ByteArray) : Int := Lib.idxBy (fun _ (y : Vo) => y.f0.toList == a.toList) m default
theorem getElemV_at (m : List Vo) (j : Nat) (h : j < m.length) : m[j]! = atV m j := by
  rw [atV_get h]; simp [h]
theorem vat_hit {m : List Vo} {a : ByteArray} {j : Nat} (hj : j < m.length) (h : (atV m j).f0 = a) (hne : ∀ i, i < j → (atV m i).f0 ≠ a) : vat m a = j := by
  unfold vat
  have := Lib.idxBy_hit (fun _ (y : Vo) => y.f0.toList == a.toList) m m.length j default hj (Nat.le_refl _) (by show ((m[j]!).f0.toList == a.toList) = true; rw [getElemV_at m j hj, h]; simp) (fun i hi => by
    show ((m[i]!).f0.toList == a.toList) = false
    rw [getElemV_at m i (by omega), beq_text, decide_eq_false (hne i hi)])
  rw [List.take_length] at this
  exact this
theorem vat_miss {m : List Vo} {a : ByteArray} (h : ∀ i, i < m.length → (atV m i).f0 ≠ a) : vat m a = -1 := by
  unfold vat
  have := Lib.idxBy_miss (fun _ (y : Vo) => y.f0.toList == a.toList) m m.length default (fun i hi => by
    show ((m[i]!).f0.toList == a.toList) = false
    rw [getElemV_at m i hi, beq_text, decide_eq_false (h i hi)])
  rw [List.take_length] at this
  exact this
theorem vat_range (m : List Vo) (a : ByteArray) : vat m a = -1 ∨ 0 ≤ vat m a ∧ vat m a < m.length := by
  by_cases h : ∃ j, j < m.length ∧ (atV m j).f0 = a
  · obtain ⟨j, hj, hm⟩ := least h
    rw [vat_hit hj.1 hj.2 fun i hi e => hm i hi ⟨by omega, e⟩]
    omega
  · exact Or.inl (vat_miss fun i hi e => h ⟨i, hi, e⟩)
theorem spec_l11At_tot (s : List Sl) {m : List Vo} (hm : m.length ≤ 1048576) (a : ByteArray) : Tot (fun k => spec_l11At.f k s m a) (fun r => r = vat m a) := by
  have loop : ∀ (d i : Nat), i + d = m.length → (∀ j, j < i → (atV m j).f0 ≠ a) → Tot (fun k => spec_l11At.l0 k a (i : Int) s m) (fun r => r = vat m a) := by
    intro d
    induction d with
    | zero =>
      intro i hi hn
      refine Tot.shift ?_
      simp only [spec_l11At.l0]
      exact Tot.neg (by omega) (Tot.now (vat_miss fun j hj => hn j (by omega)).symm)
    | succ d ih =>
      intro i hi hn
      refine Tot.shift ?_
      simp only [spec_l11At.l0, rdV_at]
      rw [w64 (x := (i : Int) + 1) (by omega) (by omega)]
      refine Tot.pos (by omega) (Tot.pos (by omega) (Tot.ite (fun h => Tot.now (vat_hit (by omega) (toList_inj.1 h) hn).symm) (fun h => ih (i + 1) (by omega) fun j hj e => ?_)))
      by_cases e2 : j = i
      · subst e2; exact h (toList_inj.2 e)
      · exact hn j (by omega) e
  unfold spec_l11At.f
  exact loop m.length 0 (by omega) fun j hj => by omega
theorem volsOk_all {m : List Vo} : ∀ (d i : Nat), volsOk m d i = true → ∀ j, i ≤ j → j < i + d → volOk (atV m j).f0 (atV m j).f1 = true := by
  intro d
  induction d with
  | zero => intro i h j h1 h2; omega
  | succ d ih =>
    intro i h j h1 h2
    simp only [volsOk] at h
    rw [Bool.and_eq_true, Bool.and_eq_true] at h
    by_cases e : i = j
    · subst e; exact h.1
    · exact ih (i + 1) h.2.2 j (by omega) (by omega)
theorem poolOk_parts {s : List Sl} {m : List Vo} (h : poolOk s m = true) : Valid s ∧ m.length ≤ 4 ∧ (∀ j, j < m.length → Blks (atV m j).f1) ∧ (∀ j, j < m.length → volOk (atV m j).f0 (atV m j).f1 = true) ∧ usesOk s m 8 1 = true ∧ volsOk m m.length 0 = true := by
  unfold poolOk at h
  rw [Bool.and_eq_true, Bool.and_eq_true, Bool.and_eq_true, decide_eq_true_eq] at h
  exact ⟨valid_of h.1.1, h.1.2, fun j hj => blks_of (volsOk_all _ _ h.2.1 j (Nat.zero_le _) (by omega)), fun j hj => volsOk_all _ _ h.2.1 j (Nat.zero_le _) (by omega), h.2.2, h.2.1⟩
/-! ### what a block holds -/
def inBlk (m : List Vo) (a : ByteArray) (b : Int) : Bool := decide (0 ≤ b) && decide (b ≤ ((atV m (vat m a).toNat).f1.length : Int) - 1)
def readAt (s : List Sl) (m : List Vo) (a : ByteArray) (b : Int) : ByteArray × Bool := if atI (atV m (vat m a).toNat).f1 b.toNat = 0 then (⟨#[]⟩, true) else ((at_ s (atI (atV m (vat m a).toNat).f1 b.toNat - 1).toNat).f0, true)
def canRead (s : List Sl) (m : List Vo) (a : ByteArray) (b : Int) : Bool := poolOk s m && (decide (0 ≤ vat m a) && inBlk m a b)
def poolRead (s : List Sl) (m : List Vo) (a : ByteArray) (b : Int) : ByteArray × Bool := if canRead s m a b = true then readAt s m a b else (⟨#[]⟩, false)
theorem spec_PoolRead_j0 {s : List Sl} {m : List Vo} (a : ByteArray) (b : Int) (c : Bool) (hc : c = !(canRead s m a b)) : Tot (fun k => spec_PoolRead.j0 k b (vat m a) c s m) (fun r => r = poolRead s m a b) := by
  refine Tot.shift ?_
  simp only [spec_PoolRead.j0]
  cases h : canRead s m a b with
  | false => exact Tot.pos (by rw [hc, h]; rfl) (Tot.now (by unfold poolRead; rw [h]; rfl))
  | true =>
    have h2 := h
    unfold canRead inBlk at h2
    rw [Bool.and_eq_true, Bool.and_eq_true, Bool.and_eq_true, decide_eq_true_eq, decide_eq_true_eq, decide_eq_true_eq] at h2
    obtain ⟨hp, h0, b0, b1⟩ := h2
    obtain ⟨v, _, hb, _⟩ := poolOk_parts hp
    have hr := (vat_range m a).resolve_left (by omega)
    have hblk := (hb (vat m a).toNat (by omega)).2 b.toNat (by omega)
    have hl := v.len
    have e : poolRead s m a b = readAt s m a b := by unfold poolRead; rw [if_pos h]
    rw [e]
    unfold readAt
    show Tot _ (fun r => r = if rd (rd_T38 m (vat m a)).f1 b = 0 then (⟨#[]⟩, true) else ((at_ s (rd (rd_T38 m (vat m a)).f1 b - 1).toNat).f0, true))
    have hblk' : 0 ≤ rd (rd_T38 m (vat m a)).f1 b ∧ rd (rd_T38 m (vat m a)).f1 b ≤ 8 := hblk
    have b1' : b ≤ ((rd_T38 m (vat m a)).f1.length : Int) - 1 := b1
    generalize rd_T38 m (vat m a) = v0 at hblk' b1' ⊢
    refine Tot.neg (by rw [hc, h]; simp) (Tot.pos (by omega) (Tot.pos (by omega) (Tot.pos (by omega) (Tot.pos (by omega) ?_))))
    generalize rd v0.f1 b = q at hblk' ⊢
    refine Tot.ite (fun h => Tot.now (by rw [if_pos h])) (fun h => ?_)
    rw [if_neg h, w64 (x := q - 1) (by omega) (by omega)]
    exact Tot.pos (by omega) (Tot.pos (by omega) (Tot.now rfl))
theorem impl_PoolRead_j0 {s : List Sl} {m : List Vo} (a : ByteArray) (b : Int) (c : Bool) (hc : c = !(canRead s m a b)) : Tot (fun k => impl_PoolRead.j0 k b (vat m a) c s m) (fun r => r = poolRead s m a b) := by
  refine Tot.shift ?_
  simp only [impl_PoolRead.j0]
  cases h : canRead s m a b with
  | false => exact Tot.pos (by rw [hc, h]; rfl) (Tot.now (by unfold poolRead; rw [h]; rfl))
  | true =>
    have h2 := h
    unfold canRead inBlk at h2
    rw [Bool.and_eq_true, Bool.and_eq_true, Bool.and_eq_true, decide_eq_true_eq, decide_eq_true_eq, decide_eq_true_eq] at h2
    obtain ⟨hp, h0, b0, b1⟩ := h2
    obtain ⟨v, _, hb, _⟩ := poolOk_parts hp
    have hr := (vat_range m a).resolve_left (by omega)
    have hblk := (hb (vat m a).toNat (by omega)).2 b.toNat (by omega)
    have hl := v.len
    have e : poolRead s m a b = readAt s m a b := by unfold poolRead; rw [if_pos h]
    rw [e]
    unfold readAt
    show Tot _ (fun r => r = if rd (rd_T38 m (vat m a)).f1 b = 0 then (⟨#[]⟩, true) else ((at_ s (rd (rd_T38 m (vat m a)).f1 b - 1).toNat).f0, true))
    have hblk' : 0 ≤ rd (rd_T38 m (vat m a)).f1 b ∧ rd (rd_T38 m (vat m a)).f1 b ≤ 8 := hblk
    have b1' : b ≤ ((rd_T38 m (vat m a)).f1.length : Int) - 1 := b1
    generalize rd_T38 m (vat m a) = v0 at hblk' b1' ⊢
    refine Tot.neg (by rw [hc, h]; simp) (Tot.pos (by omega) (Tot.pos (by omega) (Tot.pos (by omega) (Tot.pos (by omega) ?_))))
    generalize rd v0.f1 b = q at hblk' ⊢
    refine Tot.ite (fun h => ?_) (fun h => Tot.now (by rw [if_pos (show q = 0 by omega)]))
    rw [if_neg (show ¬ q = 0 by omega), w64 (x := q - 1) (by omega) (by omega)]
    exact Tot.pos (by omega) (Tot.pos (by omega) (Tot.now rfl))
theorem spec_PoolRead_tot {s : List Sl} (hs : Small s) {m : List Vo} (hm : SmallV m) (a : ByteArray) (b : Int) : Tot (fun k => spec_PoolRead.f k s m a b) (fun r => r = poolRead s m a b) := by
  unfold spec_PoolRead.f
  refine Tot.bindE (spec_l11At_tot s hm.1 a) (Tot.bindE (spec_PoolOk_tot hs hm) (Tot.ite (fun h => Tot.ite (fun h0 => spec_PoolRead_j0 a b _ (by unfold canRead; rw [decide_eq_false (show ¬ 0 ≤ vat m a by omega)]; simp)) (fun h0 => ?_)) (fun h => spec_PoolRead_j0 a b _ (by unfold canRead; rw [Bool.eq_false_iff.2 h]; simp))))
  have hr := (vat_range m a).resolve_left (by omega)
  have hb := (hm.at (i := (vat m a).toNat) (by omega)).2
  simp only [rdV_at']
  rw [w64 (x := ((atV m (vat m a).toNat).f1.length : Int) - 1) (by omega) (by omega)]
  refine Tot.pos (by omega) (Tot.pos (by omega) (Tot.bindN (spec_l6In_eq _ _ _) (spec_PoolRead_j0 a b _ ?_)))
  unfold canRead inBlk
  rw [h, decide_eq_true (show 0 ≤ vat m a by omega)]; simp
theorem impl_PoolRead_tot {s : List Sl} (hs : Small s) {m : List Vo} (hm : SmallV m) (a : ByteArray) (b : Int) : Tot (fun k => impl_PoolRead.f k s m a b) (fun r => r = poolRead s m a b) := by
  unfold impl_PoolRead.f
  have hv : impl_Pool_vol.f s m a = some (vat m a) := rfl
  have hh : impl_Pool_hasBlock.f s m a b = some (if 0 ≤ vat m a ∧ inBlk m a b = true then vat m a else -1) := by
    unfold impl_Pool_hasBlock.f
    rw [hv, Option.bind_some]
    by_cases h0 : vat m a < 0
    · rw [if_pos h0, if_neg (fun e => by omega)]
    · have hr := (vat_range m a).resolve_left (by omega)
      have hb := (hm.at (i := (vat m a).toNat) (by omega)).2
      simp only [rdV_at']
      rw [w64 (x := ((atV m (vat m a).toNat).f1.length : Int) - 1) (by omega) (by omega), if_neg h0, if_pos (by omega), if_pos (by omega), impl_within_eq, Option.bind_some]
      by_cases h1 : inBlk m a b = true
      · rw [if_pos (show (decide (0 ≤ b) && decide (b ≤ ((atV m (vat m a).toNat).f1.length : Int) - 1)) = true from h1), if_pos ⟨by omega, h1⟩]
      · rw [if_neg (show ¬ (decide (0 ≤ b) && decide (b ≤ ((atV m (vat m a).toNat).f1.length : Int) - 1)) = true from h1), if_neg (fun e => h1 e.2)]
  refine Tot.bindN hh ?_
  by_cases h : 0 ≤ vat m a ∧ inBlk m a b = true
  · rw [if_pos h]
    refine Tot.neg (by omega) (Tot.bindE (impl_PoolOk_tot hs hm) (impl_PoolRead_j0 a b _ ?_))
    unfold canRead
    rw [decide_eq_true h.1, h.2]; simp
  · rw [if_neg h]
    refine Tot.pos (by omega) ?_
    refine Tot.shift ?_
    simp only [impl_PoolRead.j0]
    refine Tot.pos (by trivial) (Tot.now ?_)
    unfold poolRead
    rw [if_neg]
    intro hc
    unfold canRead at hc
    rw [Bool.and_eq_true, Bool.and_eq_true, decide_eq_true_eq] at hc
    exact h hc.2
theorem FnExactPoolRead (s : List La) (m : List Lv) (hg : (s.length ≤ maxLen ∧ ∀ x ∈ s, x.f0.size ≤ maxLen ∧ (Lit.int .i64 x.f1).wf = true) ∧ (m.length ≤ maxLen ∧ ∀ x ∈ m, LvOk x)) (a : ByteArray) (ha : a.size ≤ maxLen) (b : Int) (hb : (Lit.int .i64 b).wf = true) : ∃ k, laws_FnExactPoolRead.f k s m a b = some true := by
  refine Tot.rounds ?_
  unfold laws_FnExactPoolRead.f
  refine Tot.ite (fun _ => Tot.now rfl) (fun _ => Tot.bind (szP_tot s m hg.1 hg.2) fun r hr => Tot.ite (fun _ => Tot.now rfl) (fun h0 => ?_))
  obtain ⟨sm, vm⟩ := hr.resolve_left h0
  refine Tot.bindE (toP_tot s m sm vm) (Tot.bindE (spec_PoolRead_tot sm vm a b) (Tot.bindE (toP_tot s m sm vm) (Tot.bindE (impl_PoolRead_tot sm vm a b) (Tot.pos rfl ?_))))
  refine Tot.shift ?_
  simp only [laws_FnExactPoolRead.j0]
  exact Tot.neg (by simp) (Tot.bindE (toP_tot s m sm vm) (Tot.bindE (eqP_same sm vm) (Tot.pos rfl (Tot.now rfl))))
end Go.Proofs.Ytooamacekmjpaaa.Pure
