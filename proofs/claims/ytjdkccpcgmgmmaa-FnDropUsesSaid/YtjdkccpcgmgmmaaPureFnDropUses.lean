/- At drawn places, a dropped place is used once less, and free if nobody uses it any more; the others stay. -/
import Derived.Test.YtjdkccpcgmgmmaaQFnDropUses8
import Derived.Test.YtjdkccpcgmgmmaaU2
set_option linter.unusedVariables false
set_option linter.unusedSimpArgs false
namespace Go.Proofs.Ytjdkccpcgmgmmaa.Pure
open Go.RowKit Go.Proofs.Ytjdkccpcgmgmmaa.PFnDropUses Go.Proofs.YtjdkccpcgmgmmaaW.PrintWords Go.Proofs.YtjdkccpcgmgmmaaW.PrintLast Go.Proofs.YtjdkccpcgmgmmaaU
/-! ### pieces -/
theorem spec_l6In_eq (a b c : Int) : spec_l6In.f a b c = some (decide (b ≤ a) && decide (a ≤ c)) := by
  unfold spec_l6In.f
  by_cases h : a ≥ b
  · rw [if_pos h]; simp [show b ≤ a from h]
  · rw [if_neg h]; simp [show ¬ b ≤ a from h]
theorem impl_within_eq (a b c : Int) : impl_within.f a b c = some (decide (b ≤ a) && decide (a ≤ c)) := by
  unfold impl_within.f
  by_cases h : a ≥ b
  · rw [if_pos h]; simp [show b ≤ a from h]
  · rw [if_neg h]; simp [show ¬ b ≤ a from h]
theorem spec_TextOk_l0 (s : ByteArray) (hs : s.size ≤ 140737488355328) (d : Nat) : ∀ i : Nat, i + d = s.size → Tot (fun k => spec_TextOk.l0 k s (i : Int)) (fun r => r = (((bytesOf s).drop i).all okc && decide ((s.size : Int) ≤ 4))) := by
  induction d with
  | zero =>
    intro i hi
    refine Tot.shift ?_
    simp only [spec_TextOk.l0]
    refine Tot.neg (by omega) (Tot.now ?_)
    rw [List.drop_of_length_le (by rw [bytesOf_length]; omega)]
    simp
  | succ d ih =>
    intro i hi
    refine Tot.shift ?_
    simp only [spec_TextOk.l0]
    refine Tot.pos (by omega) (Tot.pos (by omega) (Tot.bindN (spec_l6In_eq _ _ _) ?_))
    rw [w64_bt, w64 (x := (i : Int) + 1) (by omega) (by omega), drop_at s i (by omega), List.all_cons]
    have e : okc (bt s i) = (decide (97 ≤ bt s i) && decide (bt s i ≤ 100)) := rfl
    refine Tot.ite (fun h => ?_) (fun h => Tot.now ?_)
    · rw [e, h, Bool.true_and]; exact ih (i + 1) (by omega)
    · rw [e, Bool.eq_false_iff.2 h]; simp
theorem spec_TextOk_tot (s : ByteArray) (hs : s.size ≤ 140737488355328) : Tot (fun k => spec_TextOk.f k s) (fun r => r = textOk s) := by
  unfold spec_TextOk.f
  exact spec_TextOk_l0 s hs s.size 0 (by omega)
theorem impl_TextOk_l0 (s : ByteArray) (hs : s.size ≤ 140737488355328) (d : Nat) : ∀ i : Nat, i + d = s.size → Tot (fun k => impl_TextOk.l0 k s (s.size : Int) (i : Int)) (fun r => r = (((bytesOf s).drop i).all okc && decide ((s.size : Int) ≤ 4))) := by
  induction d with
  | zero =>
    intro i hi
    refine Tot.shift ?_
    simp only [impl_TextOk.l0]
    refine Tot.neg (by omega) (Tot.now ?_)
    rw [List.drop_of_length_le (by rw [bytesOf_length]; omega)]
    simp
  | succ d ih =>
    intro i hi
    refine Tot.shift ?_
    simp only [impl_TextOk.l0]
    refine Tot.pos (by omega) (Tot.pos (by omega) (Tot.pos (by omega) (Tot.bindN (impl_within_eq _ _ _) ?_)))
    rw [w64_bt, w64 (x := (i : Int) + 1) (by omega) (by omega), drop_at s i (by omega), List.all_cons]
    have e : okc (bt s i) = (decide (97 ≤ bt s i) && decide (bt s i ≤ 100)) := rfl
    refine Tot.ite (fun h => ?_) (fun h => Tot.now ?_)
    · rw [e, h, Bool.true_and]; exact ih (i + 1) (by omega)
    · rw [e, Bool.eq_false_iff.2 h]; simp
theorem impl_TextOk_tot (s : ByteArray) (hs : s.size ≤ 140737488355328) : Tot (fun k => impl_TextOk.f k s) (fun r => r = textOk s) := by
  unfold impl_TextOk.f
  exact impl_TextOk_l0 s hs s.size 0 (by omega)
theorem place_step (s : ByteArray) (i : Nat) (h : i < s.size) (hok : textOk s = true) (x : Int) (hx : 0 ≤ x) (hx2 : x ≤ 100 * i) :
    wrap64 (x + wrap64 (wrap64 ((i : Int) + 1) * ((bt s (i : Int) - 97) % 256 + 1))) = x + ((i : Int) + 1) * (bt s (i : Int) - 96) ∧ 0 ≤ ((i : Int) + 1) * (bt s (i : Int) - 96) ∧ ((i : Int) + 1) * (bt s (i : Int) - 96) ≤ 100 := by
  unfold textOk at hok
  rw [Bool.and_eq_true] at hok
  obtain ⟨h1, h2⟩ := hok
  have h3 := of_decide_eq_true h2
  have h4 : bt s (i : Int) ∈ bytesOf s := by
    have := drop_at s i h
    exact List.mem_of_mem_drop (i := i) (by rw [this]; exact List.mem_cons_self)
  have h5 := List.all_eq_true.1 h1 _ h4
  unfold okc at h5
  rw [Bool.and_eq_true] at h5
  have h6 := of_decide_eq_true h5.1
  have h7 := of_decide_eq_true h5.2
  have h8 : (bt s (i : Int) - 97) % 256 + 1 = bt s (i : Int) - 96 := by omega
  rw [h8, w64 (x := (i : Int) + 1) (by omega) (by omega)]
  generalize bt s (i : Int) = c at *
  have hi : i = 0 ∨ i = 1 ∨ i = 2 ∨ i = 3 := by omega
  have hy : 0 ≤ ((i : Int) + 1) * (c - 96) ∧ ((i : Int) + 1) * (c - 96) ≤ 100 := by
    rcases hi with rfl | rfl | rfl | rfl <;> constructor <;> omega
  generalize ((i : Int) + 1) * (c - 96) = y at *
  rw [w64 (x := y) (by omega) (by omega), w64 (by omega) (by omega)]
  exact ⟨rfl, hy⟩
theorem spec_l1Place_l0 (s : ByteArray) (hok : textOk s = true) (hs : s.size ≤ 4) (d : Nat) : ∀ (i : Nat) (x : Int), i + d = s.size → 0 ≤ x → x ≤ 100 * i → Tot (fun k => spec_l1Place.l0 k s x (i : Int)) (fun r => r = (x + psum ((bytesOf s).drop i) (i : Int)) % 8 + 1) := by
  induction d with
  | zero =>
    intro i x hi h0 h1
    refine Tot.shift ?_
    simp only [spec_l1Place.l0]
    refine Tot.neg (by omega) (Tot.now ?_)
    rw [List.drop_of_length_le (by rw [bytesOf_length]; omega), Int.tmod_eq_emod_of_nonneg h0, w64 (by omega) (by omega)]
    simp [psum]
  | succ d ih =>
    intro i x hi h0 h1
    obtain ⟨e1, e2, e3⟩ := place_step s i (by omega) hok x h0 h1
    refine Tot.shift ?_
    simp only [spec_l1Place.l0]
    refine Tot.pos (by omega) (Tot.pos (by omega) ?_)
    rw [e1, w64 (x := (i : Int) + 1) (by omega) (by omega), drop_at s i (by omega)]
    refine (ih (i + 1) _ (by omega) (by omega) (by omega)).mono fun r h => ?_
    rw [h]
    simp only [psum, Int.natCast_add, Int.natCast_one]
    rw [Int.add_assoc]
/-! ### slots -/
abbrev Sl := S36
theorem sl_ext {a b : Sl} (h : a.f0 = b.f0) (h' : a.f1 = b.f1) : a = b := by
  cases a; cases b; simp_all
/-- The slot at a place. -/
def at_ (s : List Sl) (i : Nat) : Sl := s.getD i z36
theorem rd_at (s : List Sl) (i : Nat) : rd_T36 s (i : Int) = at_ s i := rfl
theorem rd_at' (s : List Sl) (i : Int) : rd_T36 s i = at_ s i.toNat := rfl
theorem at_mem {s : List Sl} {i : Nat} (h : i < s.length) : at_ s i ∈ s := by
  unfold at_
  rw [List.getD_eq_getElem?_getD, List.getElem?_eq_getElem h]
  exact List.getElem_mem h
theorem at_get {s : List Sl} {i : Nat} (h : i < s.length) : at_ s i = s[i] := by
  unfold at_
  rw [List.getD_eq_getElem?_getD, List.getElem?_eq_getElem h]
  rfl
theorem at_set {s : List Sl} {i j : Nat} {x : Sl} (h : i < s.length) : at_ (s.set i x) j = if i = j then x else at_ s j := by
  unfold at_
  rw [List.getD_eq_getElem?_getD, List.getD_eq_getElem?_getD, List.getElem?_set]
  by_cases e : i = j
  · rw [if_pos e, if_pos e]; subst e; simp [h]
  · rw [if_neg e, if_neg e]
theorem list_ext {a b : List Sl} (hl : a.length = b.length) (h : ∀ i, i < a.length → at_ a i = at_ b i) : a = b := by
  refine List.ext_getElem hl fun i h1 h2 => ?_
  rw [← at_get h1, ← at_get h2]
  exact h i h1
/-- Small texts, few slots. -/
def Small (s : List Sl) : Prop := s.length ≤ 1048576 ∧ ∀ x ∈ s, x.f0.size ≤ 1048576
theorem Small.at {s : List Sl} (h : Small s) {i : Nat} (hi : i < s.length) : (at_ s i).f0.size ≤ 1048576 := h.2 _ (at_mem hi)
theorem empty_iff (s : ByteArray) : empty s = true ↔ s.size = 0 := by
  unfold empty
  rw [ByteArray.toList_eq, ← data_length]
  constructor
  · intro h; rw [beq_iff_eq.1 h]; rfl
  · intro h; rw [List.eq_nil_of_length_eq_zero h]; rfl
theorem beq_text (a b : ByteArray) : (a.toList == b.toList) = decide (a = b) := by
  by_cases h : a = b
  · subst h; simp
  · rw [decide_eq_false h]
    exact beq_eq_false_iff_ne.2 fun e => h (toList_inj.1 e)
/-! ### a store that is valid -/
/-- Slot i is as it must be beside the slots ahead of it. -/
def slotOk (s : List Sl) (i : Nat) : Bool :=
  textOk (at_ s i).f0 && (decide (0 ≤ (at_ s i).f1) && decide ((at_ s i).f1 ≤ 99)) && (empty (at_ s i).f0 == ((at_ s i).f1 == 0)) && (empty (at_ s i).f0 || !((s.take i).any fun o => o.f0.toList == (at_ s i).f0.toList))
def storeFrom (s : List Sl) : Nat → Nat → Bool
  | 0, _ => ((s.length : Int) == 8)
  | d + 1, i => slotOk s i && storeFrom s d (i + 1)
def storeOk (s : List Sl) : Bool := storeFrom s s.length 0
theorem take_any (s : List Sl) (i : Nat) (h : i < s.length) (p : Sl → Bool) : (s.take (i + 1)).any p = ((s.take i).any p || p (at_ s i)) := by
  rw [List.take_succ_eq_append_getElem h, List.any_append, at_get h]
  simp
theorem storeFrom_all (s : List Sl) : ∀ d i, i + d = s.length → storeFrom s d i = true → s.length = 8 ∧ ∀ j, i ≤ j → j < s.length → slotOk s j = true := by
  intro d
  induction d with
  | zero =>
    intro i hi h
    simp only [storeFrom, beq_iff_eq] at h
    exact ⟨by omega, fun j h1 h2 => by omega⟩
  | succ d ih =>
    intro i hi h
    simp only [storeFrom, Bool.and_eq_true] at h
    obtain ⟨h8, hr⟩ := ih (i + 1) (by omega) h.2
    refine ⟨h8, fun j h1 h2 => ?_⟩
    by_cases e : i = j
    · subst e; exact h.1
    · exact hr j (by omega) h2
theorem storeFrom_of (s : List Sl) (h8 : s.length = 8) : ∀ d i, i + d = s.length → (∀ j, i ≤ j → j < s.length → slotOk s j = true) → storeFrom s d i = true := by
  intro d
  induction d with
  | zero => intro i hi h; simp only [storeFrom, h8]; rfl
  | succ d ih =>
    intro i hi h
    simp only [storeFrom, Bool.and_eq_true]
    exact ⟨h i (Nat.le_refl _) (by omega), ih (i + 1) (by omega) fun j h1 h2 => h j (by omega) h2⟩
/-- What a valid store is, slot by slot. -/
structure Valid (s : List Sl) : Prop where
  len : s.length = 8
  text : ∀ i, i < 8 → textOk (at_ s i).f0 = true
  uses : ∀ i, i < 8 → 0 ≤ (at_ s i).f1 ∧ (at_ s i).f1 ≤ 99
  free : ∀ i, i < 8 → (empty (at_ s i).f0 = true ↔ (at_ s i).f1 = 0)
  once : ∀ i j, i < 8 → j < 8 → i ≠ j → empty (at_ s i).f0 = false → (at_ s i).f0 ≠ (at_ s j).f0
theorem valid_of {s : List Sl} (h : storeOk s = true) : Valid s := by
  obtain ⟨h8, ha⟩ := storeFrom_all s s.length 0 (by omega) h
  have each : ∀ i, i < 8 → slotOk s i = true := fun i hi => ha i (Nat.zero_le _) (by omega)
  have parts : ∀ i, i < 8 → textOk (at_ s i).f0 = true ∧ (0 ≤ (at_ s i).f1 ∧ (at_ s i).f1 ≤ 99) ∧ (empty (at_ s i).f0 == ((at_ s i).f1 == 0)) = true ∧ (empty (at_ s i).f0 = true ∨ ((s.take i).any fun o => o.f0.toList == (at_ s i).f0.toList) = false) := by
    intro i hi
    have := each i hi
    unfold slotOk at this
    rw [Bool.and_eq_true, Bool.and_eq_true, Bool.and_eq_true, Bool.and_eq_true, Bool.or_eq_true, Bool.not_eq_true', decide_eq_true_eq, decide_eq_true_eq] at this
    exact ⟨this.1.1.1, this.1.1.2, this.1.2, this.2⟩
  have lt : ∀ i j, i < 8 → j < i → empty (at_ s i).f0 = false → (at_ s i).f0 ≠ (at_ s j).f0 := by
    intro i j hi hj he hEq
    rcases (parts i hi).2.2.2 with h | h
    · rw [h] at he; cases he
    · have := List.any_eq_false.1 h (at_ s j) (by
        have hl : j < (s.take i).length := by rw [List.length_take]; omega
        have e : (s.take i)[j] = at_ s j := by rw [List.getElem_take, at_get (by omega)]
        rw [← e]; exact List.getElem_mem hl)
      apply this
      simp [hEq]
  refine ⟨h8, fun i hi => (parts i hi).1, fun i hi => (parts i hi).2.1, fun i hi => ?_, fun i j hi hj hne he hEq => ?_⟩
  · have := beq_iff_eq.1 (parts i hi).2.2.1
    rw [this]; simp
  · rcases Nat.lt_or_gt_of_ne hne with h | h
    · have he2 : empty (at_ s j).f0 = false := by rw [← hEq]; exact he
      exact lt j i hj h he2 hEq.symm
    · exact lt i j hi h he hEq
theorem of_valid {s : List Sl} (v : Valid s) : storeOk s = true := by
  refine storeFrom_of s v.len s.length 0 (by omega) fun i _ hi => ?_
  rw [v.len] at hi
  unfold slotOk
  have hu := v.uses i hi
  have hf : (empty (at_ s i).f0 == ((at_ s i).f1 == 0)) = true := by
    rw [beq_iff_eq, Bool.eq_iff_iff, v.free i hi]; simp
  rw [v.text i hi, decide_eq_true hu.1, decide_eq_true hu.2, hf]
  simp only [Bool.true_and, Bool.and_true]
  cases he : empty (at_ s i).f0 with
  | true => rfl
  | false =>
    rw [Bool.false_or, Bool.not_eq_true', List.any_eq_false]
    intro o ho
    obtain ⟨j, hj, e⟩ := List.getElem_of_mem ho
    rw [List.length_take] at hj
    rw [List.getElem_take] at e
    have hj8 : j < 8 := by omega
    have hne := v.once i j hi hj8 (by omega) he
    rw [at_get (i := j) (by omega), e] at hne
    rw [beq_text]
    simpa using fun h => hne h.symm
theorem valid_small {s : List Sl} (v : Valid s) : Small s := by
  refine ⟨by rw [v.len]; omega, fun x hx => ?_⟩
  obtain ⟨i, hi, rfl⟩ := List.getElem_of_mem hx
  rw [v.len] at hi
  rw [← at_get]
  have := textOk_size (v.text i hi)
  omega
theorem spec_StoreOk_ (s : List Sl) (hs : Small s) (d : Nat) : ∀ i : Nat, i + d = s.length → Tot (fun k => spec_StoreOk.l0 k s (i : Int)) (fun r => r = storeFrom s d i) := by
  have hn := hs.1
  induction d with
  | zero =>
    intro i hi
    refine Tot.shift ?_
    simp only [spec_StoreOk.l0]
    exact Tot.neg (by omega) (Tot.now rfl)
  | succ d ih =>
    intro i hi
    have inner : ∀ (e : Nat), ∀ (j : Nat), j + e = i → (empty (at_ s i).f0 = true ∨ ((s.take j).any fun o => o.f0.toList == (at_ s i).f0.toList) = false) → Tot (fun k => spec_StoreOk.l1 k s (i : Int) (j : Int)) (fun r => r = ((empty (at_ s i).f0 || !((s.take i).any fun o => o.f0.toList == (at_ s i).f0.toList)) && storeFrom s d (i + 1))) := by
      intro e
      induction e with
      | zero =>
        intro j hj hno
        obtain rfl : j = i := by omega
        refine Tot.shift ?_
        simp only [spec_StoreOk.l1]
        refine Tot.neg (by omega) ?_
        rw [w64 (x := (j : Int) + 1) (by omega) (by omega)]
        refine (ih (j + 1) (by omega)).mono fun r hr => ?_
        rw [hr]
        rcases hno with h | h <;> rw [h] <;> simp
      | succ e ihe =>
        intro j hj hno
        refine Tot.shift ?_
        simp only [spec_StoreOk.l1, rd_at]
        refine Tot.pos (by omega) (Tot.pos (by omega) (Tot.pos (by omega) ?_))
        rw [w64 (x := (j : Int) + 1) (by omega) (by omega)]
        refine Tot.ite (fun he => ihe (j + 1) (by omega) (Or.inl (by simp [empty, he]))) (fun he => Tot.pos (by omega) (Tot.pos (by omega) (Tot.ite (fun hq => Tot.now ?_) (fun hq => ihe (j + 1) (by omega) ?_))))
        · have h1 : empty (at_ s i).f0 = false := by simp [empty, he]
          have h2 : ((s.take i).any fun o => o.f0.toList == (at_ s i).f0.toList) = true := by
            rw [List.any_eq_true]
            refine ⟨at_ s j, ?_, by simp [hq]⟩
            have hl : j < (s.take i).length := by rw [List.length_take]; omega
            have e2 : (s.take i)[j] = at_ s j := by rw [List.getElem_take, at_get (by omega)]
            rw [← e2]; exact List.getElem_mem hl
          rw [h1, h2]; rfl
        · right
          rw [take_any s j (by omega)]
          rcases hno with h | h
          · exfalso; apply he; simpa [empty] using h
          · rw [h, Bool.false_or]
            exact beq_eq_false_iff_ne.2 fun e => hq e.symm
    refine Tot.shift ?_
    simp only [spec_StoreOk.l0, rd_at]
    have hz := hs.at (i := i) (by omega)
    refine Tot.pos (by omega) (Tot.pos (by omega) (Tot.bindE (spec_TextOk_tot _ (by omega)) ?_))
    have bad : ∀ b : Bool, slotOk s i = false → b = true → Tot (fun k => spec_StoreOk.j1 k s (i : Int) b) (fun r => r = storeFrom s (d + 1) i) := by
      intro b hb hbt
      refine Tot.shift ?_
      simp only [spec_StoreOk.j1]
      refine Tot.pos hbt (Tot.now ?_)
      simp only [storeFrom, hb, Bool.false_and]
    refine Tot.ite (fun h1 => Tot.bindN (spec_l6In_eq _ _ _) (Tot.ite (fun h2 => ?_) (fun h2 => bad _ (by simp only [slotOk, Bool.eq_false_iff.2 h2]; simp) rfl))) (fun h1 => bad _ (by simp only [slotOk, Bool.eq_false_iff.2 h1]; simp) rfl)
    refine Tot.shift ?_
    simp only [spec_StoreOk.j1]
    refine Tot.ite (fun h3 => Tot.now ?_) (fun h3 => ?_)
    · have : (empty (at_ s i).f0 == ((at_ s i).f1 == 0)) = false := by
        rw [bne] at h3
        unfold empty
        cases hx : ((at_ s i).f0.toList == []) <;> cases hy : ((at_ s i).f1 == 0) <;> simp_all
      simp only [storeFrom, slotOk, this]; simp
    · have : (empty (at_ s i).f0 == ((at_ s i).f1 == 0)) = true := by
        rw [bne] at h3
        unfold empty
        cases hx : ((at_ s i).f0.toList == []) <;> cases hy : ((at_ s i).f1 == 0) <;> simp_all
      refine (inner i 0 (by omega) (Or.inr (by simp))).mono fun r hr => ?_
      rw [hr]
      simp only [storeFrom, slotOk, this, h1, h2]; simp
theorem spec_StoreOk_tot {s : List Sl} (hs : Small s) : Tot (fun k => spec_StoreOk.f k s) (fun r => r = storeOk s) := by
  unfold spec_StoreOk.f
  exact spec_StoreOk_ s hs s.length 0 (by omega)
theorem impl_StoreOk_ (s : List Sl) (hs : Small s) (d : Nat) : ∀ i : Nat, i + d = s.length → Tot (fun k => impl_StoreOk.l0 k s (i : Int)) (fun r => r = storeFrom s d i) := by
  have hn := hs.1
  induction d with
  | zero =>
    intro i hi
    refine Tot.shift ?_
    simp only [impl_StoreOk.l0]
    exact Tot.neg (by omega) (Tot.now rfl)
  | succ d ih =>
    intro i hi
    refine Tot.shift ?_
    simp only [impl_StoreOk.l0, rd_at, Int.toNat_natCast]
    have hz := hs.at (i := i) (by omega)
    rw [w64 (x := (i : Int) + 1) (by omega) (by omega)]
    refine Tot.pos (by omega) (Tot.pos (by omega) (Tot.bindE (impl_TextOk_tot _ (by omega)) ?_))
    refine Tot.ite (fun h1 => Tot.bindN (impl_within_eq _ _ _) (Tot.ite (fun h2 => ?_) (fun h2 => Tot.now ?_))) (fun h1 => Tot.now ?_)
    · refine Tot.ite (fun h3 => Tot.now ?_) (fun h3 => ?_)
      · have : (empty (at_ s i).f0 == ((at_ s i).f1 == 0)) = false := by
          rw [bne] at h3
          unfold empty
          cases hx : ((at_ s i).f0.toList == []) <;> cases hy : ((at_ s i).f1 == 0) <;> simp_all
        simp only [storeFrom, slotOk, this]; simp
      · have : (empty (at_ s i).f0 == ((at_ s i).f1 == 0)) = true := by
          rw [bne] at h3
          unfold empty
          cases hx : ((at_ s i).f0.toList == []) <;> cases hy : ((at_ s i).f1 == 0) <;> simp_all
        refine Tot.ite (fun h4 => (ih (i + 1) (by omega)).mono fun r hr => ?_) (fun h4 => Tot.ite (fun h5 => Tot.now ?_) (fun h5 => (ih (i + 1) (by omega)).mono fun r hr => ?_))
        · have h4' : empty (at_ s i).f0 = true := h4
          have hk : slotOk s i = true := by unfold slotOk; rw [h1, h2, this, h4']; rfl
          rw [hr]; simp only [storeFrom, hk, Bool.true_and]
        · have h4' : empty (at_ s i).f0 = false := Bool.eq_false_iff.2 h4
          simp only [storeFrom, slotOk, h5, h4']; simp
        · have hk : slotOk s i = true := by unfold slotOk; rw [h1, h2, this, Bool.eq_false_iff.2 h5]; simp
          rw [hr]; simp only [storeFrom, hk, Bool.true_and]
    · simp only [storeFrom, slotOk, Bool.eq_false_iff.2 h2]; simp
    · simp only [storeFrom, slotOk, Bool.eq_false_iff.2 h1]; simp
theorem impl_StoreOk_tot {s : List Sl} (hs : Small s) : Tot (fun k => impl_StoreOk.f k s) (fun r => r = storeOk s) := by
  unfold impl_StoreOk.f
  exact impl_StoreOk_ s hs s.length 0 (by omega)
/-! ### where a piece is -/
/-- The place of a piece, 0 if it is nowhere. -/
def spos (s : List Sl) (t : ByteArray) : Int := Lib.idxBy (fun _ (y : Sl) => y.f0.toList == t.toList) s default + 1
theorem getElem_at (s : List Sl) (j : Nat) (h : j < s.length) : s[j]! = at_ s j := by
  rw [at_get h]; simp [h]
theorem spos_hit {s : List Sl} {t : ByteArray} {j : Nat} (hj : j < s.length) (h : (at_ s j).f0 = t) (hne : ∀ i, i < j → (at_ s i).f0 ≠ t) : spos s t = (j : Int) + 1 := by
  unfold spos
  have := Lib.idxBy_hit (fun _ (y : Sl) => y.f0.toList == t.toList) s s.length j default hj (Nat.le_refl _) (by show ((s[j]!).f0.toList == t.toList) = true; rw [getElem_at s j hj, h]; simp) (fun i hi => by
    show ((s[i]!).f0.toList == t.toList) = false
    rw [getElem_at s i (by omega), beq_text, decide_eq_false (hne i hi)])
  rw [List.take_length] at this
  rw [this]
theorem spos_miss {s : List Sl} {t : ByteArray} (h : ∀ i, i < s.length → (at_ s i).f0 ≠ t) : spos s t = 0 := by
  unfold spos
  have := Lib.idxBy_miss (fun _ (y : Sl) => y.f0.toList == t.toList) s s.length default (fun i hi => by
    show ((s[i]!).f0.toList == t.toList) = false
    rw [getElem_at s i hi, beq_text, decide_eq_false (h i hi)])
  rw [List.take_length] at this
  rw [this]; rfl
theorem valid_spos {s : List Sl} (v : Valid s) {t : ByteArray} (ht : empty t = false) {j : Nat} (hj : j < 8) (h : (at_ s j).f0 = t) : spos s t = (j : Int) + 1 :=
  spos_hit (by rw [v.len]; exact hj) h fun i hi e => v.once j i hj (by omega) (by omega) (by rw [h]; exact ht) (by rw [h, e])
/-- The reference's round: from place a on, d places. -/
def walk (s : List Sl) (t : ByteArray) : Nat → Int → Int → Int × Bool
  | 0, _, free => (free, false)
  | d + 1, a, free => if (at_ s (a - 1).toNat).f0 = t then (a, true) else walk s t d (a % 8 + 1) (if (at_ s (a - 1).toNat).f1 = 0 ∧ free = 0 then a else free)
/-- The first free place from a on. -/
def ff (s : List Sl) : Nat → Int → Int
  | 0, _ => 0
  | d + 1, a => if (at_ s (a - 1).toNat).f1 = 0 then a else ff s d (a % 8 + 1)
theorem walk_hit {s : List Sl} (v : Valid s) {t : ByteArray} (ht : empty t = false) {j : Nat} (hj : j < 8) (h : (at_ s j).f0 = t) : ∀ (d : Nat) (a free : Int), 1 ≤ a → a ≤ 8 → (∃ m : Nat, m < d ∧ (a - 1 + m) % 8 = j) → walk s t d a free = ((j : Int) + 1, true) := by
  intro d
  induction d with
  | zero => intro a free h1 h8 ⟨m, hm, _⟩; omega
  | succ d ih =>
    intro a free h1 h8 ⟨m, hm, he⟩
    simp only [walk]
    by_cases e : (at_ s (a - 1).toNat).f0 = t
    · rw [if_pos e]
      have : (a - 1).toNat = j := by
        refine Classical.byContradiction fun hne => ?_
        exact v.once j (a - 1).toNat hj (by omega) (fun x => hne x.symm) (by rw [h]; exact ht) (by rw [h, e])
      rw [show a = (j : Int) + 1 from by omega]
    · rw [if_neg e]
      refine ih _ _ (by omega) (by omega) ?_
      cases m with
      | zero =>
        exfalso; apply e
        rw [← h]; congr 2; omega
      | succ m => exact ⟨m, by omega, by omega⟩
theorem walk_miss {s : List Sl} {t : ByteArray} (h : ∀ j, j < 8 → (at_ s j).f0 ≠ t) : ∀ (d : Nat) (a free : Int), 1 ≤ a → a ≤ 8 → walk s t d a free = (if free = 0 then ff s d a else free, false) := by
  intro d
  induction d with
  | zero => intro a free h1 h8; simp only [walk, ff]; by_cases e : free = 0 <;> simp [e]
  | succ d ih =>
    intro a free h1 h8
    simp only [walk, ff]
    rw [if_neg (h _ (by omega)), ih _ _ (by omega) (by omega)]
    by_cases e : free = 0
    · by_cases u : (at_ s (a - 1).toNat).f1 = 0
      · rw [show (if (at_ s (a - 1).toNat).f1 = 0 ∧ free = 0 then a else free) = a from if_pos ⟨u, e⟩, if_neg (show ¬ a = 0 by omega), if_pos e, if_pos u]
      · rw [show (if (at_ s (a - 1).toNat).f1 = 0 ∧ free = 0 then a else free) = free from if_neg fun x => u x.1, if_pos e, if_pos e, if_neg u]
    · rw [show (if (at_ s (a - 1).toNat).f1 = 0 ∧ free = 0 then a else free) = free from if_neg fun x => e x.2, if_neg e, if_neg e]
theorem ff_spec (s : List Sl) : ∀ (d : Nat) (a : Int), 1 ≤ a → a ≤ 8 → (ff s d a = 0 ∨ 1 ≤ ff s d a ∧ ff s d a ≤ 8 ∧ (at_ s (ff s d a - 1).toNat).f1 = 0) := by
  intro d
  induction d with
  | zero => intro a h1 h8; exact Or.inl rfl
  | succ d ih =>
    intro a h1 h8
    simp only [ff]
    by_cases u : (at_ s (a - 1).toNat).f1 = 0
    · rw [if_pos u]; exact Or.inr ⟨h1, h8, u⟩
    · rw [if_neg u]; exact ih _ (by omega) (by omega)
theorem l1Next_eq (a : Int) (h1 : 1 ≤ a) : spec_l1Next.f a = some (a % 8 + 1) := by
  unfold spec_l1Next.f
  rw [Int.tmod_eq_emod_of_nonneg (by omega), w64 (by omega) (by omega)]
theorem l2Find_ (s : List Sl) (t : ByteArray) (h8 : s.length = 8) (d : Nat) : ∀ (i : Nat) (a free : Int), i + d = 8 → 1 ≤ a → a ≤ 8 → Tot (fun k => spec_l2Find.l0 k s t a free (i : Int)) (fun r => r = walk s t d a free) := by
  induction d with
  | zero =>
    intro i a free hi h1 h2
    refine Tot.shift ?_
    simp only [spec_l2Find.l0]
    exact Tot.neg (by omega) (Tot.now rfl)
  | succ d ih =>
    intro i a free hi h1 h2
    refine Tot.shift ?_
    simp only [spec_l2Find.l0, rd_at']
    rw [w64 (x := (i : Int) + 1) (by omega) (by omega), w64 (x := a - 1) (by omega) (by omega)]
    simp only [walk]
    refine Tot.pos (by omega) (Tot.pos (by omega) (Tot.pos (by omega) (Tot.ite (fun h => Tot.now ?_) (fun h => ?_))))
    · rw [if_pos (toList_inj.1 h)]
    · rw [if_neg (fun e => h (toList_inj.2 e))]
      refine Tot.ite (fun hu => Tot.ite (fun hf => ?_) (fun hf => ?_)) (fun hu => ?_)
      · rw [if_pos ⟨hu, hf⟩]
        exact Tot.bindN (l1Next_eq a h1) (ih (i + 1) _ _ (by omega) (by omega) (by omega))
      · rw [if_neg (fun x => hf x.2)]
        exact Tot.bindN (l1Next_eq a h1) (ih (i + 1) _ _ (by omega) (by omega) (by omega))
      · rw [if_neg (fun x => hu x.1)]
        exact Tot.bindN (l1Next_eq a h1) (ih (i + 1) _ _ (by omega) (by omega) (by omega))
theorem l1Place_tot {t : ByteArray} (ht : textOk t = true) : Tot (fun k => spec_l1Place.f k t) (fun r => r = place t) := by
  unfold spec_l1Place.f
  refine (spec_l1Place_l0 t ht (textOk_size ht) t.size 0 0 (by omega) (by omega) (by omega)).mono fun r e => ?_
  rw [e]; simp [place]
/-- What the reference's look-up gives: the piece's place; or the first free one. -/
def look (s : List Sl) (t : ByteArray) : Int × Bool := if spos s t = 0 then (ff s 8 (place t), false) else (spos s t, true)
theorem l2Find_tot {s : List Sl} (v : Valid s) {t : ByteArray} (ht : textOk t = true) (he : empty t = false) : Tot (fun k => spec_l2Find.f k s t) (fun r => r = look s t) := by
  unfold spec_l2Find.f
  have pr := place_range t
  refine Tot.bindE (l1Place_tot ht) ((l2Find_ s t v.len 8 0 (place t) 0 (by omega) pr.1 pr.2).mono fun r hr => ?_)
  rw [hr]
  unfold look
  by_cases h : ∃ j, j < 8 ∧ (at_ s j).f0 = t
  · obtain ⟨j, hj, hjt⟩ := h
    rw [valid_spos v he hj hjt, if_neg (by omega)]
    exact walk_hit v he hj hjt 8 _ _ pr.1 pr.2 ⟨((j : Int) - (place t - 1)).toNat % 8 + (if (j : Int) < place t - 1 then (8 - ((place t - 1) - j).toNat) else 0), by split <;> omega, by split <;> omega⟩
  · have hm : ∀ j, j < 8 → (at_ s j).f0 ≠ t := fun j hj e => h ⟨j, hj, e⟩
    rw [spos_miss (by rw [v.len]; exact hm), if_pos rfl, walk_miss hm _ _ _ pr.1 pr.2, if_pos rfl]
theorem impl_copy_eq (s : List Sl) (h : s.length ≤ 1048576) : impl_Slot_67.f s = some s := by
  unfold impl_Slot_67.f
  rw [Option.bind_some, if_pos (by simp; omega)]
  simp
theorem spec_copy_eq (s : List Sl) (h : s.length ≤ 1048576) : spec_l2Copy.f s = some s := by
  unfold spec_l2Copy.f
  rw [Option.bind_some, if_pos (by simp; omega)]
  simp
/-! ### a piece is dropped -/
def drop (s : List Sl) (p : Int) : List Sl := if (at_ s (p - 1).toNat).f1 - 1 = 0 then s.set (p - 1).toNat ⟨(⟨#[]⟩ : ByteArray), 0⟩ else s.set (p - 1).toNat ⟨(at_ s (p - 1).toNat).f0, (at_ s (p - 1).toNat).f1 - 1⟩
theorem dropIf_eq (s : List Sl) (p : Int) (hl : s.length ≤ 1048576) (h1 : 1 ≤ p) (h2 : p ≤ s.length) (hu : 0 ≤ (at_ s (p - 1).toNat).f1) (hu2 : (at_ s (p - 1).toNat).f1 ≤ 1000) :
    (if 0 ≤ (wrap64 (p - 1)) then (if (wrap64 (p - 1)) < (s.length : Int) then ((some (s.set ((wrap64 (p - 1)) : Int).toNat (⟨(rd_T36 s (wrap64 (p - 1))).f0, wrap64 (((rd_T36 s (wrap64 (p - 1))).f1) - 1)⟩ : Sl) : List Sl)).bind fun y => (if ((rd_T36 y (wrap64 (p - 1))).f1) = 0 then (some (y.set ((wrap64 (p - 1)) : Int).toNat (⟨(⟨#[]⟩ : ByteArray), (rd_T36 y (wrap64 (p - 1))).f1⟩ : Sl))) else (some y))) else (none)) else (none)) = some (drop s p) := by
  rw [w64 (x := p - 1) (by omega) (by omega), if_pos (by omega), if_pos (by omega), Option.bind_some]
  simp only [rd_at']
  have z : wrap64 ((at_ s (p - 1).toNat).f1 - 1) = (at_ s (p - 1).toNat).f1 - 1 := w64 (by omega) (by omega)
  have e : at_ (s.set (p - 1).toNat ⟨(at_ s (p - 1).toNat).f0, wrap64 ((at_ s (p - 1).toNat).f1 - 1)⟩) (p - 1).toNat = ⟨(at_ s (p - 1).toNat).f0, (at_ s (p - 1).toNat).f1 - 1⟩ := by
    rw [at_set (by omega), if_pos rfl, z]
  by_cases h : (at_ s (p - 1).toNat).f1 - 1 = 0
  · rw [show drop s p = s.set (p - 1).toNat ⟨(⟨#[]⟩ : ByteArray), 0⟩ from if_pos h]
    refine (if_pos (by rw [e]; exact h)).trans ?_
    rw [e, List.set_set, h]
  · rw [show drop s p = s.set (p - 1).toNat ⟨(at_ s (p - 1).toNat).f0, (at_ s (p - 1).toNat).f1 - 1⟩ from if_neg h]
    refine (if_neg (by rw [e]; exact h)).trans ?_
    rw [z]
def canDrop (s : List Sl) (p : Int) : Bool := storeOk s && ((decide (1 ≤ p) && decide (p ≤ 8)) && !((at_ s (p - 1).toNat).f1 == 0))
def storeDrop (s : List Sl) (p : Int) : List Sl × Bool := if canDrop s p = true then (drop s p, true) else ([], false)
theorem spec_drop_eq (s : List Sl) (p : Int) (hl : s.length ≤ 1048576) (h1 : 1 ≤ p) (h2 : p ≤ s.length) (hu : 0 ≤ (at_ s (p - 1).toNat).f1) (hu2 : (at_ s (p - 1).toNat).f1 ≤ 1000) : spec_l2Drop.f s p = some (drop s p) := dropIf_eq s p hl h1 h2 hu hu2
theorem spec_StoreDrop_tot {s : List Sl} (hs : Small s) (p : Int) : Tot (fun k => spec_StoreDrop.f k s p) (fun r => r = storeDrop s p) := by
  have no : ∀ b : Bool, b = true → canDrop s p = false → Tot (fun k => spec_StoreDrop.j0 k s p b) (fun r => r = storeDrop s p) := by
    intro b hb ha
    refine Tot.shift ?_
    simp only [spec_StoreDrop.j0]
    refine Tot.pos hb (Tot.now ?_)
    unfold storeDrop
    rw [ha]; rfl
  unfold spec_StoreDrop.f
  refine Tot.bindE (spec_StoreOk_tot hs) (Tot.ite (fun h => Tot.bindN (spec_l6In_eq _ _ _) (Tot.ite (fun h2 => ?_) (fun h2 => no _ rfl (by unfold canDrop; rw [Bool.eq_false_iff.2 h2]; simp)))) (fun h => no _ rfl (by unfold canDrop; rw [Bool.eq_false_iff.2 h]; simp)))
  have v := valid_of h
  have hl := v.len
  have hp := h2
  rw [Bool.and_eq_true, decide_eq_true_eq, decide_eq_true_eq] at hp
  have hu := v.uses (p - 1).toNat (by omega)
  simp only [rd_at']
  rw [w64 (x := p - 1) (by omega) (by omega)]
  refine Tot.pos (by omega) (Tot.pos (by omega) ?_)
  cases hf : ((at_ s (p - 1).toNat).f1 == 0) with
  | true => exact no _ rfl (by unfold canDrop; rw [hf]; simp)
  | false =>
    refine Tot.shift ?_
    simp only [spec_StoreDrop.j0]
    refine Tot.neg (by simp) (Tot.bindN (spec_copy_eq s hs.1) (Tot.bindN (spec_drop_eq s p hs.1 (by omega) (by omega) (by omega) (by omega)) (Tot.now ?_)))
    unfold storeDrop
    rw [if_pos (by unfold canDrop; rw [h, h2, hf]; rfl)]
theorem impl_drop_eq (s : List Sl) (p : Int) (hl : s.length ≤ 1048576) (h1 : 1 ≤ p) (h2 : p ≤ s.length) (hu : 0 ≤ (at_ s (p - 1).toNat).f1) (hu2 : (at_ s (p - 1).toNat).f1 ≤ 1000) : impl_drop.f s p = some (drop s p) := dropIf_eq s p hl h1 h2 hu hu2
theorem impl_StoreDrop_tot {s : List Sl} (hs : Small s) (p : Int) : Tot (fun k => impl_StoreDrop.f k s p) (fun r => r = storeDrop s p) := by
  have no : ∀ b : Bool, b = true → canDrop s p = false → Tot (fun k => impl_StoreDrop.j0 k s p b) (fun r => r = storeDrop s p) := by
    intro b hb ha
    refine Tot.shift ?_
    simp only [impl_StoreDrop.j0]
    refine Tot.pos hb (Tot.now ?_)
    unfold storeDrop
    rw [ha]; rfl
  unfold impl_StoreDrop.f
  have hi : impl_isSlot.f p = some (decide (1 ≤ p) && decide (p ≤ 8)) := by
    unfold impl_isSlot.f
    rw [impl_within_eq, Option.bind_some]
  refine Tot.bindE (impl_StoreOk_tot hs) (Tot.ite (fun h => Tot.bindN hi (Tot.ite (fun h2 => ?_) (fun h2 => no _ rfl (by unfold canDrop; rw [Bool.eq_false_iff.2 h2]; simp)))) (fun h => no _ rfl (by unfold canDrop; rw [Bool.eq_false_iff.2 h]; simp)))
  have v := valid_of h
  have hl := v.len
  have hp := h2
  rw [Bool.and_eq_true, decide_eq_true_eq, decide_eq_true_eq] at hp
  have hu := v.uses (p - 1).toNat (by omega)
  simp only [rd_at']
  rw [w64 (x := p - 1) (by omega) (by omega)]
  refine Tot.pos (by omega) (Tot.pos (by omega) ?_)
  cases hf : ((at_ s (p - 1).toNat).f1 == 0) with
  | true => exact no _ rfl (by unfold canDrop; rw [hf]; simp)
  | false =>
    refine Tot.shift ?_
    simp only [impl_StoreDrop.j0]
    refine Tot.neg (by simp) (Tot.bindN (impl_copy_eq s hs.1) (Tot.bindN (impl_drop_eq s p hs.1 (by omega) (by omega) (by omega) (by omega)) (Tot.now ?_)))
    unfold storeDrop
    rw [if_pos (by unfold canDrop; rw [h, h2, hf]; rfl)]
/-! ### what a place's change does -/
theorem Valid.set {s : List Sl} (v : Valid s) {i : Nat} (hi : i < 8) {x : Sl} (ht : textOk x.f0 = true) (h0 : 0 ≤ x.f1) (h1 : x.f1 ≤ 99) (hf : empty x.f0 = true ↔ x.f1 = 0) (ho : empty x.f0 = false → ∀ j, j < 8 → j ≠ i → (at_ s j).f0 ≠ x.f0) : Valid (s.set i x) := by
  have hl := v.len
  refine ⟨by rw [List.length_set]; exact hl, fun j hj => ?_, fun j hj => ?_, fun j hj => ?_, fun j k hj hk hne he => ?_⟩
  · rw [at_set (by omega)]; by_cases e : i = j
    · rw [if_pos e]; exact ht
    · rw [if_neg e]; exact v.text j hj
  · rw [at_set (by omega)]; by_cases e : i = j
    · rw [if_pos e]; exact ⟨h0, h1⟩
    · rw [if_neg e]; exact v.uses j hj
  · rw [at_set (by omega)]; by_cases e : i = j
    · rw [if_pos e]; exact hf
    · rw [if_neg e]; exact v.free j hj
  · rw [at_set (by omega)] at he ⊢
    rw [at_set (by omega)]
    by_cases e : i = j
    · rw [if_pos e] at he ⊢
      rw [if_neg (by omega)]
      exact fun h => ho he k hk (by omega) h.symm
    · rw [if_neg e] at he ⊢
      by_cases e2 : i = k
      · rw [if_pos e2]
        intro h
        exact ho (by rw [← h]; exact he) j hj (by omega) h
      · rw [if_neg e2]; exact v.once j k hj hk hne he
theorem small_set {s : List Sl} (h : Small s) (i : Nat) {x : Sl} (hx : x.f0.size ≤ 1048576) : Small (s.set i x) := by
  refine ⟨by rw [List.length_set]; exact h.1, fun y hy => ?_⟩
  rcases List.mem_or_eq_of_mem_set hy with h1 | h1
  · exact h.2 y h1
  · rw [h1]; exact hx
theorem drop_at {s : List Sl} (v : Valid s) {p : Int} (h1 : 1 ≤ p) (h2 : p ≤ 8) (hu : (at_ s (p - 1).toNat).f1 ≠ 0) : Valid (drop s p) ∧ ∀ j, j < 8 → j ≠ (p - 1).toNat → at_ (drop s p) j = at_ s j := by
  have hl := v.len
  have hi : (p - 1).toNat < 8 := by omega
  have u := v.uses (p - 1).toNat hi
  have hne : empty (at_ s (p - 1).toNat).f0 = false := by
    rw [Bool.eq_false_iff]; intro h; exact hu ((v.free _ hi).1 h)
  unfold drop
  by_cases h : (at_ s (p - 1).toNat).f1 - 1 = 0
  · rw [if_pos h]
    have he : empty (⟨#[]⟩ : ByteArray) = true := (empty_iff _).2 rfl
    refine ⟨v.set hi (by show textOk (⟨#[]⟩ : ByteArray) = true; decide +kernel) (by show (0 : Int) ≤ 0; omega) (by show (0 : Int) ≤ 99; omega) ⟨fun _ => rfl, fun _ => he⟩ (fun h => by rw [show empty (⟨(⟨#[]⟩ : ByteArray), 0⟩ : Sl).f0 = true from he] at h; cases h), fun j hj hne => ?_⟩
    rw [at_set (by omega), if_neg (by omega)]
  · rw [if_neg h]
    refine ⟨v.set hi (v.text _ hi) (by show 0 ≤ (at_ s (p - 1).toNat).f1 - 1; omega) (by show (at_ s (p - 1).toNat).f1 - 1 ≤ 99; omega) ⟨fun e => ?_, fun e => absurd e h⟩ (fun _ j hj hj2 e => v.once (p - 1).toNat j hi hj (by omega) hne e.symm), fun j hj hne => ?_⟩
    · rw [show empty (at_ s (p - 1).toNat).f0 = true from e] at hne; cases hne
    · rw [at_set (by omega), if_neg (by omega)]
theorem can_of {s : List Sl} {p : Int} (h : canDrop s p = true) : Valid s ∧ 1 ≤ p ∧ p ≤ 8 ∧ (at_ s (p - 1).toNat).f1 ≠ 0 := by
  unfold canDrop at h
  rw [Bool.and_eq_true, Bool.and_eq_true, Bool.and_eq_true, decide_eq_true_eq, decide_eq_true_eq, Bool.not_eq_true'] at h
  exact ⟨valid_of h.1, h.2.1.1, h.2.1.2, fun e => by rw [e] at h; cases h.2.2⟩
theorem can_drop {s : List Sl} {p : Int} (v : Valid s) (h1 : 1 ≤ p) (h2 : p ≤ 8) (hu : (at_ s (p - 1).toNat).f1 ≠ 0) : canDrop s p = true := by
  unfold canDrop
  rw [of_valid v, decide_eq_true h1, decide_eq_true h2, beq_eq_false_iff_ne.2 hu]; rfl
theorem res_drop {s : List Sl} (p : Int) : Small (storeDrop s p).1 := by
  unfold storeDrop
  by_cases h : canDrop s p = true
  · rw [if_pos h]
    obtain ⟨v, h1, h2, hu⟩ := can_of h
    exact valid_small (drop_at v h1 h2 hu).1
  · rw [if_neg h]; exact ⟨by simp, fun x hx => by cases hx⟩
theorem lgSlots_same (s : List Sl) (hn : s.length ≤ 1048576) : Tot (fun k => laws_lgSlots.f k s s) (fun r => r = true) := by
  have loop : ∀ (d i : Nat), i + d = s.length → Tot (fun k => laws_lgSlots.l0 k s s (i : Int)) (fun r => r = true) := by
    intro d
    induction d with
    | zero =>
      intro i hi
      refine Tot.shift ?_
      simp only [laws_lgSlots.l0]
      exact Tot.neg (by omega) (Tot.now rfl)
    | succ d ih =>
      intro i hi
      refine Tot.shift ?_
      simp only [laws_lgSlots.l0]
      rw [w64 (x := (i : Int) + 1) (by omega) (by omega)]
      exact Tot.pos (by omega) (Tot.pos (by omega) (Tot.pos (by omega) (Tot.neg (by simp) (ih (i + 1) (by omega)))))
  unfold laws_lgSlots.f
  exact Tot.pos (by first | rfl | trivial) (loop s.length 0 (by omega))
theorem lgBut_tot (a b : List Sl) (p : Int) (hl : a.length = b.length) (hn : a.length ≤ 1048576) (h1 : 1 ≤ p) (h2 : p ≤ a.length) (h : ∀ j, j < a.length → j ≠ (p - 1).toNat → at_ a j = at_ b j) : Tot (fun k => laws_lgBut.f k a b p) (fun r => r = true) := by
  have loop : ∀ (d i : Nat), i + d = a.length → Tot (fun k => laws_lgBut.l0 k a b p (i : Int)) (fun r => r = true) := by
    intro d
    induction d with
    | zero =>
      intro i hi
      refine Tot.shift ?_
      simp only [laws_lgBut.l0]
      exact Tot.neg (by omega) (Tot.now rfl)
    | succ d ih =>
      intro i hi
      refine Tot.shift ?_
      simp only [laws_lgBut.l0, rd_at]
      rw [w64 (x := (i : Int) + 1) (by omega) (by omega), w64 (x := p - 1) (by omega) (by omega)]
      refine Tot.pos (by omega) (Tot.ite (fun _ => ih (i + 1) (by omega)) (fun hne => Tot.pos (by omega) (Tot.pos (by omega) (Tot.neg ?_ (ih (i + 1) (by omega))))))
      rw [h i (by omega) (by omega)]; simp
  unfold laws_lgBut.f
  exact Tot.pos (by omega) (loop a.length 0 (by omega))
/-! ### the reader of codes -/
/-- Its bytes are bytes, not too many, and its place is not far. -/
structure Rdr (b : List Int) (p : Int) : Prop where
  bytes : ∀ x ∈ b, 0 ≤ x ∧ x ≤ 255
  len : b.length ≤ 2000
  lo : 0 ≤ p
  hi : p ≤ 1000000000000
theorem rd_byte {b : List Int} (hb : ∀ x ∈ b, 0 ≤ x ∧ x ≤ 255) (i : Int) : 0 ≤ rd b i ∧ rd b i ≤ 255 := by
  unfold rd
  rw [List.getD_eq_getElem?_getD]
  by_cases h : i.toNat < b.length
  · rw [List.getElem?_eq_getElem h]
    exact hb _ (List.getElem_mem h)
  · rw [List.getElem?_eq_none (by omega)]
    exact ⟨by simp, by simp⟩
theorem tmod_pos {a n : Int} (h : 0 ≤ a) (hn : 1 ≤ n) : 0 ≤ Int.tmod a n ∧ Int.tmod a n < n := by
  rw [Int.tmod_eq_emod_of_nonneg h]
  exact ⟨Int.emod_nonneg _ (by omega), Int.emod_lt_of_pos _ (by omega)⟩
theorem pick_tot {b : List Int} {p n : Int} (R : Rdr b p) : Tot (fun k => spec_l6Rd_pick.f k b p n) (fun r => r.2 = p + 1 ∧ (1 ≤ n → 0 ≤ r.1 ∧ r.1 < n)) := by
  obtain ⟨hb, hl, h0, h1⟩ := R
  unfold spec_l6Rd_pick.f
  rw [w64 (x := p + 1) (by omega) (by omega)]
  refine Tot.ite (fun h => ?_) (fun h => ?_)
  · refine Tot.shift ?_
    simp only [spec_l6Rd_pick.j0]
    exact Tot.pos (by simp) (Tot.now ⟨rfl, fun h2 => ⟨Int.le_refl _, by omega⟩⟩)
  · refine Tot.shift ?_
    simp only [spec_l6Rd_pick.j0]
    rw [w64 (x := p + 1 - 1) (by omega) (by omega), show p + 1 - 1 = p from by omega]
    refine Tot.ite (fun h2 => Tot.now ⟨rfl, fun h3 => ⟨Int.le_refl _, by omega⟩⟩) (fun h2 => ?_)
    have hne : ¬ (b.length : Int) = 0 := by simpa using h2
    have hpos : (1 : Int) ≤ b.length := by omega
    refine Tot.ite (fun h3 => Tot.pos h0 (Tot.neg (by omega) (Tot.now ⟨rfl, fun h4 => ?_⟩))) (fun h3 => ?_)
    · have := rd_byte hb p
      rw [w64 (by omega) (by omega)]
      exact tmod_pos this.1 h4
    · have m1 := tmod_pos h0 hpos
      rw [w64 (x := p * 7) (by omega) (by omega), w64 (x := p * 7 + 3) (by omega) (by omega)]
      have m2 := tmod_pos (a := p * 7 + 3) (by omega) hpos
      have r1 := rd_byte hb (Int.tmod p b.length)
      have r2 := rd_byte hb (Int.tmod (p * 7 + 3) b.length)
      have q0 : 0 ≤ Int.tdiv p b.length ∧ Int.tdiv p b.length ≤ p := by
        rw [Int.tdiv_eq_ediv_of_nonneg h0]
        exact ⟨Int.ediv_nonneg h0 (by omega), Int.ediv_le_self _ h0⟩
      refine Tot.neg hne (Tot.pos m1.1 (Tot.pos m1.2 (Tot.pos m2.1 (Tot.pos m2.2 (Tot.neg (by omega) (Tot.now ⟨rfl, fun h4 => ?_⟩))))))
      generalize rd b (Int.tmod p b.length) = x1 at *
      generalize rd b (Int.tmod (p * 7 + 3) b.length) = x2 at *
      generalize Int.tdiv p b.length = q at *
      rw [w64 (x := x1) (by omega) (by omega), w64 (x := x2) (by omega) (by omega), w64 (x := q) (by omega) (by omega), w64 (x := x1 * 131) (by omega) (by omega), w64 (x := x2 * 1117) (by omega) (by omega), w64 (x := x1 * 131 + x2 * 1117) (by omega) (by omega), w64 (x := p * 29) (by omega) (by omega), w64 (x := x1 * 131 + x2 * 1117 + p * 29) (by omega) (by omega), w64 (x := q * 53) (by omega) (by omega), w64 (x := x1 * 131 + x2 * 1117 + p * 29 + q * 53) (by omega) (by omega)]
      generalize hX : x1 * 131 + x2 * 1117 + p * 29 + q * 53 = X
      have X0 : 0 ≤ X := by omega
      have X1 : X < 9223372036854775808 := by omega
      have d0 : 0 ≤ Int.tdiv X 64 ∧ Int.tdiv X 64 ≤ X := by
        rw [Int.tdiv_eq_ediv_of_nonneg X0]; omega
      rw [w64 (x := Int.tdiv X 64) (by omega) (by omega)]
      exact tmod_pos (bits_xor_nonneg X0 X1 d0.1 (by omega)) h4
theorem l6Open_tot (l : List Int) (h8 : ∀ x ∈ l, (Lit.int .u8 x).wf = true) : ∃ v, spec_l6Open.f l = some v ∧ Rdr v.1 v.2 ∧ v.2 = 0 := by
  have hb : ∀ x ∈ l, 0 ≤ x ∧ x ≤ 255 := fun x hx => wf_u8 (h8 x hx)
  unfold spec_l6Open.f
  by_cases h : (l.length : Int) > 2000
  · rw [if_pos h, if_pos (by omega)]
    exact ⟨_, rfl, ⟨fun x hx => hb x (List.mem_of_mem_take hx), by simp; omega, by simp, by simp⟩, rfl⟩
  · rw [if_neg h]
    exact ⟨_, rfl, ⟨hb, by simp; omega, by simp, by simp⟩, rfl⟩
theorem Rdr.go {b : List Int} {p q : Int} (R : Rdr b p) (h : p ≤ q) (h' : q ≤ 1000000000000) : Rdr b q := ⟨R.bytes, R.len, Int.le_trans R.lo h, h'⟩
theorem of_tot {b : List Int} {p : Int} {l : List ByteArray} (R : Rdr b p) (hl : 1 ≤ l.length) : Tot (fun k => spec_l6Rd_of.f k b p l) (fun r => r.2 = p + 1 ∧ r.1 ∈ l) := by
  unfold spec_l6Rd_of.f
  refine Tot.bind (pick_tot R) fun a ⟨ha, hr⟩ => ?_
  have := hr (by omega)
  refine Tot.pos this.1 (Tot.pos this.2 (Tot.now ⟨ha, ?_⟩))
  unfold rdOf
  rw [List.getD_eq_getElem?_getD, List.getElem?_eq_getElem (show a.1.toNat < l.length by omega)]
  exact List.getElem_mem _
/-! ### a drawn piece -/
theorem mem_small {l : List ByteArray} {s : ByteArray} (n : Nat) (h : s ∈ l) (hl : l.all (fun x => decide (x.size ≤ n)) = true) : s.size ≤ n :=
  of_decide_eq_true (List.all_eq_true.1 hl s h)
theorem text_l0 {b : List Int} (d : Nat) : ∀ (s : ByteArray) (p : Int), s.size + d ≤ 1000 → Rdr b p → p + d ≤ 1000000000000 - 10 → Tot (fun k => spec_l71Text.l0 k s (d : Int) b p) (fun r => r.1.size ≤ s.size + d + 4 ∧ p ≤ r.2 ∧ r.2 ≤ p + d + 2) := by
  induction d with
  | zero =>
    intro s p hs R hp
    refine Tot.shift ?_
    simp only [spec_l71Text.l0]
    refine Tot.neg (by omega) (Tot.bind (pick_tot R) fun a ⟨ha, _⟩ => Tot.ite (fun _ => ?_) (fun _ => Tot.now ⟨by simp only []; omega, by simp only []; omega, by simp only []; omega⟩))
    refine Tot.bind (of_tot (R.go (q := a.2) (by omega) (by omega)) (by simp)) fun c ⟨hc, hm⟩ => ?_
    have hz := mem_small 4 hm (by decide +kernel)
    refine Tot.pos (by omega) (Tot.now ⟨?_, by simp only []; omega, by simp only []; omega⟩)
    rw [ByteArray.size_append]; omega
  | succ d ih =>
    intro s p hs R hp
    refine Tot.shift ?_
    simp only [spec_l71Text.l0]
    refine Tot.pos (by omega) (Tot.bind (of_tot R (by simp)) fun c ⟨hc, hm⟩ => ?_)
    have hz := mem_small 1 hm (by decide +kernel)
    have e : wrap64 (((d + 1 : Nat) : Int) - 1) = (d : Int) := by rw [w64 (by omega) (by omega)]; omega
    rw [e]
    have hsz : (s ++ c.1).size ≤ s.size + 1 := by rw [ByteArray.size_append]; omega
    exact Tot.pos (by omega) ((ih (s ++ c.1) c.2 (by omega) (R.go (by omega) (by omega)) (by omega)).mono fun r ⟨h1, h2, h3⟩ => ⟨by omega, by omega, by omega⟩)
theorem text_tot {b : List Int} {p : Int} (R : Rdr b p) (hp : p ≤ 1000000000000 - 100) : Tot (fun k => spec_l71Text.f k b p) (fun r => r.1.size ≤ 7 ∧ p ≤ r.2 ∧ r.2 ≤ p + 6) := by
  unfold spec_l71Text.f
  refine Tot.bind (pick_tot R) fun a ⟨ha, hr⟩ => ?_
  have h4 := hr (by omega)
  obtain ⟨d, hd⟩ := Int.eq_ofNat_of_zero_le h4.1
  rw [hd]
  have hz : (⟨#[]⟩ : ByteArray).size = 0 := rfl
  refine (text_l0 d _ a.2 (by omega) (R.go (by omega) (by omega)) (by omega)).mono fun r ⟨h1, h2, h3⟩ => ⟨?_, by omega, by omega⟩
  omega
/-! ### drawn places -/
/-- Eight places, short texts. -/
def Mild (s : List Sl) : Prop := s.length = 8 ∧ ∀ x ∈ s, x.f0.size ≤ 7
/-- Seven or eight places, short texts. -/
def Drawn (s : List Sl) : Prop := 7 ≤ s.length ∧ s.length ≤ 8 ∧ ∀ x ∈ s, x.f0.size ≤ 7
theorem Mild.drawn {s : List Sl} (m : Mild s) : Drawn s := ⟨by rw [m.1]; omega, by rw [m.1]; omega, m.2⟩
theorem Drawn.small {s : List Sl} (d : Drawn s) : Small s := ⟨by have := d.2.1; omega, fun x hx => by have := d.2.2 x hx; omega⟩
theorem set_short {s : List Sl} (h : ∀ x ∈ s, x.f0.size ≤ 7) (i : Nat) {y : Sl} (hy : y.f0.size ≤ 7) : ∀ x ∈ s.set i y, x.f0.size ≤ 7 := by
  intro x hx
  rcases List.mem_or_eq_of_mem_set hx with h1 | h1
  · exact h x h1
  · rw [h1]; exact hy
theorem Mild.set {s : List Sl} (m : Mild s) (i : Nat) {y : Sl} (hy : y.f0.size ≤ 7) : Mild (s.set i y) := ⟨by rw [List.length_set]; exact m.1, set_short m.2 i hy⟩
theorem Drawn.set {s : List Sl} (m : Drawn s) (i : Nat) {y : Sl} (hy : y.f0.size ≤ 7) : Drawn (s.set i y) := ⟨by rw [List.length_set]; exact m.1, by rw [List.length_set]; exact m.2.1, set_short m.2.2 i hy⟩
theorem Mild.at {s : List Sl} (m : Mild s) {i : Nat} (h : i < 8) : (at_ s i).f0.size ≤ 7 := m.2 _ (at_mem (by rw [m.1]; exact h))
theorem walk_range (s : List Sl) (t : ByteArray) : ∀ (d : Nat) (a free : Int), 1 ≤ a → a ≤ 8 → 0 ≤ free → free ≤ 8 → 0 ≤ (walk s t d a free).1 ∧ (walk s t d a free).1 ≤ 8 := by
  intro d
  induction d with
  | zero => intro a free h1 h2 h3 h4; exact ⟨h3, h4⟩
  | succ d ih =>
    intro a free h1 h2 h3 h4
    simp only [walk]
    split
    · exact ⟨by omega, h2⟩
    · split
      · exact ih _ _ (by omega) (by omega) (by omega) h2
      · exact ih _ _ (by omega) (by omega) h3 h4
theorem l2Find_weak {s : List Sl} (h8 : s.length = 8) {t : ByteArray} (ht : textOk t = true) : Tot (fun k => spec_l2Find.f k s t) (fun r => 0 ≤ r.1 ∧ r.1 ≤ 8) := by
  unfold spec_l2Find.f
  have pr := place_range t
  refine Tot.bindE (l1Place_tot ht) ((l2Find_ s t h8 8 0 (place t) 0 (by omega) pr.1 pr.2).mono fun r hr => ?_)
  rw [hr]
  exact walk_range s t 8 _ _ pr.1 pr.2 (by omega) (by omega)
theorem l2Put_mild {s : List Sl} (m : Mild s) {t : ByteArray} (ht : textOk t = true) : Tot (fun k => spec_l2Put.f k s t) (fun r => Mild r.1) := by
  unfold spec_l2Put.f
  have h8 := m.1
  have h4 := textOk_size ht
  refine Tot.bind (l2Find_weak h8 ht) fun a ⟨h0, h1⟩ => Tot.ite (fun h => Tot.now m) (fun h => ?_)
  rw [w64 (x := a.1 - 1) (by omega) (by omega)]
  exact Tot.pos (by omega) (Tot.pos (by omega) (Tot.ite (fun _ => Tot.now m) (fun _ => Tot.now (m.set _ (by show t.size ≤ 7; omega)))))
theorem l2Drop_mild {s : List Sl} (m : Mild s) (p : Int) (h1 : 1 ≤ p) (h2 : p ≤ 8) : ∃ v, spec_l2Drop.f s p = some v ∧ Mild v := by
  unfold spec_l2Drop.f
  have h8 := m.1
  have hz : (⟨#[]⟩ : ByteArray).size = 0 := rfl
  rw [w64 (x := p - 1) (by omega) (by omega), if_pos (by omega), if_pos (by omega), Option.bind_some]
  have ha : (rd_T36 s (p - 1)).f0.size ≤ 7 := m.at (i := (p - 1).toNat) (by omega)
  by_cases h : (rd_T36 (s.set (p - 1).toNat (⟨(rd_T36 s (p - 1)).f0, wrap64 (((rd_T36 s (p - 1)).f1) - 1)⟩ : Sl)) (p - 1)).f1 = 0
  · rw [if_pos h]
    refine ⟨_, rfl, ?_⟩
    refine Mild.set (Mild.set m _ ?_) _ ?_
    · exact ha
    · exact Nat.zero_le 7
  · rw [if_neg h]; exact ⟨_, rfl, m.set _ ha⟩
theorem store_l0 {b : List Int} (d : Nat) : ∀ (s : List Sl) (p : Int), Mild s → Rdr b p → p + 8 * d ≤ 100000 → Tot (fun k => spec_l71Store.l0 k s (d : Int) b p) (fun r => Drawn r.1 ∧ p ≤ r.2 ∧ r.2 ≤ p + 8 * d + 20) := by
  induction d with
  | zero =>
    intro s p m R hp
    have h8 := m.1
    refine Tot.shift ?_
    simp only [spec_l71Store.l0]
    refine Tot.neg (by omega) (Tot.bind (pick_tot R) fun a ⟨ha, hr⟩ => Tot.ite (fun _ => ?_) (fun _ => Tot.ite (fun _ => ?_) (fun _ => Tot.ite (fun _ => ?_) (fun _ => Tot.now ⟨m.drawn, by simp only []; omega, by simp only []; omega⟩))))
    · refine Tot.bind (pick_tot (R.go (q := a.2) (by omega) (by omega))) fun c ⟨hc, hc2⟩ => Tot.bindN rfl (Tot.bind (pick_tot (R.go (q := c.2) (by omega) (by omega))) fun e ⟨he, he2⟩ => ?_)
      have q1 := hc2 (by omega)
      have q2 := he2 (by omega)
      refine Tot.pos q2.1 (Tot.pos q2.2 (Tot.pos q1.1 (Tot.pos q1.2 (Tot.now ⟨(m.set _ ?_).drawn, by simp only []; omega, by simp only []; omega⟩))))
      exact m.at (i := c.1.toNat) (by omega)
    · refine Tot.bind (pick_tot (R.go (q := a.2) (by omega) (by omega))) fun c ⟨hc, hc2⟩ => Tot.bind (text_tot (R.go (q := c.2) (by omega) (by omega)) (by omega)) fun e ⟨he, he2, he3⟩ => ?_
      have q1 := hc2 (by omega)
      exact Tot.pos q1.1 (Tot.pos q1.2 (Tot.now ⟨(m.set _ he).drawn, by simp only []; omega, by simp only []; omega⟩))
    · refine Tot.pos (by omega) (Tot.now ⟨⟨?_, ?_, fun x hx => m.2 x (List.mem_of_mem_drop hx)⟩, by simp only []; omega, by simp only []; omega⟩) <;> (simp only [List.length_drop]; omega)
  | succ d ih =>
    intro s p m R hp
    have hlo := R.lo
    have e : wrap64 (((d + 1 : Nat) : Int) - 1) = (d : Int) := by rw [w64 (by omega) (by omega)]; omega
    have j2 : ∀ (s : List Sl) (q : Int), Mild s → p ≤ q → q ≤ p + 6 → Tot (fun k => spec_l71Store.j2 k s ((d + 1 : Nat) : Int) b q) (fun r => Drawn r.1 ∧ p ≤ r.2 ∧ r.2 ≤ p + 8 * ((d + 1 : Nat) : Int) + 20) := by
      intro s q m q1 q2
      have h8 := m.1
      refine Tot.shift ?_
      simp only [spec_l71Store.j2]
      rw [e]
      refine Tot.bind (pick_tot (R.go q1 (by omega))) fun a ⟨ha, hr⟩ => Tot.bind (pick_tot (R.go (q := a.2) (by omega) (by omega))) fun c ⟨hc, _⟩ => ?_
      have h3 := hr (by omega)
      rw [w64 (x := 1 + a.1) (by omega) (by omega), w64 (x := 1 + a.1 - 1) (by omega) (by omega)]
      have again : ∀ s, Mild s → Tot (fun k => spec_l71Store.l0 k s (d : Int) b c.2) (fun r => Drawn r.1 ∧ p ≤ r.2 ∧ r.2 ≤ p + 8 * ((d + 1 : Nat) : Int) + 20) := fun s m =>
        (ih s c.2 m (R.go (by omega) (by omega)) (by omega)).mono fun r ⟨g1, g2, g3⟩ => ⟨g1, by omega, by omega⟩
      exact Tot.ite (fun _ => Tot.pos (by omega) (Tot.pos (by omega) (Tot.ite (fun _ => Tot.bindO (l2Drop_mild m (1 + a.1) (by omega) (by omega)) fun v hv => again v hv) (fun _ => again s m)))) (fun _ => again s m)
    have j1 : ∀ (t : ByteArray) (bb : Bool) (q : Int), p ≤ q → q ≤ p + 6 → (bb = true → textOk t = true) → Tot (fun k => spec_l71Store.j1 k s ((d + 1 : Nat) : Int) t bb b q) (fun r => Drawn r.1 ∧ p ≤ r.2 ∧ r.2 ≤ p + 8 * ((d + 1 : Nat) : Int) + 20) := by
      intro t bb q q1 q2 ht
      refine Tot.shift ?_
      simp only [spec_l71Store.j1]
      exact Tot.ite (fun h => Tot.bind (l2Put_mild m (ht h)) fun v hv => j2 _ q hv q1 q2) (fun _ => j2 s q m q1 q2)
    refine Tot.shift ?_
    simp only [spec_l71Store.l0]
    refine Tot.pos (by omega) (Tot.bind (text_tot R (by omega)) fun a ⟨h1, h2, h3⟩ => Tot.bindE (spec_TextOk_tot a.1 (by omega)) (Tot.ite (fun h => j1 _ _ _ h2 h3 fun _ => h) (fun _ => j1 _ _ _ h2 h3 fun h => by cases h)))
theorem new_mild : Mild (List.replicate 8 z36) := by
  refine ⟨List.length_replicate, fun x hx => ?_⟩
  rw [(List.mem_replicate.1 hx).2]
  exact Nat.zero_le 7
theorem store_tot {b : List Int} {p : Int} (R : Rdr b p) (hp : p ≤ 1000) : Tot (fun k => spec_l71Store.f k b p) (fun r => Drawn r.1 ∧ p ≤ r.2 ∧ r.2 ≤ p + 200) := by
  unfold spec_l71Store.f spec_StoreNew.f
  rw [if_pos (by omega)]
  refine Tot.bindN rfl (Tot.bind (pick_tot R) fun a ⟨ha, hr⟩ => ?_)
  have h4 := hr (by omega)
  obtain ⟨d, hd⟩ := Int.eq_ofNat_of_zero_le h4.1
  rw [hd]
  exact (store_l0 d _ a.2 new_mild (R.go (by omega) (by omega)) (by omega)).mono fun r ⟨h1, h2, h3⟩ => ⟨h1, by omega, by omega⟩
/-! ### drawn places and one of them -/
theorem drawDrop_l0 {b : List Int} {s : List Sl} (hs : Drawn s) (x : Int) (hx : 0 ≤ x ∧ x ≤ 9) (d : Nat) : ∀ (i : Nat) (p : Int), i + d = 8 → Rdr b p → p + 3 * d ≤ 10000 → Tot (fun k => spec_DrawStoreDrop.l0 k s x (i : Int) b p) (fun r => Drawn r.1 ∧ 0 ≤ r.2 ∧ r.2 ≤ 9) := by
  have last : ∀ (i : Int) (p : Int), Tot (fun k => spec_DrawStoreDrop.j1 k s x i false b p) (fun r => Drawn r.1 ∧ 0 ≤ r.2 ∧ r.2 ≤ 9) := by
    intro i p
    refine Tot.shift ?_
    simp only [spec_DrawStoreDrop.j1]
    exact Tot.neg (by simp) (Tot.now ⟨hs, hx⟩)
  induction d with
  | zero =>
    intro i p hi R hp
    refine Tot.shift ?_
    simp only [spec_DrawStoreDrop.l0]
    exact Tot.neg (by omega) (last _ p)
  | succ d ih =>
    intro i p hi R hp
    have hlo := R.lo
    refine Tot.shift ?_
    simp only [spec_DrawStoreDrop.l0]
    refine Tot.pos (by omega) (Tot.bind (pick_tot R) fun a ⟨ha, _⟩ => ?_)
    have RA := R.go (q := a.2) (by omega) (by omega)
    by_cases c : a.1 > 0
    · rw [decide_eq_true c]
      refine Tot.shift ?_
      simp only [spec_DrawStoreDrop.j1]
      rw [w64 (x := (i : Int) + 1) (by omega) (by omega)]
      have l7 := hs.1
      have l8 := hs.2.1
      refine Tot.pos (by trivial) (Tot.bind (pick_tot RA) fun e ⟨he, he2⟩ => ?_)
      have q := he2 (by omega)
      rw [w64 (x := e.1 + 1) (by omega) (by omega)]
      exact Tot.pos q.1 (Tot.pos q.2 (Tot.ite (fun _ => Tot.now ⟨hs, by simp only []; omega, by simp only []; omega⟩) (fun _ => ih (i + 1) e.2 (by omega) (R.go (by omega) (by omega)) (by omega))))
    · rw [decide_eq_false c]
      exact last _ a.2
theorem drawDrop (l : List Int) (h8 : ∀ x ∈ l, (Lit.int .u8 x).wf = true) : Tot (fun k => spec_DrawStoreDrop.f k l) (fun r => Drawn r.1 ∧ 0 ≤ r.2 ∧ r.2 ≤ 9) := by
  unfold spec_DrawStoreDrop.f
  refine Tot.bindO (l6Open_tot l h8) fun v ⟨R, hv⟩ => Tot.bind (store_tot R (by omega)) fun a ⟨h1, h2, h3⟩ => Tot.bind (pick_tot (R.go (q := a.2) (by omega) (by omega))) fun c ⟨hc, hc2⟩ => ?_
  have q := hc2 (by omega)
  exact drawDrop_l0 h1 c.1 (by omega) 8 0 c.2 (by omega) (R.go (by omega) (by omega)) (by omega)
theorem told_j0 {s : List Sl} (p : Int) : Tot (fun k => laws_FnDropUses.j0 k s p (storeDrop s p).1 (storeDrop s p).2 (storeDrop s p).1 (storeDrop s p).2 true) (fun r => r = true) := by
  refine Tot.shift ?_
  simp only [laws_FnDropUses.j0]
  exact Tot.pos (by trivial) (Tot.pos (by simp) (Tot.bindE (lgSlots_same _ (res_drop p).1) (Tot.now rfl)))
theorem uses_j0 {s : List Sl} (v : Valid s) {p : Int} (h1 : 1 ≤ p) (h2 : p ≤ 8) : Tot (fun k => laws_FnDropUses.j0 k s p (storeDrop s p).1 (storeDrop s p).2 (storeDrop s p).1 (storeDrop s p).2 false) (fun r => r = true) := by
  have hl := v.len
  have hi : (p - 1).toNat < 8 := by omega
  have u := v.uses _ hi
  refine Tot.shift ?_
  simp only [laws_FnDropUses.j0, rd_at']
  rw [w64 (x := p - 1) (by omega) (by omega)]
  refine Tot.neg (by simp) (Tot.ite (fun hok => ?_) (fun hok => Tot.pos (by omega) (Tot.pos (by omega) (Tot.now ?_))))
  · have hc : canDrop s p = true := by
      cases e : canDrop s p with
      | true => rfl
      | false => unfold storeDrop at hok; rw [e] at hok; cases hok
    obtain ⟨_, _, _, hu⟩ := can_of hc
    obtain ⟨v2, hk⟩ := drop_at v h1 h2 hu
    have e1 : (storeDrop s p).1 = drop s p := by unfold storeDrop; rw [if_pos hc]
    rw [e1]
    have hl2 := v2.len
    have hne : empty (at_ s (p - 1).toNat).f0 = false := by
      rw [Bool.eq_false_iff]; intro h; exact hu ((v.free _ hi).1 h)
    have w1 : wrap64 ((at_ s (p - 1).toNat).f1 - 1) = (at_ s (p - 1).toNat).f1 - 1 := w64 (by omega) (by omega)
    have last : Tot (fun k => (laws_lgBut.f k (drop s p) s p).bind fun t => if t = true then (impl_StoreOk.f k (drop s p)).bind fun t2 => some t2 else some false) (fun r => r = true) := by
      refine Tot.bindE (lgBut_tot _ _ p (by omega) (by omega) h1 (by omega) fun j hj hne => hk j (by omega) hne) (Tot.pos rfl (Tot.bindE (impl_StoreOk_tot (valid_small v2)) (Tot.now ?_)))
      exact of_valid v2
    have es : at_ (drop s p) (p - 1).toNat = (if (at_ s (p - 1).toNat).f1 - 1 = 0 then ⟨(⟨#[]⟩ : ByteArray), 0⟩ else ⟨(at_ s (p - 1).toNat).f0, (at_ s (p - 1).toNat).f1 - 1⟩) := by
      unfold drop
      by_cases h : (at_ s (p - 1).toNat).f1 - 1 = 0
      · rw [if_pos h, if_pos h, at_set (by omega), if_pos rfl]
      · rw [if_neg h, if_neg h, at_set (by omega), if_pos rfl]
    by_cases h : (at_ s (p - 1).toNat).f1 - 1 = 0
    · rw [if_pos h] at es
      refine Tot.pos (by omega) (Tot.pos (by omega) (Tot.pos (by omega) (Tot.pos (by rw [w1, es, h]) (Tot.pos ?_ (Tot.pos (by rw [w1]; exact h) last)))))
      rw [w1, es, h]; decide +kernel
    · rw [if_neg h] at es
      refine Tot.pos (by omega) (Tot.pos (by omega) (Tot.pos (by omega) (Tot.pos (by rw [w1, es]) (Tot.pos ?_ (Tot.neg (by rw [w1]; exact h) (Tot.pos (by rw [es]) last))))))
      rw [w1, es, show ((at_ s (p - 1).toNat).f0.toList == ([] : List UInt8)) = false from hne, show ((at_ s (p - 1).toNat).f1 - 1 == 0) = false from beq_eq_false_iff_ne.2 h]; rfl
  · cases e : ((at_ s (p - 1).toNat).f1 == 0) with
    | true => rfl
    | false => exact absurd (show (storeDrop s p).2 = true from by unfold storeDrop; rw [if_pos (can_drop v h1 h2 (beq_eq_false_iff_ne.1 e))]) hok
theorem FnDropUses (l0 : List Int) (h1 : l0.length ≤ maxLen) (h2 : l0.length * 1 ≤ 140737488351232) (h8 : ∀ x ∈ l0, (Lit.int .u8 x).wf = true) : ∃ k, laws_FnDropUses.f k l0 = some true := by
  refine Tot.rounds ?_
  unfold laws_FnDropUses.f
  refine Tot.ite (fun _ => Tot.now rfl) (fun _ => Tot.bind (drawDrop l0 h8) fun w hw => ?_)
  obtain ⟨hs, _, _⟩ := hw
  have sm := hs.small
  refine Tot.bindE (spec_StoreDrop_tot sm w.2) (Tot.bindE (impl_StoreDrop_tot sm w.2) (Tot.neg (by simp) (Tot.bindE (lgSlots_same _ (res_drop w.2).1) (Tot.pos (by first | rfl | trivial) (Tot.bindE (spec_StoreOk_tot sm) (Tot.ite (fun h => Tot.ite (fun _ => told_j0 _) (fun hp => ?_)) (fun _ => told_j0 _)))))))
  by_cases h9 : w.2 > 8
  · rw [decide_eq_true h9]; exact told_j0 _
  · rw [decide_eq_false h9]; exact uses_j0 (valid_of h) (by omega) (by omega)
end Go.Proofs.Ytjdkccpcgmgmmaa.Pure
