/- VolUses of the program answers what VolUses of the reference answers, for every disk and number. -/
import Derived.Test.YtpoleflmmdlgjaaQFnExactVolUses3
import Derived.Test.YtpoleflmmdlgjaaU2
set_option linter.unusedVariables false
set_option linter.unusedSimpArgs false
namespace Go.Proofs.Ytpoleflmmdlgjaa.Pure
open Go.RowKit Go.Proofs.Ytpoleflmmdlgjaa.PFnExactVolUses Go.Proofs.YtpoleflmmdlgjaaW.PrintWords Go.Proofs.YtpoleflmmdlgjaaW.PrintLast Go.Proofs.YtpoleflmmdlgjaaU
theorem spec_l6In_eq (a b c : Int) : spec_l6In.f a b c = some (decide (b ≤ a) && decide (a ≤ c)) := by
  unfold spec_l6In.f
  by_cases h : a ≥ b
  · rw [if_pos h]; simp [show b ≤ a from h]
  · rw [if_neg h]; simp [show ¬ b ≤ a from h]
theorem impl_within_eq (a b c : Int) : impl_within.f a b c = some (decide (b ≤ a) && decide (a ≤ c)) := by
  unfold impl_within.f
  by_cases h : a ≥ b
  · rw [if_pos h]; simp [show b ≤ a from h]
  · rw [if_neg h]; simp [show ¬ b ≤ a from h]
/-! ### names -/
theorem size_toList (s : ByteArray) : s.size = s.toList.length := by
  rw [ByteArray.toList_eq]; exact (data_length s).symm
theorem bt0_toList (s : ByteArray) (c : UInt8) (l : List UInt8) (h : s.toList = c :: l) : bt s 0 = (c.toNat : Int) := by
  rw [bt_rd, toList_bytes, h]
  rfl
theorem isName_toList (s : ByteArray) : isName s = (s.toList == [65] || s.toList == [66] || s.toList == [67] || s.toList == [68]) := by
  unfold isName
  cases h : s.toList with
  | nil => rw [size_toList, h]; simp
  | cons c l =>
    rw [bt0_toList s c l h, size_toList, h]
    cases l with
    | nil =>
      have hc := c.toNat_lt
      have e : ∀ n : Nat, n < 256 → ((c == UInt8.ofNat n) = decide ((c.toNat : Int) = n)) := fun n hn => by
        rw [Bool.eq_iff_iff]
        simp only [beq_iff_eq, decide_eq_true_eq]
        constructor
        · rintro rfl; simp; omega
        · intro h2
          have h3 : c.toNat = n := by exact_mod_cast h2
          rw [← h3]; simp
      have e65 := e 65 (by omega); have e66 := e 66 (by omega); have e67 := e 67 (by omega); have e68 := e 68 (by omega)
      simp only [List.cons_beq_cons, List.length_cons, List.length_nil]
      rw [show (65 : UInt8) = UInt8.ofNat 65 from rfl, show (66 : UInt8) = UInt8.ofNat 66 from rfl, show (67 : UInt8) = UInt8.ofNat 67 from rfl, show (68 : UInt8) = UInt8.ofNat 68 from rfl, e65, e66, e67, e68]
      rw [Bool.eq_iff_iff]
      simp
      omega
    | cons d l => simp; omega
theorem spec_l3Name_eq (s : ByteArray) : spec_l3Name.f s = some (isName s) := by
  unfold spec_l3Name.f isName
  by_cases h : (s.size : Int) = 1
  · rw [if_pos h, if_pos (by omega), spec_l6In_eq, w64_bt, Option.bind_some, decide_eq_true h, Bool.true_and]
  · rw [if_neg h, decide_eq_false h, Bool.false_and]
theorem impl_isName_eq (s : ByteArray) : impl_isName.f s = some (isName s) := by
  rw [isName_toList]
  unfold impl_isName.f
  by_cases h1 : s.toList = ([65] : List UInt8)
  · rw [if_pos h1]; simp [h1]
  by_cases h2 : s.toList = ([66] : List UInt8)
  · rw [if_neg h1, if_pos h2]; simp [h2]
  by_cases h3 : s.toList = ([67] : List UInt8)
  · rw [if_neg h1, if_neg h2, if_pos h3]; simp [h3]
  · rw [if_neg h1, if_neg h2, if_neg h3]; simp [h1, h2, h3]
/-! ### slices of numbers -/
def atI (s : List Int) (i : Nat) : Int := s.getD i 0
theorem rdI_at (s : List Int) (i : Nat) : rd s (i : Int) = atI s i := rfl
theorem atI_get {s : List Int} {i : Nat} (h : i < s.length) : atI s i = s[i] := by
  unfold atI
  rw [List.getD_eq_getElem?_getD, List.getElem?_eq_getElem h]
  rfl
theorem atI_set {s : List Int} {i j : Nat} {x : Int} (h : i < s.length) : atI (s.set i x) j = if i = j then x else atI s j := by
  unfold atI
  rw [List.getD_eq_getElem?_getD, List.getD_eq_getElem?_getD, List.getElem?_set]
  by_cases e : i = j
  · rw [if_pos e, if_pos e]; subst e; simp [h]
  · rw [if_neg e, if_neg e]
theorem listI_ext {a b : List Int} (hl : a.length = b.length) (h : ∀ i, i < a.length → atI a i = atI b i) : a = b := by
  refine List.ext_getElem hl fun i h1 h2 => ?_
  rw [← atI_get h1, ← atI_get h2]
  exact h i h1
theorem dropI (s : List Int) (i : Nat) (h : i < s.length) : s.drop i = atI s i :: s.drop (i + 1) := by
  rw [List.drop_eq_getElem_cons h, atI_get h]
/-! ### disks -/
def blk (p : Int) : Bool := decide (0 ≤ p) && decide (p ≤ 8)
def volOk (nm : ByteArray) (b : List Int) : Bool := b.all blk && (isName nm && (decide (1 ≤ (b.length : Int)) && decide ((b.length : Int) ≤ 6)))
def cnt (b : List Int) (p : Int) : Int := ((b.countP fun x => x == p : Nat) : Int)
theorem spec_VolOk_ (nm : ByteArray) (b : List Int) (hb : b.length ≤ 1048576) (d : Nat) : ∀ i : Nat, i + d = b.length → Tot (fun k => spec_VolOk.l0 k (i : Int) nm b) (fun r => r = ((b.drop i).all blk && (isName nm && (decide (1 ≤ (b.length : Int)) && decide ((b.length : Int) ≤ 6))))) := by
  induction d with
  | zero =>
    intro i hi
    refine Tot.shift ?_
    simp only [spec_VolOk.l0]
    rw [List.drop_of_length_le (by omega)]
    refine Tot.neg (by omega) (Tot.bindN (spec_l3Name_eq nm) (Tot.ite (fun h => Tot.bindN (spec_l6In_eq _ _ _) (Tot.now ?_)) (fun h => Tot.now ?_)))
    · rw [h]; rfl
    · rw [Bool.eq_false_iff.2 h]; rfl
  | succ d ih =>
    intro i hi
    refine Tot.shift ?_
    simp only [spec_VolOk.l0, rdI_at]
    rw [w64 (x := (i : Int) + 1) (by omega) (by omega), dropI b i (by omega), List.all_cons]
    refine Tot.pos (by omega) (Tot.pos (by omega) (Tot.bindN (spec_l6In_eq _ _ _) (Tot.ite (fun h => (ih (i + 1) (by omega)).mono fun r hr => ?_) (fun h => Tot.now ?_))))
    · rw [hr, show blk (atI b i) = true from h, Bool.true_and]
    · rw [show blk (atI b i) = false from Bool.eq_false_iff.2 h]; rfl
theorem spec_VolOk_tot (nm : ByteArray) (b : List Int) (hb : b.length ≤ 1048576) : Tot (fun k => spec_VolOk.f k nm b) (fun r => r = volOk nm b) := by
  unfold spec_VolOk.f
  exact spec_VolOk_ nm b hb b.length 0 (by omega)
theorem impl_VolOk_ (nm : ByteArray) (b : List Int) (hb : b.length ≤ 1048576) (d : Nat) : ∀ i : Nat, i + d = b.length → Tot (fun k => impl_VolOk.l0 k b (b.length : Int) (i : Int) nm b) (fun r => r = ((b.drop i).all blk && (isName nm && (decide (1 ≤ (b.length : Int)) && decide ((b.length : Int) ≤ 6))))) := by
  induction d with
  | zero =>
    intro i hi
    refine Tot.shift ?_
    simp only [impl_VolOk.l0]
    rw [List.drop_of_length_le (by omega)]
    refine Tot.neg (by omega) (Tot.bindN (impl_isName_eq nm) (Tot.ite (fun h => Tot.bindN (impl_within_eq _ _ _) (Tot.now ?_)) (fun h => Tot.now ?_)))
    · rw [h]; rfl
    · rw [Bool.eq_false_iff.2 h]; rfl
  | succ d ih =>
    intro i hi
    refine Tot.shift ?_
    simp only [impl_VolOk.l0, rdI_at]
    rw [w64 (x := (i : Int) + 1) (by omega) (by omega), dropI b i (by omega), List.all_cons]
    refine Tot.pos (by omega) (Tot.pos (by omega) (Tot.pos (by omega) (Tot.bindN (impl_within_eq _ _ _) (Tot.ite (fun h => (ih (i + 1) (by omega)).mono fun r hr => ?_) (fun h => Tot.now ?_)))))
    · rw [hr, show blk (atI b i) = true from h, Bool.true_and]
    · rw [show blk (atI b i) = false from Bool.eq_false_iff.2 h]; rfl
theorem impl_VolOk_tot (nm : ByteArray) (b : List Int) (hb : b.length ≤ 1048576) : Tot (fun k => impl_VolOk.f k nm b) (fun r => r = volOk nm b) := by
  unfold impl_VolOk.f
  exact impl_VolOk_ nm b hb b.length 0 (by omega)
theorem cnt_drop (b : List Int) (p : Int) (i : Nat) (h : i < b.length) : cnt (b.drop i) p = (if atI b i = p then 1 else 0) + cnt (b.drop (i + 1)) p := by
  unfold cnt
  rw [dropI b i h, List.countP_cons]
  by_cases e : atI b i = p
  · rw [if_pos (by simp [e]), if_pos e]; omega
  · rw [if_neg (by simp [e]), if_neg e]; omega
theorem cnt_le (b : List Int) (p : Int) : 0 ≤ cnt b p ∧ cnt b p ≤ b.length := by
  unfold cnt
  have := List.countP_le_length (p := fun x => x == p) (l := b)
  omega
theorem spec_l3Uses_ (nm : ByteArray) (b : List Int) (p : Int) (hb : b.length ≤ 1048576) (d : Nat) : ∀ (i : Nat) (n : Int), i + d = b.length → 0 ≤ n → n ≤ i → Tot (fun k => spec_l3Uses.l0 k p n (i : Int) nm b) (fun r => r = n + cnt (b.drop i) p) := by
  induction d with
  | zero =>
    intro i n hi h0 h1
    refine Tot.shift ?_
    simp only [spec_l3Uses.l0]
    rw [List.drop_of_length_le (by omega)]
    exact Tot.neg (by omega) (Tot.now (by simp [cnt]))
  | succ d ih =>
    intro i n hi h0 h1
    refine Tot.shift ?_
    simp only [spec_l3Uses.l0, rdI_at]
    rw [w64 (x := (i : Int) + 1) (by omega) (by omega), w64 (x := n + 1) (by omega) (by omega), cnt_drop b p i (by omega)]
    refine Tot.pos (by omega) (Tot.pos (by omega) (Tot.ite (fun h => (ih (i + 1) _ (by omega) (by omega) (by omega)).mono fun r hr => ?_) (fun h => (ih (i + 1) _ (by omega) (by omega) (by omega)).mono fun r hr => ?_)))
    · rw [hr, if_pos h]; omega
    · rw [hr, if_neg h]; omega
theorem spec_l3Uses_tot (nm : ByteArray) (b : List Int) (p : Int) (hb : b.length ≤ 1048576) : Tot (fun k => spec_l3Uses.f k nm b p) (fun r => r = cnt b p) := by
  unfold spec_l3Uses.f
  refine (spec_l3Uses_ nm b p hb b.length 0 0 (by omega) (by omega) (by omega)).mono fun r hr => ?_
  rw [hr]; simp
theorem impl_uses_ (b : List Int) (p : Int) (hb : b.length ≤ 1048576) (d : Nat) : ∀ (i : Nat) (n : Int), i + d = b.length → 0 ≤ n → n ≤ i → Tot (fun k => impl_Vol_uses.l0 k p n b (b.length : Int) (i : Int)) (fun r => r = n + cnt (b.drop i) p) := by
  induction d with
  | zero =>
    intro i n hi h0 h1
    refine Tot.shift ?_
    simp only [impl_Vol_uses.l0]
    rw [List.drop_of_length_le (by omega)]
    exact Tot.neg (by omega) (Tot.now (by simp [cnt]))
  | succ d ih =>
    intro i n hi h0 h1
    refine Tot.shift ?_
    simp only [impl_Vol_uses.l0, rdI_at]
    rw [w64 (x := (i : Int) + 1) (by omega) (by omega), w64 (x := n + 1) (by omega) (by omega), cnt_drop b p i (by omega)]
    refine Tot.pos (by omega) (Tot.pos (by omega) (Tot.pos (by omega) (Tot.ite (fun h => (ih (i + 1) _ (by omega) (by omega) (by omega)).mono fun r hr => ?_) (fun h => (ih (i + 1) _ (by omega) (by omega) (by omega)).mono fun r hr => ?_))))
    · rw [hr, if_pos h]; omega
    · rw [hr, if_neg h]; omega
theorem impl_uses_tot (nm : ByteArray) (b : List Int) (p : Int) (hb : b.length ≤ 1048576) : Tot (fun k => impl_Vol_uses.f k nm b p) (fun r => r = cnt b p) := by
  unfold impl_Vol_uses.f
  refine (impl_uses_ b p hb b.length 0 0 (by omega) (by omega) (by omega)).mono fun r hr => ?_
  rw [hr]; simp
def volUses (nm : ByteArray) (b : List Int) (p : Int) : Int := if volOk nm b = true then (if (decide (1 ≤ p) && decide (p ≤ 8)) = true then cnt b p else 0) else 0
theorem impl_VolUses_tot (nm : ByteArray) (b : List Int) (p : Int) (hb : b.length ≤ 1048576) : Tot (fun k => impl_VolUses.f k nm b p) (fun r => r = volUses nm b p) := by
  unfold impl_VolUses.f volUses
  refine Tot.bindE (impl_VolOk_tot nm b hb) (Tot.ite (fun h => ?_) (fun h => Tot.now (by rw [if_neg h])))
  rw [if_pos h]
  unfold impl_isSlot.f
  rw [impl_within_eq, Option.bind_some]
  refine Tot.bindN rfl (Tot.ite (fun h2 => ?_) (fun h2 => Tot.now (by rw [if_neg h2])))
  rw [if_pos h2]
  exact Tot.bindE (impl_uses_tot nm b p hb) (Tot.now rfl)
theorem spec_VolUses_tot (nm : ByteArray) (b : List Int) (p : Int) (hb : b.length ≤ 1048576) : Tot (fun k => spec_VolUses.f k nm b p) (fun r => r = volUses nm b p) := by
  unfold spec_VolUses.f volUses
  refine Tot.bindE (spec_VolOk_tot nm b hb) (Tot.ite (fun h => ?_) (fun h => Tot.now (by rw [if_neg h])))
  rw [if_pos h]
  refine Tot.bindN (spec_l6In_eq _ _ _) (Tot.ite (fun h2 => ?_) (fun h2 => Tot.now (by rw [if_neg h2])))
  rw [if_pos h2]
  exact Tot.bindE (spec_l3Uses_tot nm b p hb) (Tot.now rfl)
/-! ### a disk that came in -/
theorem szInt_eq (l : List Int) (hl : l.length ≤ maxLen) (x : Int) (h0 : 0 ≤ x) (h1 : x ≤ 1048576) : laws_szIntS.f l x = some (if x - l.length < 0 then -1 else x - l.length) := by
  unfold maxLen at hl
  unfold laws_szIntS.f
  rw [w64 (x := x - l.length) (by omega) (by omega)]
  by_cases h : x - (l.length : Int) < 0
  · rw [if_pos h, if_pos h]
  · rw [if_neg h, if_neg h]
theorem szVol_eq (nm : ByteArray) (b : List Int) (hn : nm.size ≤ maxLen) (hb : b.length ≤ maxLen) (x : Int) (h0 : 0 ≤ x) (h1 : x ≤ 1048576) : ∃ r, laws_szVol.f nm b x = some r ∧ (r < 0 ∨ nm.size ≤ 1048576 ∧ b.length ≤ 1048576 ∧ 0 ≤ r ∧ r ≤ x) := by
  unfold maxLen at hn
  unfold laws_szVol.f
  rw [w64 (x := x - nm.size) (by omega) (by omega)]
  by_cases h : x - (nm.size : Int) < 0
  · rw [if_pos h]; exact ⟨-1, rfl, Or.inl (by omega)⟩
  · rw [if_neg h, szInt_eq b hb _ (by omega) (by omega), Option.bind_some]
    by_cases h2 : x - (nm.size : Int) - (b.length : Int) < 0
    · rw [if_pos h2, if_pos (by omega)]; exact ⟨-1, rfl, Or.inl (by omega)⟩
    · rw [if_neg h2, if_neg h2]; exact ⟨_, rfl, Or.inr ⟨by omega, by omega, by omega, by omega⟩⟩
theorem toInt_l0 (s : List Int) (hn : s.length ≤ 1048576) (d : Nat) : ∀ (i : Nat) (x : List Int), i + d = s.length → x.length = s.length → (∀ j, j < i → atI x j = atI s j) → Tot (fun k => laws_toIntS.l0 k s x (i : Int)) (fun r => r = s) := by
  induction d with
  | zero =>
    intro i x hi hx hj
    refine Tot.shift ?_
    simp only [laws_toIntS.l0]
    exact Tot.neg (by omega) (Tot.now (listI_ext hx fun j h1 => hj j (by omega)))
  | succ d ih =>
    intro i x hi hx hj
    refine Tot.shift ?_
    simp only [laws_toIntS.l0, rdI_at, Int.toNat_natCast]
    refine Tot.pos (by omega) (Tot.pos (by omega) (Tot.pos (by omega) ?_))
    rw [w64 (x := (i : Int) + 1) (by omega) (by omega)]
    refine ih (i + 1) _ (by omega) (by rw [List.length_set]; exact hx) fun j h => ?_
    rw [atI_set (by omega)]
    by_cases e : i = j
    · rw [if_pos e, ← e]
    · rw [if_neg e]; exact hj j (by omega)
theorem toInt_tot (s : List Int) (hn : s.length ≤ 1048576) : Tot (fun k => laws_toIntS.f k s) (fun r => r = s) := by
  unfold laws_toIntS.f
  refine Tot.pos (by omega) (Tot.pos (by rw [Int.toNat_natCast]; omega) ?_)
  exact toInt_l0 s hn s.length 0 _ (by omega) (by rw [List.length_replicate, Int.toNat_natCast]) (fun j h => by omega)
theorem toVol_tot (nm : ByteArray) (s : List Int) (hn : s.length ≤ 1048576) : Tot (fun k => laws_toVol.f k nm s) (fun r => r = (nm, s)) := by
  unfold laws_toVol.f
  exact Tot.bindE (toInt_tot s hn) (Tot.now rfl)
theorem eqInt_l0 (a b : List Int) (hl : a.length = b.length) (hn : a.length ≤ 1048576) (d : Nat) : ∀ i : Nat, i + d = a.length → (∀ j, j < i → atI a j = atI b j) → Tot (fun k => laws_eqIntS.l0 k a b (i : Int)) (fun r => r = true ↔ a = b) := by
  induction d with
  | zero =>
    intro i hi hj
    refine Tot.shift ?_
    simp only [laws_eqIntS.l0]
    exact Tot.neg (by omega) (Tot.now ⟨fun _ => listI_ext hl fun j h => hj j (by omega), fun _ => rfl⟩)
  | succ d ih =>
    intro i hi hj
    refine Tot.shift ?_
    simp only [laws_eqIntS.l0, rdI_at]
    refine Tot.pos (by omega) (Tot.pos (by omega) (Tot.pos (by omega) (Tot.ite (fun h => ?_) (fun h => Tot.now ⟨fun e => (by cases e), fun e => absurd (by rw [e]) h⟩))))
    rw [w64 (x := (i : Int) + 1) (by omega) (by omega)]
    refine ih (i + 1) (by omega) fun j h2 => ?_
    by_cases e : i = j
    · subst e; exact h
    · exact hj j (by omega)
theorem eqInt_tot (a b : List Int) (hn : a.length ≤ 1048576) : Tot (fun k => laws_eqIntS.f k a b) (fun r => r = true ↔ a = b) := by
  unfold laws_eqIntS.f
  exact Tot.ite (fun h => eqInt_l0 a b (by omega) hn a.length 0 (by omega) fun j h => by omega) (fun h => Tot.now ⟨fun e => (by cases e), fun e => absurd (by rw [e]) h⟩)
theorem eqVol_tot (n : ByteArray) (a : List Int) (m : ByteArray) (b : List Int) (hn : a.length ≤ 1048576) : Tot (fun k => laws_eqVol.f k n a m b) (fun r => r = true ↔ n = m ∧ a = b) := by
  unfold laws_eqVol.f
  refine Tot.ite (fun h => Tot.bind (eqInt_tot a b hn) fun r hr => Tot.ite (fun h2 => Tot.now ⟨fun _ => ⟨toList_inj.1 h, hr.1 h2⟩, fun _ => rfl⟩) (fun h2 => Tot.now ⟨fun e => (by cases e), fun e => absurd (hr.2 e.2) h2⟩)) (fun h => Tot.now ⟨fun e => (by cases e), fun e => absurd (toList_inj.2 e.1) h⟩)
theorem FnExactVolUses (nm : ByteArray) (b : List Int) (hg : nm.size ≤ maxLen ∧ b.length ≤ maxLen ∧ ∀ x ∈ b, (Lit.int .i64 x).wf = true) (p : Int) (hp : (Lit.int .i64 p).wf = true) : ∃ k, laws_FnExactVolUses.f k nm b p = some true := by
  refine Tot.rounds ?_
  unfold laws_FnExactVolUses.f
  refine Tot.bindO (szVol_eq nm b hg.1 hg.2.1 1048576 (by omega) (by omega)) fun r hr => Tot.ite (fun _ => Tot.now rfl) (fun h0 => ?_)
  obtain ⟨_, hb, _⟩ := hr.resolve_left h0
  refine Tot.bindE (toVol_tot nm b hb) (Tot.bindE (spec_VolUses_tot nm b p hb) (Tot.bindE (toVol_tot nm b hb) (Tot.bindE (impl_VolUses_tot nm b p hb) ?_)))
  refine Tot.pos rfl (Tot.bindE (toVol_tot nm b hb) (Tot.bind (eqVol_tot nm b nm b hb) fun q hq => ?_))
  exact Tot.pos (hq.2 ⟨rfl, rfl⟩) (Tot.now rfl)
end Go.Proofs.Ytpoleflmmdlgjaa.Pure
