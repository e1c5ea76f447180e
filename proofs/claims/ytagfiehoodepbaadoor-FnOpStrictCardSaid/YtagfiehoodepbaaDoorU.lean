/- Small plain lemmas: a calculus of 'with enough rounds', bytes, strings as lists of numbers. -/
import Derived.Test.YtagfiehoodepbaaDoorWMore
namespace Go.Proofs.YtagfiehoodepbaaDoorU
open Go.RowKit Go.Proofs.YtagfiehoodepbaaDoorW.PrintWords Go.Proofs.YtagfiehoodepbaaDoorW.PrintLast
set_option linter.unusedVariables false
set_option linter.unusedSimpArgs false
variable {α β : Type}

/-- With enough rounds it answers, and the answer is as P says. -/
def Tot (g : Nat → Option α) (P : α → Prop) : Prop := ∃ r, Ev g r ∧ P r

theorem Tot.rounds {g : Nat → Option α} {r : α} (h : Tot g (fun x => x = r)) : ∃ k, g k = some r := by
  obtain ⟨x, h, rfl⟩ := h
  exact h.rounds
theorem Tot.ev {g : Nat → Option α} {r : α} (h : Tot g (fun x => x = r)) : Ev g r := by
  obtain ⟨x, h, rfl⟩ := h
  exact h
theorem Tot.ofEv {g : Nat → Option α} {r : α} {P : α → Prop} (h : Ev g r) (p : P r) : Tot g P := ⟨r, h, p⟩
theorem Tot.mono {g : Nat → Option α} {P Q : α → Prop} (h : Tot g P) (k : ∀ r, P r → Q r) : Tot g Q := by
  obtain ⟨r, h, p⟩ := h
  exact ⟨r, h, k r p⟩
theorem Tot.bind {g : Nat → Option α} {f : Nat → α → Option β} {P : α → Prop} {Q : β → Prop} (h : Tot g P) (k : ∀ a, P a → Tot (fun n => f n a) Q) : Tot (fun n => (g n).bind (f n)) Q := by
  obtain ⟨a, h, p⟩ := h
  obtain ⟨r, k, q⟩ := k a p
  exact ⟨r, Ev.bind h k, q⟩
theorem Tot.bindE {g : Nat → Option α} {f : Nat → α → Option β} {v : α} {Q : β → Prop} (h : Tot g (fun x => x = v)) (k : Tot (fun n => f n v) Q) : Tot (fun n => (g n).bind (f n)) Q :=
  Tot.bind h (fun a p => p ▸ k)
/-- A call without rounds. -/
theorem Tot.bindN {x : Option α} {f : Nat → α → Option β} {v : α} {Q : β → Prop} (h : x = some v) (k : Tot (fun n => f n v) Q) : Tot (fun n => x.bind (f n)) Q := by
  subst h; exact k
theorem Tot.bindO {x : Option α} {f : Nat → α → Option β} {P : α → Prop} {Q : β → Prop} (h : ∃ v, x = some v ∧ P v) (k : ∀ a, P a → Tot (fun n => f n a) Q) : Tot (fun n => x.bind (f n)) Q := by
  obtain ⟨v, rfl, p⟩ := h; exact k v p
theorem Tot.now {r : α} {Q : α → Prop} (q : Q r) : Tot (fun _ => some r) Q := ⟨r, Ev.now r, q⟩
theorem Tot.shift {g : Nat → Option α} {Q : α → Prop} (h : Tot (fun k => g (k + 1)) Q) : Tot g Q := by
  obtain ⟨r, h, q⟩ := h
  exact ⟨r, Ev.step (fun _ => rfl) h, q⟩
theorem Tot.pos {c : Prop} [Decidable c] {f g : Nat → Option α} {Q : α → Prop} (h : c) (k : Tot f Q) : Tot (fun n => if c then f n else g n) Q := by
  simpa only [if_pos h] using k
theorem Tot.neg {c : Prop} [Decidable c] {f g : Nat → Option α} {Q : α → Prop} (h : ¬ c) (k : Tot g Q) : Tot (fun n => if c then f n else g n) Q := by
  simpa only [if_neg h] using k
theorem Tot.ite {c : Prop} [Decidable c] {f g : Nat → Option α} {Q : α → Prop} (h : c → Tot f Q) (k : ¬ c → Tot g Q) : Tot (fun n => if c then f n else g n) Q := by
  by_cases hc : c
  · exact Tot.pos hc (h hc)
  · exact Tot.neg hc (k hc)

/-! ### numbers -/
theorem w64 {x : Int} (h : -9223372036854775808 ≤ x) (h' : x < 9223372036854775808) : wrap64 x = x := by
  unfold wrap64; omega
theorem w64_range (x : Int) : -9223372036854775808 ≤ wrap64 x ∧ wrap64 x < 9223372036854775808 := by
  unfold wrap64; omega
theorem w64_bt (s : ByteArray) (i : Int) : wrap64 (bt s i) = bt s i := by
  have := bt_range s i
  exact w64 (by omega) (by omega)
theorem wf_i64 {x : Int} (h : (Lit.int .i64 x).wf = true) : -9223372036854775808 ≤ x ∧ x < 9223372036854775808 := by
  simp [Lit.wf, IntKind.min, IntKind.max, IntKind.signed, IntKind.bits] at h; omega
theorem wf_u8 {x : Int} (h : (Lit.int .u8 x).wf = true) : 0 ≤ x ∧ x ≤ 255 := by
  simp [Lit.wf, IntKind.min, IntKind.max, IntKind.signed, IntKind.bits] at h; omega

theorem bits_xor_nonneg {x y : Int} (hx : 0 ≤ x) (hx' : x < 9223372036854775808) (hy : 0 ≤ y) (hy' : y < 9223372036854775808) : 0 ≤ Go.bits .xor .i64 x y := by
  obtain ⟨a, rfl⟩ := Int.eq_ofNat_of_zero_le hx
  obtain ⟨b, rfl⟩ := Int.eq_ofNat_of_zero_le hy
  have ha : a < 2 ^ 63 := by omega
  have hb : b < 2 ^ 63 := by omega
  have hc : a ^^^ b < 2 ^ 63 := Nat.xor_lt_two_pow ha hb
  have ha' : a % 2 ^ 64 = a := Nat.mod_eq_of_lt (by omega)
  have hb' : b % 2 ^ 64 = b := Nat.mod_eq_of_lt (by omega)
  have e : (BitVec.ofNat 64 a ^^^ BitVec.ofNat 64 b).toNat = a ^^^ b := by rw [BitVec.toNat_xor, BitVec.toNat_ofNat, BitVec.toNat_ofNat, ha', hb']
  change 0 ≤ IntKind.i64.wrap (((BitVec.ofInt 64 (a : Int) ^^^ BitVec.ofInt 64 (b : Int)).toNat : Nat) : Int)
  rw [BitVec.ofInt_natCast, BitVec.ofInt_natCast, e, IntKind.wrap_i64]
  omega

/-! ### strings: the list of their bytes as numbers -/
theorem bt_rd (s : ByteArray) (i : Int) : bt s i = rd (bytesOf s) i := (rd_bytesOf s i).symm
theorem bytesOf_bound (s : ByteArray) : ∀ c ∈ bytesOf s, 0 ≤ c ∧ c ≤ 255 := by
  intro c hc
  unfold bytesOf at hc
  obtain ⟨b, _, rfl⟩ := List.mem_map.1 hc
  have := b.toNat_lt
  omega
theorem bytesOf_append (a b : ByteArray) : bytesOf (a ++ b) = bytesOf a ++ bytesOf b := by
  simp [bytesOf, ByteArray.data_append]
theorem drop_at (s : ByteArray) (i : Nat) (h : i < s.size) : (bytesOf s).drop i = bt s (i : Int) :: (bytesOf s).drop (i + 1) := by
  rw [bt_rd]
  have hl : i < (bytesOf s).length := by rw [bytesOf_length]; exact h
  rw [List.drop_eq_getElem_cons hl]
  congr 1
  simp [rd, List.getD_eq_getElem?_getD, List.getElem?_eq_getElem hl]
theorem take_at (s : ByteArray) (i : Nat) (h : i < s.size) : (bytesOf s).take (i + 1) = (bytesOf s).take i ++ [bt s (i : Int)] := by
  rw [bt_rd]
  have hl : i < (bytesOf s).length := by rw [bytesOf_length]; exact h
  rw [List.take_succ_eq_append_getElem hl]
  simp [rd, List.getD_eq_getElem?_getD, List.getElem?_eq_getElem hl]
theorem bytesOf_inj {a b : ByteArray} (h : bytesOf a = bytesOf b) : a = b := by
  have h2 : a.data.toList = b.data.toList := by
    unfold bytesOf at h
    exact List.map_inj_right (fun x y e => by
      have : x.toNat = y.toNat := by exact_mod_cast e
      exact UInt8.toNat_inj.1 this) |>.1 h
  cases a; cases b
  simp at h2
  simpa using h2
theorem toList_bytes (s : ByteArray) : bytesOf s = s.toList.map fun b => (b.toNat : Int) := by
  unfold bytesOf
  rw [ByteArray.toList_eq]
theorem toList_inj {a b : ByteArray} : a.toList = b.toList ↔ a = b := by
  constructor
  · intro h
    exact bytesOf_inj (by rw [toList_bytes, toList_bytes, h])
  · rintro rfl; rfl

/-! ### pieces -/
def okc (c : Int) : Bool := decide (97 ≤ c) && decide (c ≤ 100)
/-- Is it a piece. -/
def textOk (s : ByteArray) : Bool := (bytesOf s).all okc && decide ((s.size : Int) ≤ 4)
/-- The sum by letters and where they stand. -/
def psum : List Int → Int → Int
  | [], _ => 0
  | c :: l, i => (i + 1) * (c - 96) + psum l (i + 1)
/-- Where a piece is looked for first. -/
def place (s : ByteArray) : Int := psum (bytesOf s) 0 % 8 + 1
/-- The next place. -/
def next (p : Int) : Int := if 1 ≤ p ∧ p ≤ 8 then p % 8 + 1 else 0
theorem textOk_size {s : ByteArray} (h : textOk s = true) : s.size ≤ 4 := by
  unfold textOk at h
  rw [Bool.and_eq_true] at h
  have := of_decide_eq_true h.2
  omega
theorem bytesOf_extract (s : ByteArray) (a b : Nat) : bytesOf (s.extract a b) = ((bytesOf s).take b).drop a := by
  unfold bytesOf
  rw [ByteArray.data_extract, Array.toList_extract, List.extract_eq_take_drop, List.map_take, List.map_drop, List.drop_take]
theorem size_extract_le (s : ByteArray) (a b : Nat) : (s.extract a b).size ≤ s.size := by
  rw [ByteArray.size_extract]; omega
theorem textOk_extract {s : ByteArray} (h : textOk s = true) (a b : Nat) : textOk (s.extract a b) = true := by
  unfold textOk at h ⊢
  rw [Bool.and_eq_true] at h ⊢
  have h2 := of_decide_eq_true h.2
  have h3 := size_extract_le s a b
  refine ⟨?_, decide_eq_true (by omega)⟩
  rw [bytesOf_extract]
  exact List.all_eq_true.2 fun x hx => List.all_eq_true.1 h.1 x (List.mem_of_mem_take (List.mem_of_mem_drop hx))
theorem psum_snoc (l : List Int) (c : Int) : ∀ i : Int, psum (l ++ [c]) i = psum l i + (i + l.length + 1) * (c - 96) := by
  induction l with
  | nil => intro i; simp [psum]
  | cons x l ih =>
    intro i
    simp only [List.cons_append, psum, ih, List.length_cons, Int.natCast_add, Int.natCast_one]
    rw [show i + 1 + (l.length : Int) + 1 = i + ((l.length : Int) + 1) + 1 from by omega]
    omega
theorem place_range (s : ByteArray) : 1 ≤ place s ∧ place s ≤ 8 := by
  unfold place; omega

end Go.Proofs.YtagfiehoodepbaaDoorU
