/- A disk put in its place: over disks whose blocks' slices are carried along, and over disks whose blocks lie apart. -/
import Derived.Test.YtooamacekmjpaaaQRawAdd1
namespace Go.Proofs.Ytooamacekmjpaaa.PRawAdd
open Go.RowKit Go.Proofs.YtooamacekmjpaaaW.PrintWords
/-- Put in behind all that are not greater. -/
def insG {β : Type} (nm : β → ByteArray) (v : β) : List β → List β
  | [] => [v]
  | x :: l => if Op.bytesLess (nm v).toList (nm x).toList = true then v :: x :: l else x :: insG nm v l
theorem insG_map {β γ : Type} (nm : γ → ByteArray) (φ : β → γ) (v : β) : ∀ l : List β, (insG (fun x => nm (φ x)) v l).map φ = insG nm (φ v) (l.map φ)
  | [] => rfl
  | x :: l => by
    simp only [insG, List.map_cons]
    by_cases c : Op.bytesLess (nm (φ v)).toList (nm (φ x)).toList = true
    · rw [if_pos c, if_pos c]; rfl
    · rw [if_neg c, if_neg c, List.map_cons, insG_map nm φ v l]
theorem insG_perm {β : Type} (nm : β → ByteArray) (v : β) : ∀ l : List β, (insG nm v l).Perm (v :: l)
  | [] => List.Perm.refl _
  | x :: l => by
    simp only [insG]
    by_cases c : Op.bytesLess (nm v).toList (nm x).toList = true
    · rw [if_pos c]
    · rw [if_neg c]
      exact ((insG_perm nm v l).cons x).trans (List.Perm.swap v x l)
theorem insG_length {β : Type} (nm : β → ByteArray) (v : β) (l : List β) : (insG nm v l).length = l.length + 1 := by
  rw [(insG_perm nm v l).length_eq, List.length_cons]
theorem raw_add (a : ByteArray) (h s : RawHd) (Z : List S38) (hZ : Z.length < 3518437208883) : ∀ (d k : Nat) (x5 : List S38) (i : Nat), Z.length - i = d → i ≤ Z.length → d < k → x5.length + 2 * d + 2 < 3518437208883 →
    spec_l11Add.l0 k x5 true (i : Int) s Z a h = some (s, x5 ++ Z.drop i) ∧ spec_l11Add.l0 k x5 false (i : Int) s Z a h = some (s, x5 ++ insG (fun x : S38 => x.f0) ⟨a, h⟩ (Z.drop i)) := by
  intro d
  induction d with
  | zero =>
    intro k x5 i hd hi hk hx
    obtain ⟨m, rfl⟩ : ∃ m, k = m + 1 := ⟨k - 1, by omega⟩
    have hn : ¬ ((i : Int) < (Z.length : Int)) := by omega
    have hdr : Z.drop i = [] := List.drop_eq_nil_of_le (by omega)
    refine ⟨?_, ?_⟩
    · simp only [spec_l11Add.l0]
      rw [if_neg hn, if_pos trivial, hdr, List.append_nil]
    · simp only [spec_l11Add.l0]
      rw [if_neg hn, if_neg Bool.false_ne_true, if_pos (by omega), hdr]
      rfl
  | succ d ih =>
    intro k x5 i hd hi hk hx
    obtain ⟨m, rfl⟩ : ∃ m, k = m + 1 := ⟨k - 1, by omega⟩
    have hl : i < Z.length := by omega
    have hp : (i : Int) < (Z.length : Int) := by omega
    have h0 : 0 ≤ (i : Int) := by omega
    have hdr : Z.drop i = Z[i] :: Z.drop (i + 1) := List.drop_eq_getElem_cons hl
    have hrd : rd_T38 Z (i : Int) = Z[i] := by simp [rd_T38, List.getD_eq_getElem?_getD, List.getElem?_eq_getElem hl]
    have hw : wrap64 ((i : Int) + 1) = ((i + 1 : Nat) : Int) := by unfold wrap64; omega
    have ee : (⟨Z[i].f0, Z[i].f1⟩ : S38) = Z[i] := rfl
    refine ⟨?_, ?_⟩
    · simp only [spec_l11Add.l0]
      rw [if_pos hp, if_pos trivial, if_pos h0, if_pos (by omega), hrd, ee, hw, (ih m (x5 ++ [Z[i]]) (i + 1) (by omega) (by omega) (by omega) (by simp; omega)).1, hdr]
      simp
    · simp only [spec_l11Add.l0]
      rw [if_pos hp, if_neg Bool.false_ne_true, if_pos h0, hrd, ee, hw, hdr]
      simp only [insG]
      by_cases c : Op.bytesLess a.toList Z[i].f0.toList = true
      · rw [if_pos c, if_pos c, if_pos (by omega)]
        show (if (x5 ++ [(⟨a, h⟩ : S38)]).length < 3518437208883 then _ else none) = _
        rw [if_pos (by simp; omega), (ih m (x5 ++ [(⟨a, h⟩ : S38)] ++ [Z[i]]) (i + 1) (by omega) (by omega) (by omega) (by simp; omega)).1]
        simp
      · rw [if_neg c, if_neg c, if_pos (by omega), (ih m (x5 ++ [Z[i]]) (i + 1) (by omega) (by omega) (by omega) (by simp; omega)).2]
        simp
section
variable {α : Type} {π : α → ByteArray × List Int}
/-- spec.l11Add over disks whose blocks lie apart: the new disk's too. -/
theorem add_calls (A0 : Option Addr) (n0 c0 : Nat) (A1 : Option Addr) (c1 : Nat) (l1 : List α) (x : α) (A2 : Option Addr) (c2 : Nat) (w : World) (b : Nat) (hb : b ≤ w.heap.size) (okv : Nat → Prop)
    (hl : l1.length < 1000000000000) (hS : (Kd.iso kV π).S 38 w b (fun k => ¬ okv k) (.slice A1 l1.length c1) l1) (hv : (Kd.int .i64).R 3 w b okv (.slice A2 (π x).2.length c2) (π x).2) :
    Calls Try.prog 95 #[.agg #[.slice A0 n0 c0, .slice A1 l1.length c1], .agg #[.string (π x).1, .slice A2 (π x).2.length c2]] w fun e w' => ∃ v1 : Value, e = .returned (.agg #[.slice A0 n0 c0, v1]) ∧
      (Kd.iso kV π).S 38 w' b (fun _ => True) v1 (insG (fun y => (π y).1) x l1) ∧ Below w.heap.size w w' := by
  obtain ⟨hs, okj, hhl, hR, hap, hok, hrow⟩ := S_open hS
  have hty := Kd.S_typed hS
  have htv := Kd.R_typed hv
  let Z : List S38 := (l1.zip hs).map fun t => ⟨(π t.1).1, t.2⟩
  have hZl : Z.length = l1.length := by simp [Z, hhl]
  have hRZ : k38.R 38 w b (fun k => ¬ okv k) (.slice A1 l1.length c1) Z := R_iso_in (d := Kd.pair Kd.string rawK) (fun x : S38 => (x.f0, x.f1)) (by
    have e : Z.map (fun x : S38 => (x.f0, x.f1)) = (l1.zip hs).map (fun t => ((π t.1).1, t.2)) := by simp [Z]
    rw [e]; exact hR)
  have hrd := Kd.R_reads' hRZ
  have hf := (raw_add (π x).1 (A2, (π x).2.length, c2) (A0, n0, c0) Z (by omega) Z.length (Z.length + 1) [] 0 (by omega) (by omega) (by omega) (by simp; omega)).2
  rw [List.drop_zero, List.nil_append] at hf
  have hc := spec_l11Add.calls (Z.length + 1) (A0, n0, c0) A1 c1 Z (π x).1 (A2, (π x).2.length, c2) _ _ w hrd.2.2 (by rw [hZl]; have := hrd.2.1; omega) hf
  rw [hZl] at hc
  refine hc.mono ?_
  rintro e w' ⟨v1, rfl, hr1, hbl⟩
  refine ⟨v1, rfl, ?_, hbl⟩
  -- the disks, their cells, and a number each
  let TL : List (α × RawHd × Nat) := (l1.zip hs).zipIdx.map fun t => (t.1.1, t.1.2, t.2)
  let tv : α × RawHd × Nat := (x, (A2, (π x).2.length, c2), l1.length)
  let TR := insG (fun t : α × RawHd × Nat => (π t.1).1) tv TL
  have m1 : TL.map (fun t => t.1) = l1 := by
    apply List.ext_getElem?
    intro j
    simp only [TL, List.map_map, List.getElem?_map, List.getElem?_zipIdx, Option.map_map]
    rcases Nat.lt_or_ge j l1.length with h | h
    · have h2 : j < hs.length := by omega
      rw [List.getElem?_eq_getElem (by simp; omega)]
      simp [List.getElem?_eq_getElem h]
    · rw [List.getElem?_eq_none (by simp; omega), List.getElem?_eq_none h]
      rfl
  have m2 : TL.map (fun t => ((π t.1).1, t.2.1)) = Z.map (fun x : S38 => (x.f0, x.f1)) := by
    apply List.ext_getElem?
    intro j
    simp only [TL, Z, List.map_map, List.getElem?_map, List.getElem?_zipIdx, Option.map_map]
    cases (l1.zip hs)[j]? <;> rfl
  have r1 : TR.map (fun t => t.1) = insG (fun y => (π y).1) x l1 := by
    rw [← m1]
    exact insG_map (fun y => (π y).1) (fun t : α × RawHd × Nat => t.1) tv TL
  have r2 : TR.map (fun t => ((π t.1).1, t.2.1)) = (insG (fun x : S38 => x.f0) ⟨(π x).1, (A2, (π x).2.length, c2)⟩ Z).map (fun x : S38 => (x.f0, x.f1)) := by
    have e1 := insG_map (fun p : ByteArray × RawHd => p.1) (fun t : α × RawHd × Nat => ((π t.1).1, t.2.1)) tv TL
    have e2 := insG_map (fun p : ByteArray × RawHd => p.1) (fun x : S38 => (x.f0, x.f1)) ⟨(π x).1, (A2, (π x).2.length, c2)⟩ Z
    rw [m2] at e1
    exact e1.trans e2.symm
  have hperm : TR.Perm (tv :: TL) := insG_perm _ _ _
  have hnd : (TR.map (fun t => t.2.2)).Nodup := by
    refine ((hperm.map (fun t : α × RawHd × Nat => t.2.2)).nodup_iff).2 ?_
    have e : TL.map (fun t => t.2.2) = List.range l1.length := by
      apply List.ext_getElem?
      intro j
      simp only [TL, List.map_map, List.getElem?_map, List.getElem?_zipIdx, Option.map_map]
      rcases Nat.lt_or_ge j l1.length with h | h
      · rw [List.getElem?_eq_getElem (by simp; omega), List.getElem?_range h]
        simp
      · rw [List.getElem?_eq_none (by simp; omega), List.getElem?_eq_none (by simpa using h)]
        rfl
    rw [List.map_cons, e]
    refine List.nodup_cons.2 ⟨fun h => ?_, List.nodup_range⟩
    have := List.mem_range.1 h
    exact Nat.lt_irrefl _ this
  let okt : Nat → Nat → Prop := fun t k => if t = l1.length then okv k ∧ k < w.heap.size ∧ (∃ cells, w.heap[k]? = some (.cells cells 3 (0, 0))) else okj t k ∧ k < w.heap.size ∧ (∃ cells, w.heap[k]? = some (.cells cells 3 (0, 0)))
  have int3 : ∀ {ok : Nat → Prop} {u : Value} {ys : List Int}, (Kd.int .i64).R 3 w b ok u ys → (Kd.int .i64).R 3 w' b (fun k => ok k ∧ k < w.heap.size ∧ (∃ cells, w.heap[k]? = some (.cells cells 3 (0, 0)))) u ys := by
    intro ok u ys h
    refine Kd.R_below (Kd.R_mono (Kd.R_bound h) (fun k hk => ⟨hk.1, hk.2.2.1, ?_⟩)) hbl
    obtain ⟨q, hq, cells, hc⟩ := hk.2.2.2
    have : q = 3 := by simpa [Kd.int, Kd.scalar] using hq
    exact ⟨cells, this ▸ hc⟩
  have each : ∀ t ∈ TR, (Kd.int .i64).R 3 w' b (okt t.2.2) (rawv t.2.1) (π t.1).2 := by
    intro t ht
    rcases List.mem_cons.1 (hperm.mem_iff.1 ht) with rfl | ht
    · have := int3 hv
      simpa [okt, tv] using this
    · obtain ⟨⟨⟨y, hd⟩, j⟩, hj, rfl⟩ := List.mem_map.1 ht
      obtain ⟨j', hj'⟩ := List.getElem?_of_mem hj
      rw [List.getElem?_zipIdx, Nat.zero_add] at hj'
      obtain ⟨p, hp, he⟩ := Option.map_eq_some_iff.1 hj'
      injection he with he1 he2
      subst he2
      subst he1
      obtain ⟨hy, hh⟩ := List.getElem?_zip_eq_some.1 hp
      have hjl : j' < l1.length := (List.getElem?_eq_some_iff.1 hy).1
      have := int3 (hrow j' y hd hy hh)
      simpa [okt, Nat.ne_of_lt hjl] using this
  have hap' : ∀ s t k, s ≤ l1.length → t ≤ l1.length → okt s k → okt t k → s = t := by
    intro s t k hs' ht' h1 h2
    by_cases c1 : s = l1.length
    · by_cases c2 : t = l1.length
      · rw [c1, c2]
      · simp only [okt, if_pos c1, if_neg c2] at h1 h2
        exact absurd h1.1 (hok t k h2.1).1
    · by_cases c2 : t = l1.length
      · simp only [okt, if_neg c1, if_pos c2] at h1 h2
        exact absurd h2.1 (hok s k h1.1).1
      · simp only [okt, if_neg c1, if_neg c2] at h1 h2
        exact hap s t k h1.1 h2.1
  have htag : ∀ (j : Nat) (t : α × RawHd × Nat), TR[j]? = some t → t.2.2 ≤ l1.length := by
    intro j t ht
    rcases List.mem_cons.1 (hperm.mem_iff.1 (List.mem_of_getElem? ht)) with rfl | h
    · exact Nat.le_refl _
    · obtain ⟨⟨⟨y, hd⟩, i⟩, hi, rfl⟩ := List.mem_map.1 h
      obtain ⟨j', hj'⟩ := List.getElem?_of_mem hi
      have hlt := (List.getElem?_eq_some_iff.1 hj').1
      rw [List.getElem?_zipIdx, Nat.zero_add] at hj'
      obtain ⟨p, hp, he⟩ := Option.map_eq_some_iff.1 hj'
      injection he with _ he2
      simp at hlt
      show i ≤ l1.length
      omega
  have hclose := S_close (π := π) (e := 38) (base := b) (w := w') (ok := fun _ => True) (v := v1) (ts := TR.map fun t => (t.1, t.2.1)) (okj := fun j k => ∃ t, TR[j]? = some t ∧ okt t.2.2 k) (by
      have := R_iso_out (d := Kd.pair Kd.string rawK) (fun x : S38 => (x.f0, x.f1)) hr1
      rw [List.map_map]
      show kW.R 38 w' b (fun _ => True) v1 (TR.map (fun t => ((π t.1).1, t.2.1)))
      rw [r2]
      exact Kd.R_lower this hb)
    (fun i j k h1 h2 => by
      obtain ⟨t1, g1, o1⟩ := h1
      obtain ⟨t2, g2, o2⟩ := h2
      have e := hap' _ _ k (htag i t1 g1) (htag j t2 g2) o1 o2
      have hi : i < (TR.map (fun t => t.2.2)).length := by rw [List.length_map]; exact (List.getElem?_eq_some_iff.1 g1).1
      exact (List.getElem?_inj hi hnd).1 (by rw [List.getElem?_map, List.getElem?_map, g1, g2]; exact congrArg some e))
    (fun j k h => ⟨trivial, fun he => by
      obtain ⟨t, _, ho⟩ := h
      have hlt : k < w.heap.size := by
        by_cases c : t.2.2 = l1.length
        · simp only [okt, if_pos c] at ho; exact ho.2.1
        · simp only [okt, if_neg c] at ho; exact ho.2.1
      have := Kd.R_base hr1 k he.symm
      omega⟩)
    (fun j y hd hj => by
      rw [List.getElem?_map] at hj
      obtain ⟨t, ht, he⟩ := Option.map_eq_some_iff.1 hj
      injection he with he1 he2
      subst he1
      subst he2
      exact Kd.R_mono (each t (List.mem_of_getElem? ht)) (fun k hk => ⟨t, ht, hk⟩))
  rw [List.map_map] at hclose
  rw [← r1]
  exact hclose
/-- A disk cut out. -/
theorem gone_close {xs : List α} {hs : List RawHd} {okj : Nat → Nat → Prop} {w' : World} {b b1 t : Nat} {ok1 : Nat → Prop} {v : Value} {ys : List S38} (hhl : hs.length = xs.length) (hR : k38.R 38 w' b1 ok1 v ys)
    (hys : ys = ((xs.zip hs).map fun t => (⟨(π t.1).1, t.2⟩ : S38)).take t ++ ((xs.zip hs).map fun t => (⟨(π t.1).1, t.2⟩ : S38)).drop (t + 1)) (hb : b ≤ b1) (hap : ∀ i j k, okj i k → okj j k → i = j) (hokj : ∀ j k, okj j k → k < b1)
    (hrow : ∀ (j : Nat) (x : α) (hd : RawHd), xs[j]? = some x → hs[j]? = some hd → (Kd.int .i64).R 3 w' b (okj j) (rawv hd) (π x).2) : (Kd.iso kV π).S 38 w' b (fun _ => True) v (xs.take t ++ xs.drop (t + 1)) := by
  have hc := S_close (π := π) (e := 38) (base := b) (w := w') (ok := fun _ => True) (v := v) (ts := (xs.zip hs).take t ++ (xs.zip hs).drop (t + 1)) (okj := fun j k => okj (if j < t then j else j + 1) k) (by
      have h1 := R_iso_out (d := Kd.pair Kd.string rawK) (fun x : S38 => (x.f0, x.f1)) hR
      have e : ys.map (fun x : S38 => (x.f0, x.f1)) = ((xs.zip hs).take t ++ (xs.zip hs).drop (t + 1)).map fun t => ((π t.1).1, t.2) := by
        rw [hys]
        simp [List.map_take, List.map_drop]
        rfl
      rw [e] at h1
      exact Kd.R_mono (Kd.R_lower h1 hb) (fun _ _ => trivial))
    (fun i j k h1 h2 => by
      have := hap _ _ k h1 h2
      split at this <;> split at this <;> omega)
    (fun j k h => ⟨trivial, fun he => by
      have := hokj _ k h
      have := Kd.R_base hR k he.symm
      omega⟩)
    (fun j x hd hj => by
      have hz : (xs.zip hs)[if j < t then j else j + 1]? = some (x, hd) := by
        rw [List.getElem?_append] at hj
        by_cases c : j < t
        · rw [if_pos c]
          by_cases c2 : j < ((xs.zip hs).take t).length
          · rw [if_pos c2, List.getElem?_take, if_pos c] at hj
            exact hj
          · rw [if_neg c2, List.getElem?_drop] at hj
            have hlt := (List.getElem?_eq_some_iff.1 hj).1
            rw [List.length_take] at c2 hlt
            omega
        · rw [if_neg c]
          have c2 : ¬ j < ((xs.zip hs).take t).length := by rw [List.length_take]; omega
          rw [if_neg c2, List.getElem?_drop, List.length_take] at hj
          have hlt := (List.getElem?_eq_some_iff.1 hj).1
          rw [show t + 1 + (j - min t (xs.zip hs).length) = j + 1 by omega] at hj
          exact hj
      obtain ⟨h1, h2⟩ := List.getElem?_zip_eq_some.1 hz
      exact hrow _ x hd h1 h2)
  have e : ((xs.zip hs).take t ++ (xs.zip hs).drop (t + 1)).map Prod.fst = xs.take t ++ xs.drop (t + 1) := by
    have e1 : (xs.zip hs).map Prod.fst = xs := by rw [List.map_fst_zip]; omega
    rw [List.map_append, List.map_take, List.map_drop, e1]
  rw [e] at hc
  exact hc
end
end Go.Proofs.Ytooamacekmjpaaa.PRawAdd
