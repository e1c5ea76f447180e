/- A slice's three words, carried along: what it leads to is not told. And a row of disks, told as the cells that it has and the rows that these lead to. -/
import Derived.Test.YtooamacekmjpaaaVMore
import Derived.Test.YtooamacekmjpaaaVKept
namespace Go.Proofs.Ytooamacekmjpaaa.PRawAdd
open Go.RowKit Go.Proofs.YtooamacekmjpaaaW.PrintWords
/-- A slice as it lies in a cell: its address, its length, its capacity. -/
abbrev RawHd := Option Addr × Nat × Nat
@[reducible] def rawv (x : RawHd) : Value := .slice x.1 x.2.1 x.2.2
@[reducible] def rawz : RawHd := (none, 0, 0)
def rawK : Kd RawHd := Kd.scalar rawv (fun _ => rfl)
theorem raw_heap : Kd.Heap rawK := Kd.heap_scalar
theorem R_iso_in {α β : Type} {d : Kd α} (f : β → α) {e base : Nat} {w : World} {ok : Nat → Prop} {v : Value} {xs : List β} (h : d.R e w base ok v (xs.map f)) : (Kd.iso d f).R e w base ok v xs := by
  obtain ⟨h0, inner, ho, hl, hr⟩ := h
  refine ⟨h0, inner, by rwa [List.length_map] at ho, by rwa [List.length_map] at hl, fun j p hj => ?_⟩
  exact hr j (f p) (by rw [List.getElem?_map, hj]; rfl)
theorem R_iso_out {α β : Type} {d : Kd α} (f : β → α) {e base : Nat} {w : World} {ok : Nat → Prop} {v : Value} {xs : List β} (h : (Kd.iso d f).R e w base ok v xs) : d.R e w base ok v (xs.map f) := by
  obtain ⟨h0, inner, ho, hl, hr⟩ := h
  refine ⟨h0, inner, by rw [List.length_map]; exact ho, by rw [List.length_map]; exact hl, fun j p hj => ?_⟩
  rw [List.getElem?_map] at hj
  obtain ⟨q, hq, rfl⟩ := Option.map_eq_some_iff.1 hj
  exact hr j q hq
/-- A disk: its name, and the row of its blocks. -/
def kV : Kd (ByteArray × List Int) := Kd.pair Kd.string (Kd.slice 3 (Kd.int .i64))
/-- .. its cells alone. -/
def kW : Kd (ByteArray × RawHd) := Kd.pair Kd.string rawK
section
variable {α : Type} {π : α → ByteArray × List Int} {e base : Nat} {w : World} {ok : Nat → Prop} {v : Value}
theorem S_open {xs : List α} (h : (Kd.iso kV π).S e w base ok v xs) : ∃ (hs : List RawHd) (okj : Nat → Nat → Prop), hs.length = xs.length ∧ kW.R e w base ok v ((xs.zip hs).map fun t => ((π t.1).1, t.2)) ∧
    (∀ i j k, okj i k → okj j k → i = j) ∧ (∀ j k, okj j k → ok k ∧ some k ≠ v.ownBlock) ∧ ∀ (j : Nat) (x : α) (hd : RawHd), xs[j]? = some x → hs[j]? = some hd → (Kd.int .i64).R 3 w base (okj j) (rawv hd) (π x).2 := by
  obtain ⟨f, h0, inner, ho, hl, hr⟩ := h
  rw [List.length_zipIdx] at ho hl
  have get : ∀ j : Nat, ∃ hd : RawHd, ∀ hj : j < xs.length, (inner.drop (j * 2)).take 2 = [Value.string (π xs[j]).1, rawv hd] ∧ (Kd.int .i64).R 3 w base (fun k => (ok k ∧ some k ≠ v.ownBlock) ∧ f k = j) (rawv hd) (π xs[j]).2 := by
    intro j
    by_cases hj : j < xs.length
    · obtain ⟨c0, c1, hc, e0, u, e1, hu⟩ := hr j (xs[j], j) (Kd.zip_at (List.getElem?_eq_getElem hj))
      obtain ⟨A, c, rfl⟩ := Kd.R_slice hu
      have e0' : c0 = [Value.string (π xs[j]).1] := e0
      refine ⟨(A, (π xs[j]).2.length, c), fun _ => ⟨?_, hu⟩⟩
      have hc' : (inner.drop (j * 2)).take 2 = c0 ++ c1 := hc
      rw [hc', e0', e1]
      rfl
    · exact ⟨rawz, fun h => absurd h hj⟩
  obtain ⟨F, hF⟩ := Classical.axiomOfChoice get
  refine ⟨(List.range xs.length).map F, fun j k => (ok k ∧ some k ≠ v.ownBlock) ∧ f k = j, by simp, ⟨h0, inner, ?_, ?_, fun j p hj => ?_⟩, fun i j k h1 h2 => h1.2.symm.trans h2.2, fun j k hk => hk.1, fun j x hd hx hh => ?_⟩
  · have e1 : ((xs.zip ((List.range xs.length).map F)).map fun t => ((π t.1).1, t.2)).length = xs.length := by simp
    rw [e1]
    exact ho
  · have e1 : ((xs.zip ((List.range xs.length).map F)).map fun t => ((π t.1).1, t.2)).length = xs.length := by simp
    rw [e1]
    exact hl
  · rw [List.getElem?_map] at hj
    obtain ⟨t, ht, rfl⟩ := Option.map_eq_some_iff.1 hj
    obtain ⟨h1, h2⟩ := List.getElem?_zip_eq_some.1 ht
    obtain ⟨hjl, h1'⟩ := List.getElem?_eq_some_iff.1 h1
    rw [List.getElem?_map, List.getElem?_range hjl] at h2
    have h2' : F j = t.2 := by simpa using h2
    refine ⟨[.string (π t.1).1], [rawv t.2], ?_, rfl, rfl⟩
    rw [← h2', ← h1']
    exact (hF j hjl).1
  · obtain ⟨hjl, h1'⟩ := List.getElem?_eq_some_iff.1 hx
    rw [List.getElem?_map, List.getElem?_range hjl] at hh
    have h2' : F j = hd := by simpa using hh
    rw [← h2', ← h1']
    exact (hF j hjl).2
theorem S_close {ts : List (α × RawHd)} {okj : Nat → Nat → Prop} (h : kW.R e w base ok v (ts.map fun t => ((π t.1).1, t.2))) (hap : ∀ i j k, okj i k → okj j k → i = j) (hok : ∀ j k, okj j k → ok k ∧ some k ≠ v.ownBlock)
    (hr : ∀ (j : Nat) (x : α) (hd : RawHd), ts[j]? = some (x, hd) → (Kd.int .i64).R 3 w base (okj j) (rawv hd) (π x).2) : (Kd.iso kV π).S e w base ok v (ts.map Prod.fst) := by
  obtain ⟨h0, inner, ho, hl, hi⟩ := h
  obtain ⟨f, hR⟩ := Kd.reps_tag (d := Kd.iso kV π) (w := w) (base := base) (ok := fun k => ok k ∧ some k ≠ v.ownBlock) (xs := ts.map Prod.fst) (inner := inner) okj hap hok (by rw [List.length_map]; rw [List.length_map] at hl; exact hl) (fun j x hj => by
    rw [List.getElem?_map] at hj
    obtain ⟨t, ht, rfl⟩ := Option.map_eq_some_iff.1 hj
    obtain ⟨c0, c1, hc, e0, e1⟩ := hi j ((π t.1).1, t.2) (by rw [List.getElem?_map, ht]; rfl)
    have e0' : c0 = [Value.string (π t.1).1] := e0
    have e1' : c1 = [rawv t.2] := e1
    exact ⟨c0, c1, hc, e0', rawv t.2, e1', hr j t.1 t.2 ht⟩)
  exact ⟨f, h0, inner, by rw [List.length_zipIdx, List.length_map]; rw [List.length_map] at ho; exact ho, hR⟩
end
end Go.Proofs.Ytooamacekmjpaaa.PRawAdd
