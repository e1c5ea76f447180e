/-
  No cell of these rows narrows 'for every input' (looked for: loops, veiled, ifaces, maps, wideKeys, modest, calm, conditions, laid).
  DERIVED. THE GIVEN ROWS OF THIS SEAT. 16 by the template 'for every input the law returns true; each argument reads behind the call as it read before'; 0 by the template 'total and deterministic' (their statements: YtjdkccpcgmgmmaaTotals.lean).
  GIVEN WITH THE SEED: the statements are not yours to turn. If you find one false, say at which input.
  Laid BY PROGRAM, IN A SANDBOX (cutbox-rows.mjs): the forced cells as the released guide's own fill.sh prints them over the translation 621d9a63dd111c57… (all of the seat's roots in one cut). By AI agents, Wed Nov 11 2026. No macro, syntax, notation, axiom, sorry.
-/
import Derived.Test.YtjdkccpcgmgmmaaChecked
import GoSem.Claim
import GoSem.ClaimJoined
import GoSem.ClaimMapViews
import Derived.JoinedTies
import Derived.KernelRfl
namespace Go.Proofs.Ytjdkccpcgmgmmaa
/- THE CELL 'sum', in the pinned program and in every row, IS THE sha256 OF THE DUMP (.gsa) THAT YtjdkccpcgmgmmaaProg.lean LOADS. Nothing in Lean hashes anything: it is a label: what it is worth is what the hold of that sum in a sandbox is worth. -/
noncomputable def Try.pinned : Pinned := { name := "ytjdkccpcgmgmmaa", sum := "621d9a63dd111c5702a60ba7f6b0b2133626d0381f847876f0b9f92e33963cd4", checked := Try.checked }
namespace Rows
def none {H : Type} : Left H := { results := [], args := [] }

/-- 'laws.FnExactStoreOk': WHATEVER THE INPUT: true; the input reads as it did. -/
def fnExactStoreOkSpec : ChangeSpec := { name := "fnExactStoreOk", fn := fun _ => fun
  | [d] => { results := [.lit (.bool true)], args := [d] }
  | _ => none }
def fnExactStoreOkRow : OpenClaim := { program := "ytjdkccpcgmgmmaa", sum := "621d9a63dd111c5702a60ba7f6b0b2133626d0381f847876f0b9f92e33963cd4", func := "loop.example/garner/laws.FnExactStoreOk", spec := "fnExactStoreOk", unfollowed := true, recurses := true, apart := false }
def FnExactStoreOkSaid : Prop := fnExactStoreOkRow.holds Try.pinned (OpenSpec.ofChange fnExactStoreOkSpec)

/-- ITS FALSE NEIGHBOUR: 'it returns false'. Refute it at one input. -/
def fnExactStoreOkWrong : ChangeSpec := { name := "fnExactStoreOk", fn := fun _ => fun
  | [d] => { results := [.lit (.bool false)], args := [d] }
  | _ => none }
def FnExactStoreOkWrongFalsely : Prop := fnExactStoreOkRow.holds Try.pinned (OpenSpec.ofChange fnExactStoreOkWrong)

/-- 'laws.FnExactStoreFree': WHATEVER THE INPUT: true; the input reads as it did. -/
def fnExactStoreFreeSpec : ChangeSpec := { name := "fnExactStoreFree", fn := fun _ => fun
  | [d] => { results := [.lit (.bool true)], args := [d] }
  | _ => none }
def fnExactStoreFreeRow : OpenClaim := { program := "ytjdkccpcgmgmmaa", sum := "621d9a63dd111c5702a60ba7f6b0b2133626d0381f847876f0b9f92e33963cd4", func := "loop.example/garner/laws.FnExactStoreFree", spec := "fnExactStoreFree", unfollowed := true, recurses := true, apart := false }
def FnExactStoreFreeSaid : Prop := fnExactStoreFreeRow.holds Try.pinned (OpenSpec.ofChange fnExactStoreFreeSpec)

/-- ITS FALSE NEIGHBOUR: 'it returns false'. Refute it at one input. -/
def fnExactStoreFreeWrong : ChangeSpec := { name := "fnExactStoreFree", fn := fun _ => fun
  | [d] => { results := [.lit (.bool false)], args := [d] }
  | _ => none }
def FnExactStoreFreeWrongFalsely : Prop := fnExactStoreFreeRow.holds Try.pinned (OpenSpec.ofChange fnExactStoreFreeWrong)

/-- 'laws.FnExactStoreFind': WHATEVER THE INPUT: true; the input reads as it did. -/
def fnExactStoreFindSpec : ChangeSpec := { name := "fnExactStoreFind", fn := fun _ => fun
  | [d1, d2] => { results := [.lit (.bool true)], args := [d1, d2] }
  | _ => none }
def fnExactStoreFindRow : OpenClaim := { program := "ytjdkccpcgmgmmaa", sum := "621d9a63dd111c5702a60ba7f6b0b2133626d0381f847876f0b9f92e33963cd4", func := "loop.example/garner/laws.FnExactStoreFind", spec := "fnExactStoreFind", unfollowed := true, recurses := true, apart := false }
def FnExactStoreFindSaid : Prop := fnExactStoreFindRow.holds Try.pinned (OpenSpec.ofChange fnExactStoreFindSpec)

/-- ITS FALSE NEIGHBOUR: 'it returns false'. Refute it at one input. -/
def fnExactStoreFindWrong : ChangeSpec := { name := "fnExactStoreFind", fn := fun _ => fun
  | [d1, d2] => { results := [.lit (.bool false)], args := [d1, d2] }
  | _ => none }
def FnExactStoreFindWrongFalsely : Prop := fnExactStoreFindRow.holds Try.pinned (OpenSpec.ofChange fnExactStoreFindWrong)

/-- 'laws.FnStoreBad': WHATEVER THE INPUT: true; the input reads as it did. -/
def fnStoreBadSpec : ChangeSpec := { name := "fnStoreBad", fn := fun _ => fun
  | [d1, d2] => { results := [.lit (.bool true)], args := [d1, d2] }
  | _ => none }
def fnStoreBadRow : OpenClaim := { program := "ytjdkccpcgmgmmaa", sum := "621d9a63dd111c5702a60ba7f6b0b2133626d0381f847876f0b9f92e33963cd4", func := "loop.example/garner/laws.FnStoreBad", spec := "fnStoreBad", unfollowed := true, recurses := true, apart := false }
def FnStoreBadSaid : Prop := fnStoreBadRow.holds Try.pinned (OpenSpec.ofChange fnStoreBadSpec)

/-- ITS FALSE NEIGHBOUR: 'it returns false'. Refute it at one input. -/
def fnStoreBadWrong : ChangeSpec := { name := "fnStoreBad", fn := fun _ => fun
  | [d1, d2] => { results := [.lit (.bool false)], args := [d1, d2] }
  | _ => none }
def FnStoreBadWrongFalsely : Prop := fnStoreBadRow.holds Try.pinned (OpenSpec.ofChange fnStoreBadWrong)

/-- 'laws.FnStoreFree': WHATEVER THE INPUT: true; the input reads as it did. -/
def fnStoreFreeSpec : ChangeSpec := { name := "fnStoreFree", fn := fun _ => fun
  | [d] => { results := [.lit (.bool true)], args := [d] }
  | _ => none }
def fnStoreFreeRow : OpenClaim := { program := "ytjdkccpcgmgmmaa", sum := "621d9a63dd111c5702a60ba7f6b0b2133626d0381f847876f0b9f92e33963cd4", func := "loop.example/garner/laws.FnStoreFree", spec := "fnStoreFree", unfollowed := true, recurses := true, apart := false }
def FnStoreFreeSaid : Prop := fnStoreFreeRow.holds Try.pinned (OpenSpec.ofChange fnStoreFreeSpec)

/-- ITS FALSE NEIGHBOUR: 'it returns false'. Refute it at one input. -/
def fnStoreFreeWrong : ChangeSpec := { name := "fnStoreFree", fn := fun _ => fun
  | [d] => { results := [.lit (.bool false)], args := [d] }
  | _ => none }
def FnStoreFreeWrongFalsely : Prop := fnStoreFreeRow.holds Try.pinned (OpenSpec.ofChange fnStoreFreeWrong)

/-- 'laws.FnExactStoreDrop': WHATEVER THE INPUT: true; the input reads as it did. -/
def fnExactStoreDropSpec : ChangeSpec := { name := "fnExactStoreDrop", fn := fun _ => fun
  | [d1, d2] => { results := [.lit (.bool true)], args := [d1, d2] }
  | _ => none }
def fnExactStoreDropRow : OpenClaim := { program := "ytjdkccpcgmgmmaa", sum := "621d9a63dd111c5702a60ba7f6b0b2133626d0381f847876f0b9f92e33963cd4", func := "loop.example/garner/laws.FnExactStoreDrop", spec := "fnExactStoreDrop", unfollowed := true, recurses := true, apart := false }
def FnExactStoreDropSaid : Prop := fnExactStoreDropRow.holds Try.pinned (OpenSpec.ofChange fnExactStoreDropSpec)

/-- ITS FALSE NEIGHBOUR: 'it returns false'. Refute it at one input. -/
def fnExactStoreDropWrong : ChangeSpec := { name := "fnExactStoreDrop", fn := fun _ => fun
  | [d1, d2] => { results := [.lit (.bool false)], args := [d1, d2] }
  | _ => none }
def FnExactStoreDropWrongFalsely : Prop := fnExactStoreDropRow.holds Try.pinned (OpenSpec.ofChange fnExactStoreDropWrong)

/-- 'laws.FnFindThere': WHATEVER THE INPUT: true; the input reads as it did. -/
def fnFindThereSpec : ChangeSpec := { name := "fnFindThere", fn := fun _ => fun
  | [d] => { results := [.lit (.bool true)], args := [d] }
  | _ => none }
def fnFindThereRow : OpenClaim := { program := "ytjdkccpcgmgmmaa", sum := "621d9a63dd111c5702a60ba7f6b0b2133626d0381f847876f0b9f92e33963cd4", func := "loop.example/garner/laws.FnFindThere", spec := "fnFindThere", unfollowed := true, recurses := true, apart := false }
def FnFindThereSaid : Prop := fnFindThereRow.holds Try.pinned (OpenSpec.ofChange fnFindThereSpec)

/-- ITS FALSE NEIGHBOUR: 'it returns false'. Refute it at one input. -/
def fnFindThereWrong : ChangeSpec := { name := "fnFindThere", fn := fun _ => fun
  | [d] => { results := [.lit (.bool false)], args := [d] }
  | _ => none }
def FnFindThereWrongFalsely : Prop := fnFindThereRow.holds Try.pinned (OpenSpec.ofChange fnFindThereWrong)

/-- 'laws.FnExactVolText': WHATEVER THE INPUT: true; the input reads as it did. -/
def fnExactVolTextSpec : ChangeSpec := { name := "fnExactVolText", fn := fun _ => fun
  | [d1, d2] => { results := [.lit (.bool true)], args := [d1, d2] }
  | _ => none }
def fnExactVolTextRow : OpenClaim := { program := "ytjdkccpcgmgmmaa", sum := "621d9a63dd111c5702a60ba7f6b0b2133626d0381f847876f0b9f92e33963cd4", func := "loop.example/garner/laws.FnExactVolText", spec := "fnExactVolText", unfollowed := true, recurses := true, apart := false }
def FnExactVolTextSaid : Prop := fnExactVolTextRow.holds Try.pinned (OpenSpec.ofChange fnExactVolTextSpec)

/-- ITS FALSE NEIGHBOUR: 'it returns false'. Refute it at one input. -/
def fnExactVolTextWrong : ChangeSpec := { name := "fnExactVolText", fn := fun _ => fun
  | [d1, d2] => { results := [.lit (.bool false)], args := [d1, d2] }
  | _ => none }
def FnExactVolTextWrongFalsely : Prop := fnExactVolTextRow.holds Try.pinned (OpenSpec.ofChange fnExactVolTextWrong)

/-- 'laws.FnDropAll': WHATEVER THE INPUT: true; the input reads as it did. -/
def fnDropAllSpec : ChangeSpec := { name := "fnDropAll", fn := fun _ => fun
  | [d] => { results := [.lit (.bool true)], args := [d] }
  | _ => none }
def fnDropAllRow : OpenClaim := { program := "ytjdkccpcgmgmmaa", sum := "621d9a63dd111c5702a60ba7f6b0b2133626d0381f847876f0b9f92e33963cd4", func := "loop.example/garner/laws.FnDropAll", spec := "fnDropAll", unfollowed := true, recurses := true, apart := false }
def FnDropAllSaid : Prop := fnDropAllRow.holds Try.pinned (OpenSpec.ofChange fnDropAllSpec)

/-- ITS FALSE NEIGHBOUR: 'it returns false'. Refute it at one input. -/
def fnDropAllWrong : ChangeSpec := { name := "fnDropAll", fn := fun _ => fun
  | [d] => { results := [.lit (.bool false)], args := [d] }
  | _ => none }
def FnDropAllWrongFalsely : Prop := fnDropAllRow.holds Try.pinned (OpenSpec.ofChange fnDropAllWrong)

/-- 'laws.FnDropUses': WHATEVER THE INPUT: true; the input reads as it did. -/
def fnDropUsesSpec : ChangeSpec := { name := "fnDropUses", fn := fun _ => fun
  | [d] => { results := [.lit (.bool true)], args := [d] }
  | _ => none }
def fnDropUsesRow : OpenClaim := { program := "ytjdkccpcgmgmmaa", sum := "621d9a63dd111c5702a60ba7f6b0b2133626d0381f847876f0b9f92e33963cd4", func := "loop.example/garner/laws.FnDropUses", spec := "fnDropUses", unfollowed := true, recurses := true, apart := false }
def FnDropUsesSaid : Prop := fnDropUsesRow.holds Try.pinned (OpenSpec.ofChange fnDropUsesSpec)

/-- ITS FALSE NEIGHBOUR: 'it returns false'. Refute it at one input. -/
def fnDropUsesWrong : ChangeSpec := { name := "fnDropUses", fn := fun _ => fun
  | [d] => { results := [.lit (.bool false)], args := [d] }
  | _ => none }
def FnDropUsesWrongFalsely : Prop := fnDropUsesRow.holds Try.pinned (OpenSpec.ofChange fnDropUsesWrong)

/-- 'laws.FnExactStorePut': WHATEVER THE INPUT: true; the input reads as it did. -/
def fnExactStorePutSpec : ChangeSpec := { name := "fnExactStorePut", fn := fun _ => fun
  | [d1, d2] => { results := [.lit (.bool true)], args := [d1, d2] }
  | _ => none }
def fnExactStorePutRow : OpenClaim := { program := "ytjdkccpcgmgmmaa", sum := "621d9a63dd111c5702a60ba7f6b0b2133626d0381f847876f0b9f92e33963cd4", func := "loop.example/garner/laws.FnExactStorePut", spec := "fnExactStorePut", unfollowed := true, recurses := true, apart := false }
def FnExactStorePutSaid : Prop := fnExactStorePutRow.holds Try.pinned (OpenSpec.ofChange fnExactStorePutSpec)

/-- ITS FALSE NEIGHBOUR: 'it returns false'. Refute it at one input. -/
def fnExactStorePutWrong : ChangeSpec := { name := "fnExactStorePut", fn := fun _ => fun
  | [d1, d2] => { results := [.lit (.bool false)], args := [d1, d2] }
  | _ => none }
def FnExactStorePutWrongFalsely : Prop := fnExactStorePutRow.holds Try.pinned (OpenSpec.ofChange fnExactStorePutWrong)

/-- 'laws.FnFindSame': WHATEVER THE INPUT: true; the input reads as it did. -/
def fnFindSameSpec : ChangeSpec := { name := "fnFindSame", fn := fun _ => fun
  | [d1, d2] => { results := [.lit (.bool true)], args := [d1, d2] }
  | _ => none }
def fnFindSameRow : OpenClaim := { program := "ytjdkccpcgmgmmaa", sum := "621d9a63dd111c5702a60ba7f6b0b2133626d0381f847876f0b9f92e33963cd4", func := "loop.example/garner/laws.FnFindSame", spec := "fnFindSame", unfollowed := true, recurses := true, apart := false }
def FnFindSameSaid : Prop := fnFindSameRow.holds Try.pinned (OpenSpec.ofChange fnFindSameSpec)

/-- ITS FALSE NEIGHBOUR: 'it returns false'. Refute it at one input. -/
def fnFindSameWrong : ChangeSpec := { name := "fnFindSame", fn := fun _ => fun
  | [d1, d2] => { results := [.lit (.bool false)], args := [d1, d2] }
  | _ => none }
def FnFindSameWrongFalsely : Prop := fnFindSameRow.holds Try.pinned (OpenSpec.ofChange fnFindSameWrong)

/-- 'laws.FnPutFree': WHATEVER THE INPUT: true; the input reads as it did. -/
def fnPutFreeSpec : ChangeSpec := { name := "fnPutFree", fn := fun _ => fun
  | [d] => { results := [.lit (.bool true)], args := [d] }
  | _ => none }
def fnPutFreeRow : OpenClaim := { program := "ytjdkccpcgmgmmaa", sum := "621d9a63dd111c5702a60ba7f6b0b2133626d0381f847876f0b9f92e33963cd4", func := "loop.example/garner/laws.FnPutFree", spec := "fnPutFree", unfollowed := true, recurses := true, apart := false }
def FnPutFreeSaid : Prop := fnPutFreeRow.holds Try.pinned (OpenSpec.ofChange fnPutFreeSpec)

/-- ITS FALSE NEIGHBOUR: 'it returns false'. Refute it at one input. -/
def fnPutFreeWrong : ChangeSpec := { name := "fnPutFree", fn := fun _ => fun
  | [d] => { results := [.lit (.bool false)], args := [d] }
  | _ => none }
def FnPutFreeWrongFalsely : Prop := fnPutFreeRow.holds Try.pinned (OpenSpec.ofChange fnPutFreeWrong)

/-- 'laws.FnPutDrop': WHATEVER THE INPUT: true; the input reads as it did. -/
def fnPutDropSpec : ChangeSpec := { name := "fnPutDrop", fn := fun _ => fun
  | [d] => { results := [.lit (.bool true)], args := [d] }
  | _ => none }
def fnPutDropRow : OpenClaim := { program := "ytjdkccpcgmgmmaa", sum := "621d9a63dd111c5702a60ba7f6b0b2133626d0381f847876f0b9f92e33963cd4", func := "loop.example/garner/laws.FnPutDrop", spec := "fnPutDrop", unfollowed := true, recurses := true, apart := false }
def FnPutDropSaid : Prop := fnPutDropRow.holds Try.pinned (OpenSpec.ofChange fnPutDropSpec)

/-- ITS FALSE NEIGHBOUR: 'it returns false'. Refute it at one input. -/
def fnPutDropWrong : ChangeSpec := { name := "fnPutDrop", fn := fun _ => fun
  | [d] => { results := [.lit (.bool false)], args := [d] }
  | _ => none }
def FnPutDropWrongFalsely : Prop := fnPutDropRow.holds Try.pinned (OpenSpec.ofChange fnPutDropWrong)

/-- 'laws.FnPutTwo': WHATEVER THE INPUT: true; the input reads as it did. -/
def fnPutTwoSpec : ChangeSpec := { name := "fnPutTwo", fn := fun _ => fun
  | [d1, d2] => { results := [.lit (.bool true)], args := [d1, d2] }
  | _ => none }
def fnPutTwoRow : OpenClaim := { program := "ytjdkccpcgmgmmaa", sum := "621d9a63dd111c5702a60ba7f6b0b2133626d0381f847876f0b9f92e33963cd4", func := "loop.example/garner/laws.FnPutTwo", spec := "fnPutTwo", unfollowed := true, recurses := true, apart := false }
def FnPutTwoSaid : Prop := fnPutTwoRow.holds Try.pinned (OpenSpec.ofChange fnPutTwoSpec)

/-- ITS FALSE NEIGHBOUR: 'it returns false'. Refute it at one input. -/
def fnPutTwoWrong : ChangeSpec := { name := "fnPutTwo", fn := fun _ => fun
  | [d1, d2] => { results := [.lit (.bool false)], args := [d1, d2] }
  | _ => none }
def FnPutTwoWrongFalsely : Prop := fnPutTwoRow.holds Try.pinned (OpenSpec.ofChange fnPutTwoWrong)

/-- 'laws.FnPutUses': WHATEVER THE INPUT: true; the input reads as it did. -/
def fnPutUsesSpec : ChangeSpec := { name := "fnPutUses", fn := fun _ => fun
  | [d] => { results := [.lit (.bool true)], args := [d] }
  | _ => none }
def fnPutUsesRow : OpenClaim := { program := "ytjdkccpcgmgmmaa", sum := "621d9a63dd111c5702a60ba7f6b0b2133626d0381f847876f0b9f92e33963cd4", func := "loop.example/garner/laws.FnPutUses", spec := "fnPutUses", unfollowed := true, recurses := true, apart := false }
def FnPutUsesSaid : Prop := fnPutUsesRow.holds Try.pinned (OpenSpec.ofChange fnPutUsesSpec)

/-- ITS FALSE NEIGHBOUR: 'it returns false'. Refute it at one input. -/
def fnPutUsesWrong : ChangeSpec := { name := "fnPutUses", fn := fun _ => fun
  | [d] => { results := [.lit (.bool false)], args := [d] }
  | _ => none }
def FnPutUsesWrongFalsely : Prop := fnPutUsesRow.holds Try.pinned (OpenSpec.ofChange fnPutUsesWrong)

/- THE SECOND FORM. 'bulk': how many values and letters a reading holds, each counted each time it is reached (what is shared counts as often as it is met; a slice's spare places count too). A statement '..UptoSaid' is the law's where the arguments, and the package variables that the reading takes, are together of bulk at most 1048576: NARROWER than '..Said'. Prove '..Said' where nothing that the law and all that it calls make is longer than what came in: it says more and counts as full. Else prove '..UptoSaid'. A law counts once. -/
mutual
def uptoBulk {H : Type} : DataW H → Nat
  | .lit (.string bytes) => bytes.length + 1
  | .lit _ => 1
  | .nil => 1
  | .ptr d => uptoBulk d + 1
  | .slice elems spare => uptoBulkAll elems + uptoBulkAll spare + 1
  | .agg parts => uptoBulkAll parts + 1
  | .iface _ d => uptoBulk d + 1
  | .map entries => uptoBulkEntries entries + 1
  | .held _ => 1
def uptoBulkAll {H : Type} : List (DataW H) → Nat
  | [] => 0
  | d :: r => uptoBulk d + uptoBulkAll r
def uptoBulkEntries {H : Type} : List (Lit × DataW H) → Nat
  | [] => 0
  | x :: r => uptoBulkEntry x + uptoBulkEntries r
def uptoBulkEntry {H : Type} : Lit × DataW H → Nat
  | (.string bytes, d) => bytes.length + uptoBulk d + 1
  | (_, d) => uptoBulk d + 1
 end
def uptoSmall : (H : Type) → List (DataW H) → Bool := fun _ ds => decide (uptoBulkAll ds ≤ 1048576)
def OpenSpec.upto (s : _root_.Go.ChangeSpec) : _root_.Go.OpenSpec := { _root_.Go.OpenSpec.ofChange s with cond := some uptoSmall }

/-- 'laws.FnExactStoreOk', WHERE WHAT IT READS IS OF BULK AT MOST 1048576: true; the input reads as it did. -/
def fnExactStoreOkUptoRow : OpenClaim := { program := "ytjdkccpcgmgmmaa", sum := "621d9a63dd111c5702a60ba7f6b0b2133626d0381f847876f0b9f92e33963cd4", func := "loop.example/garner/laws.FnExactStoreOk", spec := "fnExactStoreOk", unfollowed := true, recurses := true, apart := false, narrowed := true }
def FnExactStoreOkUptoSaid : Prop := fnExactStoreOkUptoRow.holds Try.pinned (OpenSpec.upto fnExactStoreOkSpec)

/-- 'laws.FnExactStoreFree', WHERE WHAT IT READS IS OF BULK AT MOST 1048576: true; the input reads as it did. -/
def fnExactStoreFreeUptoRow : OpenClaim := { program := "ytjdkccpcgmgmmaa", sum := "621d9a63dd111c5702a60ba7f6b0b2133626d0381f847876f0b9f92e33963cd4", func := "loop.example/garner/laws.FnExactStoreFree", spec := "fnExactStoreFree", unfollowed := true, recurses := true, apart := false, narrowed := true }
def FnExactStoreFreeUptoSaid : Prop := fnExactStoreFreeUptoRow.holds Try.pinned (OpenSpec.upto fnExactStoreFreeSpec)

/-- 'laws.FnExactStoreFind', WHERE WHAT IT READS IS OF BULK AT MOST 1048576: true; the input reads as it did. -/
def fnExactStoreFindUptoRow : OpenClaim := { program := "ytjdkccpcgmgmmaa", sum := "621d9a63dd111c5702a60ba7f6b0b2133626d0381f847876f0b9f92e33963cd4", func := "loop.example/garner/laws.FnExactStoreFind", spec := "fnExactStoreFind", unfollowed := true, recurses := true, apart := false, narrowed := true }
def FnExactStoreFindUptoSaid : Prop := fnExactStoreFindUptoRow.holds Try.pinned (OpenSpec.upto fnExactStoreFindSpec)

/-- 'laws.FnStoreBad', WHERE WHAT IT READS IS OF BULK AT MOST 1048576: true; the input reads as it did. -/
def fnStoreBadUptoRow : OpenClaim := { program := "ytjdkccpcgmgmmaa", sum := "621d9a63dd111c5702a60ba7f6b0b2133626d0381f847876f0b9f92e33963cd4", func := "loop.example/garner/laws.FnStoreBad", spec := "fnStoreBad", unfollowed := true, recurses := true, apart := false, narrowed := true }
def FnStoreBadUptoSaid : Prop := fnStoreBadUptoRow.holds Try.pinned (OpenSpec.upto fnStoreBadSpec)

/-- 'laws.FnStoreFree', WHERE WHAT IT READS IS OF BULK AT MOST 1048576: true; the input reads as it did. -/
def fnStoreFreeUptoRow : OpenClaim := { program := "ytjdkccpcgmgmmaa", sum := "621d9a63dd111c5702a60ba7f6b0b2133626d0381f847876f0b9f92e33963cd4", func := "loop.example/garner/laws.FnStoreFree", spec := "fnStoreFree", unfollowed := true, recurses := true, apart := false, narrowed := true }
def FnStoreFreeUptoSaid : Prop := fnStoreFreeUptoRow.holds Try.pinned (OpenSpec.upto fnStoreFreeSpec)

/-- 'laws.FnExactStoreDrop', WHERE WHAT IT READS IS OF BULK AT MOST 1048576: true; the input reads as it did. -/
def fnExactStoreDropUptoRow : OpenClaim := { program := "ytjdkccpcgmgmmaa", sum := "621d9a63dd111c5702a60ba7f6b0b2133626d0381f847876f0b9f92e33963cd4", func := "loop.example/garner/laws.FnExactStoreDrop", spec := "fnExactStoreDrop", unfollowed := true, recurses := true, apart := false, narrowed := true }
def FnExactStoreDropUptoSaid : Prop := fnExactStoreDropUptoRow.holds Try.pinned (OpenSpec.upto fnExactStoreDropSpec)

/-- 'laws.FnFindThere', WHERE WHAT IT READS IS OF BULK AT MOST 1048576: true; the input reads as it did. -/
def fnFindThereUptoRow : OpenClaim := { program := "ytjdkccpcgmgmmaa", sum := "621d9a63dd111c5702a60ba7f6b0b2133626d0381f847876f0b9f92e33963cd4", func := "loop.example/garner/laws.FnFindThere", spec := "fnFindThere", unfollowed := true, recurses := true, apart := false, narrowed := true }
def FnFindThereUptoSaid : Prop := fnFindThereUptoRow.holds Try.pinned (OpenSpec.upto fnFindThereSpec)

/-- 'laws.FnExactVolText', WHERE WHAT IT READS IS OF BULK AT MOST 1048576: true; the input reads as it did. -/
def fnExactVolTextUptoRow : OpenClaim := { program := "ytjdkccpcgmgmmaa", sum := "621d9a63dd111c5702a60ba7f6b0b2133626d0381f847876f0b9f92e33963cd4", func := "loop.example/garner/laws.FnExactVolText", spec := "fnExactVolText", unfollowed := true, recurses := true, apart := false, narrowed := true }
def FnExactVolTextUptoSaid : Prop := fnExactVolTextUptoRow.holds Try.pinned (OpenSpec.upto fnExactVolTextSpec)

/-- 'laws.FnDropAll', WHERE WHAT IT READS IS OF BULK AT MOST 1048576: true; the input reads as it did. -/
def fnDropAllUptoRow : OpenClaim := { program := "ytjdkccpcgmgmmaa", sum := "621d9a63dd111c5702a60ba7f6b0b2133626d0381f847876f0b9f92e33963cd4", func := "loop.example/garner/laws.FnDropAll", spec := "fnDropAll", unfollowed := true, recurses := true, apart := false, narrowed := true }
def FnDropAllUptoSaid : Prop := fnDropAllUptoRow.holds Try.pinned (OpenSpec.upto fnDropAllSpec)

/-- 'laws.FnDropUses', WHERE WHAT IT READS IS OF BULK AT MOST 1048576: true; the input reads as it did. -/
def fnDropUsesUptoRow : OpenClaim := { program := "ytjdkccpcgmgmmaa", sum := "621d9a63dd111c5702a60ba7f6b0b2133626d0381f847876f0b9f92e33963cd4", func := "loop.example/garner/laws.FnDropUses", spec := "fnDropUses", unfollowed := true, recurses := true, apart := false, narrowed := true }
def FnDropUsesUptoSaid : Prop := fnDropUsesUptoRow.holds Try.pinned (OpenSpec.upto fnDropUsesSpec)

/-- 'laws.FnExactStorePut', WHERE WHAT IT READS IS OF BULK AT MOST 1048576: true; the input reads as it did. -/
def fnExactStorePutUptoRow : OpenClaim := { program := "ytjdkccpcgmgmmaa", sum := "621d9a63dd111c5702a60ba7f6b0b2133626d0381f847876f0b9f92e33963cd4", func := "loop.example/garner/laws.FnExactStorePut", spec := "fnExactStorePut", unfollowed := true, recurses := true, apart := false, narrowed := true }
def FnExactStorePutUptoSaid : Prop := fnExactStorePutUptoRow.holds Try.pinned (OpenSpec.upto fnExactStorePutSpec)

/-- 'laws.FnFindSame', WHERE WHAT IT READS IS OF BULK AT MOST 1048576: true; the input reads as it did. -/
def fnFindSameUptoRow : OpenClaim := { program := "ytjdkccpcgmgmmaa", sum := "621d9a63dd111c5702a60ba7f6b0b2133626d0381f847876f0b9f92e33963cd4", func := "loop.example/garner/laws.FnFindSame", spec := "fnFindSame", unfollowed := true, recurses := true, apart := false, narrowed := true }
def FnFindSameUptoSaid : Prop := fnFindSameUptoRow.holds Try.pinned (OpenSpec.upto fnFindSameSpec)

/-- 'laws.FnPutFree', WHERE WHAT IT READS IS OF BULK AT MOST 1048576: true; the input reads as it did. -/
def fnPutFreeUptoRow : OpenClaim := { program := "ytjdkccpcgmgmmaa", sum := "621d9a63dd111c5702a60ba7f6b0b2133626d0381f847876f0b9f92e33963cd4", func := "loop.example/garner/laws.FnPutFree", spec := "fnPutFree", unfollowed := true, recurses := true, apart := false, narrowed := true }
def FnPutFreeUptoSaid : Prop := fnPutFreeUptoRow.holds Try.pinned (OpenSpec.upto fnPutFreeSpec)

/-- 'laws.FnPutDrop', WHERE WHAT IT READS IS OF BULK AT MOST 1048576: true; the input reads as it did. -/
def fnPutDropUptoRow : OpenClaim := { program := "ytjdkccpcgmgmmaa", sum := "621d9a63dd111c5702a60ba7f6b0b2133626d0381f847876f0b9f92e33963cd4", func := "loop.example/garner/laws.FnPutDrop", spec := "fnPutDrop", unfollowed := true, recurses := true, apart := false, narrowed := true }
def FnPutDropUptoSaid : Prop := fnPutDropUptoRow.holds Try.pinned (OpenSpec.upto fnPutDropSpec)

/-- 'laws.FnPutTwo', WHERE WHAT IT READS IS OF BULK AT MOST 1048576: true; the input reads as it did. -/
def fnPutTwoUptoRow : OpenClaim := { program := "ytjdkccpcgmgmmaa", sum := "621d9a63dd111c5702a60ba7f6b0b2133626d0381f847876f0b9f92e33963cd4", func := "loop.example/garner/laws.FnPutTwo", spec := "fnPutTwo", unfollowed := true, recurses := true, apart := false, narrowed := true }
def FnPutTwoUptoSaid : Prop := fnPutTwoUptoRow.holds Try.pinned (OpenSpec.upto fnPutTwoSpec)

/-- 'laws.FnPutUses', WHERE WHAT IT READS IS OF BULK AT MOST 1048576: true; the input reads as it did. -/
def fnPutUsesUptoRow : OpenClaim := { program := "ytjdkccpcgmgmmaa", sum := "621d9a63dd111c5702a60ba7f6b0b2133626d0381f847876f0b9f92e33963cd4", func := "loop.example/garner/laws.FnPutUses", spec := "fnPutUses", unfollowed := true, recurses := true, apart := false, narrowed := true }
def FnPutUsesUptoSaid : Prop := fnPutUsesUptoRow.holds Try.pinned (OpenSpec.upto fnPutUsesSpec)

end Rows
end Go.Proofs.Ytjdkccpcgmgmmaa
