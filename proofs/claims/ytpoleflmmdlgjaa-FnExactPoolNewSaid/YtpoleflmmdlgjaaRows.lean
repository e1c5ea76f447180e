/-
  No cell of these rows narrows 'for every input' (looked for: loops, veiled, ifaces, maps, wideKeys, modest, calm, conditions, laid).
  DERIVED. THE GIVEN ROWS OF THIS SEAT. 15 by the template 'for every input the law returns true; each argument reads behind the call as it read before'; 0 by the template 'total and deterministic' (their statements: YtpoleflmmdlgjaaTotals.lean).
  GIVEN WITH THE SEED: the statements are not yours to turn. If you find one false, say at which input.
  Laid BY PROGRAM, IN A SANDBOX (cutbox-rows.mjs): the forced cells as the released guide's own fill.sh prints them over the translation da668faded1a5ae9… (all of the seat's roots in one cut). By AI agents, Wed Nov 11 2026. No macro, syntax, notation, axiom, sorry.
-/
import Derived.Test.YtpoleflmmdlgjaaChecked
import GoSem.Claim
import GoSem.ClaimJoined
import GoSem.ClaimMapViews
import Derived.JoinedTies
import Derived.KernelRfl
namespace Go.Proofs.Ytpoleflmmdlgjaa
/- THE CELL 'sum', in the pinned program and in every row, IS THE sha256 OF THE DUMP (.gsa) THAT YtpoleflmmdlgjaaProg.lean LOADS. Nothing in Lean hashes anything: it is a label: what it is worth is what the hold of that sum in a sandbox is worth. -/
noncomputable def Try.pinned : Pinned := { name := "ytpoleflmmdlgjaa", sum := "da668faded1a5ae9e05429c90d4585eb9d8b93e974166f31ca1195e7aac581fa", checked := Try.checked }
namespace Rows
def none {H : Type} : Left H := { results := [], args := [] }

/-- 'laws.FnExactConstants': WHATEVER THE INPUT: true; the input reads as it did. -/
def fnExactConstantsSpec : ChangeSpec := { name := "fnExactConstants", fn := fun _ => fun
  | [] => { results := [.lit (.bool true)], args := [] }
  | _ => none }
def fnExactConstantsRow : OpenClaim := { program := "ytpoleflmmdlgjaa", sum := "da668faded1a5ae9e05429c90d4585eb9d8b93e974166f31ca1195e7aac581fa", func := "loop.example/garner/laws.FnExactConstants", spec := "fnExactConstants", apart := false }
def FnExactConstantsSaid : Prop := fnExactConstantsRow.holds Try.pinned (OpenSpec.ofChange fnExactConstantsSpec)

/-- ITS FALSE NEIGHBOUR: 'it returns false'. Refute it at one input. -/
def fnExactConstantsWrong : ChangeSpec := { name := "fnExactConstants", fn := fun _ => fun
  | [] => { results := [.lit (.bool false)], args := [] }
  | _ => none }
def FnExactConstantsWrongFalsely : Prop := fnExactConstantsRow.holds Try.pinned (OpenSpec.ofChange fnExactConstantsWrong)

/-- 'laws.FnExactTextOk': WHATEVER THE INPUT: true; the input reads as it did. -/
def fnExactTextOkSpec : ChangeSpec := { name := "fnExactTextOk", fn := fun _ => fun
  | [d] => { results := [.lit (.bool true)], args := [d] }
  | _ => none }
def fnExactTextOkRow : OpenClaim := { program := "ytpoleflmmdlgjaa", sum := "da668faded1a5ae9e05429c90d4585eb9d8b93e974166f31ca1195e7aac581fa", func := "loop.example/garner/laws.FnExactTextOk", spec := "fnExactTextOk", apart := false }
def FnExactTextOkSaid : Prop := fnExactTextOkRow.holds Try.pinned (OpenSpec.ofChange fnExactTextOkSpec)

/-- ITS FALSE NEIGHBOUR: 'it returns false'. Refute it at one input. -/
def fnExactTextOkWrong : ChangeSpec := { name := "fnExactTextOk", fn := fun _ => fun
  | [d] => { results := [.lit (.bool false)], args := [d] }
  | _ => none }
def FnExactTextOkWrongFalsely : Prop := fnExactTextOkRow.holds Try.pinned (OpenSpec.ofChange fnExactTextOkWrong)

/-- 'laws.FnExactTextNext': WHATEVER THE INPUT: true; the input reads as it did. -/
def fnExactTextNextSpec : ChangeSpec := { name := "fnExactTextNext", fn := fun _ => fun
  | [d] => { results := [.lit (.bool true)], args := [d] }
  | _ => none }
def fnExactTextNextRow : OpenClaim := { program := "ytpoleflmmdlgjaa", sum := "da668faded1a5ae9e05429c90d4585eb9d8b93e974166f31ca1195e7aac581fa", func := "loop.example/garner/laws.FnExactTextNext", spec := "fnExactTextNext", apart := false }
def FnExactTextNextSaid : Prop := fnExactTextNextRow.holds Try.pinned (OpenSpec.ofChange fnExactTextNextSpec)

/-- ITS FALSE NEIGHBOUR: 'it returns false'. Refute it at one input. -/
def fnExactTextNextWrong : ChangeSpec := { name := "fnExactTextNext", fn := fun _ => fun
  | [d] => { results := [.lit (.bool false)], args := [d] }
  | _ => none }
def FnExactTextNextWrongFalsely : Prop := fnExactTextNextRow.holds Try.pinned (OpenSpec.ofChange fnExactTextNextWrong)

/-- 'laws.FnNextRound': WHATEVER THE INPUT: true; the input reads as it did. -/
def fnNextRoundSpec : ChangeSpec := { name := "fnNextRound", fn := fun _ => fun
  | [d] => { results := [.lit (.bool true)], args := [d] }
  | _ => none }
def fnNextRoundRow : OpenClaim := { program := "ytpoleflmmdlgjaa", sum := "da668faded1a5ae9e05429c90d4585eb9d8b93e974166f31ca1195e7aac581fa", func := "loop.example/garner/laws.FnNextRound", spec := "fnNextRound", apart := false }
def FnNextRoundSaid : Prop := fnNextRoundRow.holds Try.pinned (OpenSpec.ofChange fnNextRoundSpec)

/-- ITS FALSE NEIGHBOUR: 'it returns false'. Refute it at one input. -/
def fnNextRoundWrong : ChangeSpec := { name := "fnNextRound", fn := fun _ => fun
  | [d] => { results := [.lit (.bool false)], args := [d] }
  | _ => none }
def FnNextRoundWrongFalsely : Prop := fnNextRoundRow.holds Try.pinned (OpenSpec.ofChange fnNextRoundWrong)

/-- 'laws.FnExactTextPlace': WHATEVER THE INPUT: true; the input reads as it did. -/
def fnExactTextPlaceSpec : ChangeSpec := { name := "fnExactTextPlace", fn := fun _ => fun
  | [d] => { results := [.lit (.bool true)], args := [d] }
  | _ => none }
def fnExactTextPlaceRow : OpenClaim := { program := "ytpoleflmmdlgjaa", sum := "da668faded1a5ae9e05429c90d4585eb9d8b93e974166f31ca1195e7aac581fa", func := "loop.example/garner/laws.FnExactTextPlace", spec := "fnExactTextPlace", apart := false }
def FnExactTextPlaceSaid : Prop := fnExactTextPlaceRow.holds Try.pinned (OpenSpec.ofChange fnExactTextPlaceSpec)

/-- ITS FALSE NEIGHBOUR: 'it returns false'. Refute it at one input. -/
def fnExactTextPlaceWrong : ChangeSpec := { name := "fnExactTextPlace", fn := fun _ => fun
  | [d] => { results := [.lit (.bool false)], args := [d] }
  | _ => none }
def FnExactTextPlaceWrongFalsely : Prop := fnExactTextPlaceRow.holds Try.pinned (OpenSpec.ofChange fnExactTextPlaceWrong)

/-- 'laws.FnExactStoreNew': WHATEVER THE INPUT: true; the input reads as it did. -/
def fnExactStoreNewSpec : ChangeSpec := { name := "fnExactStoreNew", fn := fun _ => fun
  | [] => { results := [.lit (.bool true)], args := [] }
  | _ => none }
def fnExactStoreNewRow : OpenClaim := { program := "ytpoleflmmdlgjaa", sum := "da668faded1a5ae9e05429c90d4585eb9d8b93e974166f31ca1195e7aac581fa", func := "loop.example/garner/laws.FnExactStoreNew", spec := "fnExactStoreNew", apart := false }
def FnExactStoreNewSaid : Prop := fnExactStoreNewRow.holds Try.pinned (OpenSpec.ofChange fnExactStoreNewSpec)

/-- ITS FALSE NEIGHBOUR: 'it returns false'. Refute it at one input. -/
def fnExactStoreNewWrong : ChangeSpec := { name := "fnExactStoreNew", fn := fun _ => fun
  | [] => { results := [.lit (.bool false)], args := [] }
  | _ => none }
def FnExactStoreNewWrongFalsely : Prop := fnExactStoreNewRow.holds Try.pinned (OpenSpec.ofChange fnExactStoreNewWrong)

/-- 'laws.FnTextCut': WHATEVER THE INPUT: true; the input reads as it did. -/
def fnTextCutSpec : ChangeSpec := { name := "fnTextCut", fn := fun _ => fun
  | [d1, d2] => { results := [.lit (.bool true)], args := [d1, d2] }
  | _ => none }
def fnTextCutRow : OpenClaim := { program := "ytpoleflmmdlgjaa", sum := "da668faded1a5ae9e05429c90d4585eb9d8b93e974166f31ca1195e7aac581fa", func := "loop.example/garner/laws.FnTextCut", spec := "fnTextCut", apart := false }
def FnTextCutSaid : Prop := fnTextCutRow.holds Try.pinned (OpenSpec.ofChange fnTextCutSpec)

/-- ITS FALSE NEIGHBOUR: 'it returns false'. Refute it at one input. -/
def fnTextCutWrong : ChangeSpec := { name := "fnTextCut", fn := fun _ => fun
  | [d1, d2] => { results := [.lit (.bool false)], args := [d1, d2] }
  | _ => none }
def FnTextCutWrongFalsely : Prop := fnTextCutRow.holds Try.pinned (OpenSpec.ofChange fnTextCutWrong)

/-- 'laws.FnExactVolOk': WHATEVER THE INPUT: true; the input reads as it did. -/
def fnExactVolOkSpec : ChangeSpec := { name := "fnExactVolOk", fn := fun _ => fun
  | [d] => { results := [.lit (.bool true)], args := [d] }
  | _ => none }
def fnExactVolOkRow : OpenClaim := { program := "ytpoleflmmdlgjaa", sum := "da668faded1a5ae9e05429c90d4585eb9d8b93e974166f31ca1195e7aac581fa", func := "loop.example/garner/laws.FnExactVolOk", spec := "fnExactVolOk", apart := false }
def FnExactVolOkSaid : Prop := fnExactVolOkRow.holds Try.pinned (OpenSpec.ofChange fnExactVolOkSpec)

/-- ITS FALSE NEIGHBOUR: 'it returns false'. Refute it at one input. -/
def fnExactVolOkWrong : ChangeSpec := { name := "fnExactVolOk", fn := fun _ => fun
  | [d] => { results := [.lit (.bool false)], args := [d] }
  | _ => none }
def FnExactVolOkWrongFalsely : Prop := fnExactVolOkRow.holds Try.pinned (OpenSpec.ofChange fnExactVolOkWrong)

/-- 'laws.FnExactOpOk': WHATEVER THE INPUT: true; the input reads as it did. -/
def fnExactOpOkSpec : ChangeSpec := { name := "fnExactOpOk", fn := fun _ => fun
  | [d] => { results := [.lit (.bool true)], args := [d] }
  | _ => none }
def fnExactOpOkRow : OpenClaim := { program := "ytpoleflmmdlgjaa", sum := "da668faded1a5ae9e05429c90d4585eb9d8b93e974166f31ca1195e7aac581fa", func := "loop.example/garner/laws.FnExactOpOk", spec := "fnExactOpOk", apart := false }
def FnExactOpOkSaid : Prop := fnExactOpOkRow.holds Try.pinned (OpenSpec.ofChange fnExactOpOkSpec)

/-- ITS FALSE NEIGHBOUR: 'it returns false'. Refute it at one input. -/
def fnExactOpOkWrong : ChangeSpec := { name := "fnExactOpOk", fn := fun _ => fun
  | [d] => { results := [.lit (.bool false)], args := [d] }
  | _ => none }
def FnExactOpOkWrongFalsely : Prop := fnExactOpOkRow.holds Try.pinned (OpenSpec.ofChange fnExactOpOkWrong)

/-- 'laws.FnPlaceOf': WHATEVER THE INPUT: true; the input reads as it did. -/
def fnPlaceOfSpec : ChangeSpec := { name := "fnPlaceOf", fn := fun _ => fun
  | [d1, d2] => { results := [.lit (.bool true)], args := [d1, d2] }
  | _ => none }
def fnPlaceOfRow : OpenClaim := { program := "ytpoleflmmdlgjaa", sum := "da668faded1a5ae9e05429c90d4585eb9d8b93e974166f31ca1195e7aac581fa", func := "loop.example/garner/laws.FnPlaceOf", spec := "fnPlaceOf", apart := false }
def FnPlaceOfSaid : Prop := fnPlaceOfRow.holds Try.pinned (OpenSpec.ofChange fnPlaceOfSpec)

/-- ITS FALSE NEIGHBOUR: 'it returns false'. Refute it at one input. -/
def fnPlaceOfWrong : ChangeSpec := { name := "fnPlaceOf", fn := fun _ => fun
  | [d1, d2] => { results := [.lit (.bool false)], args := [d1, d2] }
  | _ => none }
def FnPlaceOfWrongFalsely : Prop := fnPlaceOfRow.holds Try.pinned (OpenSpec.ofChange fnPlaceOfWrong)

/-- 'laws.FnExactVolUses': WHATEVER THE INPUT: true; the input reads as it did. -/
def fnExactVolUsesSpec : ChangeSpec := { name := "fnExactVolUses", fn := fun _ => fun
  | [d1, d2] => { results := [.lit (.bool true)], args := [d1, d2] }
  | _ => none }
def fnExactVolUsesRow : OpenClaim := { program := "ytpoleflmmdlgjaa", sum := "da668faded1a5ae9e05429c90d4585eb9d8b93e974166f31ca1195e7aac581fa", func := "loop.example/garner/laws.FnExactVolUses", spec := "fnExactVolUses", apart := false }
def FnExactVolUsesSaid : Prop := fnExactVolUsesRow.holds Try.pinned (OpenSpec.ofChange fnExactVolUsesSpec)

/-- ITS FALSE NEIGHBOUR: 'it returns false'. Refute it at one input. -/
def fnExactVolUsesWrong : ChangeSpec := { name := "fnExactVolUses", fn := fun _ => fun
  | [d1, d2] => { results := [.lit (.bool false)], args := [d1, d2] }
  | _ => none }
def FnExactVolUsesWrongFalsely : Prop := fnExactVolUsesRow.holds Try.pinned (OpenSpec.ofChange fnExactVolUsesWrong)

/-- 'laws.FnOpForm': WHATEVER THE INPUT: true; the input reads as it did. -/
def fnOpFormSpec : ChangeSpec := { name := "fnOpForm", fn := fun _ => fun
  | [d] => { results := [.lit (.bool true)], args := [d] }
  | _ => none }
def fnOpFormRow : OpenClaim := { program := "ytpoleflmmdlgjaa", sum := "da668faded1a5ae9e05429c90d4585eb9d8b93e974166f31ca1195e7aac581fa", func := "loop.example/garner/laws.FnOpForm", spec := "fnOpForm", apart := false }
def FnOpFormSaid : Prop := fnOpFormRow.holds Try.pinned (OpenSpec.ofChange fnOpFormSpec)

/-- ITS FALSE NEIGHBOUR: 'it returns false'. Refute it at one input. -/
def fnOpFormWrong : ChangeSpec := { name := "fnOpForm", fn := fun _ => fun
  | [d] => { results := [.lit (.bool false)], args := [d] }
  | _ => none }
def FnOpFormWrongFalsely : Prop := fnOpFormRow.holds Try.pinned (OpenSpec.ofChange fnOpFormWrong)

/-- 'laws.FnExactNodeNew': WHATEVER THE INPUT: true; the input reads as it did. -/
def fnExactNodeNewSpec : ChangeSpec := { name := "fnExactNodeNew", fn := fun _ => fun
  | [d] => { results := [.lit (.bool true)], args := [d] }
  | _ => none }
def fnExactNodeNewRow : OpenClaim := { program := "ytpoleflmmdlgjaa", sum := "da668faded1a5ae9e05429c90d4585eb9d8b93e974166f31ca1195e7aac581fa", func := "loop.example/garner/laws.FnExactNodeNew", spec := "fnExactNodeNew", apart := false }
def FnExactNodeNewSaid : Prop := fnExactNodeNewRow.holds Try.pinned (OpenSpec.ofChange fnExactNodeNewSpec)

/-- ITS FALSE NEIGHBOUR: 'it returns false'. Refute it at one input. -/
def fnExactNodeNewWrong : ChangeSpec := { name := "fnExactNodeNew", fn := fun _ => fun
  | [d] => { results := [.lit (.bool false)], args := [d] }
  | _ => none }
def FnExactNodeNewWrongFalsely : Prop := fnExactNodeNewRow.holds Try.pinned (OpenSpec.ofChange fnExactNodeNewWrong)

/-- 'laws.FnExactPoolNew': WHATEVER THE INPUT: true; the input reads as it did. -/
def fnExactPoolNewSpec : ChangeSpec := { name := "fnExactPoolNew", fn := fun _ => fun
  | [] => { results := [.lit (.bool true)], args := [] }
  | _ => none }
def fnExactPoolNewRow : OpenClaim := { program := "ytpoleflmmdlgjaa", sum := "da668faded1a5ae9e05429c90d4585eb9d8b93e974166f31ca1195e7aac581fa", func := "loop.example/garner/laws.FnExactPoolNew", spec := "fnExactPoolNew", apart := false }
def FnExactPoolNewSaid : Prop := fnExactPoolNewRow.holds Try.pinned (OpenSpec.ofChange fnExactPoolNewSpec)

/-- ITS FALSE NEIGHBOUR: 'it returns false'. Refute it at one input. -/
def fnExactPoolNewWrong : ChangeSpec := { name := "fnExactPoolNew", fn := fun _ => fun
  | [] => { results := [.lit (.bool false)], args := [] }
  | _ => none }
def FnExactPoolNewWrongFalsely : Prop := fnExactPoolNewRow.holds Try.pinned (OpenSpec.ofChange fnExactPoolNewWrong)

/-- 'laws.FnExactLogNew': WHATEVER THE INPUT: true; the input reads as it did. -/
def fnExactLogNewSpec : ChangeSpec := { name := "fnExactLogNew", fn := fun _ => fun
  | [] => { results := [.lit (.bool true)], args := [] }
  | _ => none }
def fnExactLogNewRow : OpenClaim := { program := "ytpoleflmmdlgjaa", sum := "da668faded1a5ae9e05429c90d4585eb9d8b93e974166f31ca1195e7aac581fa", func := "loop.example/garner/laws.FnExactLogNew", spec := "fnExactLogNew", apart := false }
def FnExactLogNewSaid : Prop := fnExactLogNewRow.holds Try.pinned (OpenSpec.ofChange fnExactLogNewSpec)

/-- ITS FALSE NEIGHBOUR: 'it returns false'. Refute it at one input. -/
def fnExactLogNewWrong : ChangeSpec := { name := "fnExactLogNew", fn := fun _ => fun
  | [] => { results := [.lit (.bool false)], args := [] }
  | _ => none }
def FnExactLogNewWrongFalsely : Prop := fnExactLogNewRow.holds Try.pinned (OpenSpec.ofChange fnExactLogNewWrong)

/- THE SECOND FORM. 'bulk': how many values and letters a reading holds, each counted each time it is reached (what is shared counts as often as it is met; a slice's spare places count too). A statement '..UptoSaid' is the law's where the arguments, and the package variables that the reading takes, are together of bulk at most 1048576: NARROWER than '..Said'. Prove '..Said' where nothing that the law and all that it calls make is longer than what came in: it says more and counts as full. Else prove '..UptoSaid'. A law counts once. -/
mutual
def uptoBulk {H : Type} : DataW H → Nat
  | .lit (.string bytes) => bytes.length + 1
  | .lit _ => 1
  | .nil => 1
  | .ptr d => uptoBulk d + 1
  | .slice elems spare => uptoBulkAll elems + uptoBulkAll spare + 1
  | .agg parts => uptoBulkAll parts + 1
  | .iface _ d => uptoBulk d + 1
  | .map entries => uptoBulkEntries entries + 1
  | .held _ => 1
def uptoBulkAll {H : Type} : List (DataW H) → Nat
  | [] => 0
  | d :: r => uptoBulk d + uptoBulkAll r
def uptoBulkEntries {H : Type} : List (Lit × DataW H) → Nat
  | [] => 0
  | x :: r => uptoBulkEntry x + uptoBulkEntries r
def uptoBulkEntry {H : Type} : Lit × DataW H → Nat
  | (.string bytes, d) => bytes.length + uptoBulk d + 1
  | (_, d) => uptoBulk d + 1
 end
def uptoSmall : (H : Type) → List (DataW H) → Bool := fun _ ds => decide (uptoBulkAll ds ≤ 1048576)
def OpenSpec.upto (s : _root_.Go.ChangeSpec) : _root_.Go.OpenSpec := { _root_.Go.OpenSpec.ofChange s with cond := some uptoSmall }

/-- 'laws.FnExactConstants', WHERE WHAT IT READS IS OF BULK AT MOST 1048576: true; the input reads as it did. -/
def fnExactConstantsUptoRow : OpenClaim := { program := "ytpoleflmmdlgjaa", sum := "da668faded1a5ae9e05429c90d4585eb9d8b93e974166f31ca1195e7aac581fa", func := "loop.example/garner/laws.FnExactConstants", spec := "fnExactConstants", apart := false, narrowed := true }
def FnExactConstantsUptoSaid : Prop := fnExactConstantsUptoRow.holds Try.pinned (OpenSpec.upto fnExactConstantsSpec)

/-- 'laws.FnExactTextOk', WHERE WHAT IT READS IS OF BULK AT MOST 1048576: true; the input reads as it did. -/
def fnExactTextOkUptoRow : OpenClaim := { program := "ytpoleflmmdlgjaa", sum := "da668faded1a5ae9e05429c90d4585eb9d8b93e974166f31ca1195e7aac581fa", func := "loop.example/garner/laws.FnExactTextOk", spec := "fnExactTextOk", apart := false, narrowed := true }
def FnExactTextOkUptoSaid : Prop := fnExactTextOkUptoRow.holds Try.pinned (OpenSpec.upto fnExactTextOkSpec)

/-- 'laws.FnExactTextNext', WHERE WHAT IT READS IS OF BULK AT MOST 1048576: true; the input reads as it did. -/
def fnExactTextNextUptoRow : OpenClaim := { program := "ytpoleflmmdlgjaa", sum := "da668faded1a5ae9e05429c90d4585eb9d8b93e974166f31ca1195e7aac581fa", func := "loop.example/garner/laws.FnExactTextNext", spec := "fnExactTextNext", apart := false, narrowed := true }
def FnExactTextNextUptoSaid : Prop := fnExactTextNextUptoRow.holds Try.pinned (OpenSpec.upto fnExactTextNextSpec)

/-- 'laws.FnNextRound', WHERE WHAT IT READS IS OF BULK AT MOST 1048576: true; the input reads as it did. -/
def fnNextRoundUptoRow : OpenClaim := { program := "ytpoleflmmdlgjaa", sum := "da668faded1a5ae9e05429c90d4585eb9d8b93e974166f31ca1195e7aac581fa", func := "loop.example/garner/laws.FnNextRound", spec := "fnNextRound", apart := false, narrowed := true }
def FnNextRoundUptoSaid : Prop := fnNextRoundUptoRow.holds Try.pinned (OpenSpec.upto fnNextRoundSpec)

/-- 'laws.FnExactTextPlace', WHERE WHAT IT READS IS OF BULK AT MOST 1048576: true; the input reads as it did. -/
def fnExactTextPlaceUptoRow : OpenClaim := { program := "ytpoleflmmdlgjaa", sum := "da668faded1a5ae9e05429c90d4585eb9d8b93e974166f31ca1195e7aac581fa", func := "loop.example/garner/laws.FnExactTextPlace", spec := "fnExactTextPlace", apart := false, narrowed := true }
def FnExactTextPlaceUptoSaid : Prop := fnExactTextPlaceUptoRow.holds Try.pinned (OpenSpec.upto fnExactTextPlaceSpec)

/-- 'laws.FnExactStoreNew', WHERE WHAT IT READS IS OF BULK AT MOST 1048576: true; the input reads as it did. -/
def fnExactStoreNewUptoRow : OpenClaim := { program := "ytpoleflmmdlgjaa", sum := "da668faded1a5ae9e05429c90d4585eb9d8b93e974166f31ca1195e7aac581fa", func := "loop.example/garner/laws.FnExactStoreNew", spec := "fnExactStoreNew", apart := false, narrowed := true }
def FnExactStoreNewUptoSaid : Prop := fnExactStoreNewUptoRow.holds Try.pinned (OpenSpec.upto fnExactStoreNewSpec)

/-- 'laws.FnTextCut', WHERE WHAT IT READS IS OF BULK AT MOST 1048576: true; the input reads as it did. -/
def fnTextCutUptoRow : OpenClaim := { program := "ytpoleflmmdlgjaa", sum := "da668faded1a5ae9e05429c90d4585eb9d8b93e974166f31ca1195e7aac581fa", func := "loop.example/garner/laws.FnTextCut", spec := "fnTextCut", apart := false, narrowed := true }
def FnTextCutUptoSaid : Prop := fnTextCutUptoRow.holds Try.pinned (OpenSpec.upto fnTextCutSpec)

/-- 'laws.FnExactVolOk', WHERE WHAT IT READS IS OF BULK AT MOST 1048576: true; the input reads as it did. -/
def fnExactVolOkUptoRow : OpenClaim := { program := "ytpoleflmmdlgjaa", sum := "da668faded1a5ae9e05429c90d4585eb9d8b93e974166f31ca1195e7aac581fa", func := "loop.example/garner/laws.FnExactVolOk", spec := "fnExactVolOk", apart := false, narrowed := true }
def FnExactVolOkUptoSaid : Prop := fnExactVolOkUptoRow.holds Try.pinned (OpenSpec.upto fnExactVolOkSpec)

/-- 'laws.FnExactOpOk', WHERE WHAT IT READS IS OF BULK AT MOST 1048576: true; the input reads as it did. -/
def fnExactOpOkUptoRow : OpenClaim := { program := "ytpoleflmmdlgjaa", sum := "da668faded1a5ae9e05429c90d4585eb9d8b93e974166f31ca1195e7aac581fa", func := "loop.example/garner/laws.FnExactOpOk", spec := "fnExactOpOk", apart := false, narrowed := true }
def FnExactOpOkUptoSaid : Prop := fnExactOpOkUptoRow.holds Try.pinned (OpenSpec.upto fnExactOpOkSpec)

/-- 'laws.FnPlaceOf', WHERE WHAT IT READS IS OF BULK AT MOST 1048576: true; the input reads as it did. -/
def fnPlaceOfUptoRow : OpenClaim := { program := "ytpoleflmmdlgjaa", sum := "da668faded1a5ae9e05429c90d4585eb9d8b93e974166f31ca1195e7aac581fa", func := "loop.example/garner/laws.FnPlaceOf", spec := "fnPlaceOf", apart := false, narrowed := true }
def FnPlaceOfUptoSaid : Prop := fnPlaceOfUptoRow.holds Try.pinned (OpenSpec.upto fnPlaceOfSpec)

/-- 'laws.FnExactVolUses', WHERE WHAT IT READS IS OF BULK AT MOST 1048576: true; the input reads as it did. -/
def fnExactVolUsesUptoRow : OpenClaim := { program := "ytpoleflmmdlgjaa", sum := "da668faded1a5ae9e05429c90d4585eb9d8b93e974166f31ca1195e7aac581fa", func := "loop.example/garner/laws.FnExactVolUses", spec := "fnExactVolUses", apart := false, narrowed := true }
def FnExactVolUsesUptoSaid : Prop := fnExactVolUsesUptoRow.holds Try.pinned (OpenSpec.upto fnExactVolUsesSpec)

/-- 'laws.FnOpForm', WHERE WHAT IT READS IS OF BULK AT MOST 1048576: true; the input reads as it did. -/
def fnOpFormUptoRow : OpenClaim := { program := "ytpoleflmmdlgjaa", sum := "da668faded1a5ae9e05429c90d4585eb9d8b93e974166f31ca1195e7aac581fa", func := "loop.example/garner/laws.FnOpForm", spec := "fnOpForm", apart := false, narrowed := true }
def FnOpFormUptoSaid : Prop := fnOpFormUptoRow.holds Try.pinned (OpenSpec.upto fnOpFormSpec)

/-- 'laws.FnExactNodeNew', WHERE WHAT IT READS IS OF BULK AT MOST 1048576: true; the input reads as it did. -/
def fnExactNodeNewUptoRow : OpenClaim := { program := "ytpoleflmmdlgjaa", sum := "da668faded1a5ae9e05429c90d4585eb9d8b93e974166f31ca1195e7aac581fa", func := "loop.example/garner/laws.FnExactNodeNew", spec := "fnExactNodeNew", apart := false, narrowed := true }
def FnExactNodeNewUptoSaid : Prop := fnExactNodeNewUptoRow.holds Try.pinned (OpenSpec.upto fnExactNodeNewSpec)

/-- 'laws.FnExactPoolNew', WHERE WHAT IT READS IS OF BULK AT MOST 1048576: true; the input reads as it did. -/
def fnExactPoolNewUptoRow : OpenClaim := { program := "ytpoleflmmdlgjaa", sum := "da668faded1a5ae9e05429c90d4585eb9d8b93e974166f31ca1195e7aac581fa", func := "loop.example/garner/laws.FnExactPoolNew", spec := "fnExactPoolNew", apart := false, narrowed := true }
def FnExactPoolNewUptoSaid : Prop := fnExactPoolNewUptoRow.holds Try.pinned (OpenSpec.upto fnExactPoolNewSpec)

/-- 'laws.FnExactLogNew', WHERE WHAT IT READS IS OF BULK AT MOST 1048576: true; the input reads as it did. -/
def fnExactLogNewUptoRow : OpenClaim := { program := "ytpoleflmmdlgjaa", sum := "da668faded1a5ae9e05429c90d4585eb9d8b93e974166f31ca1195e7aac581fa", func := "loop.example/garner/laws.FnExactLogNew", spec := "fnExactLogNew", apart := false, narrowed := true }
def FnExactLogNewUptoSaid : Prop := fnExactLogNewUptoRow.holds Try.pinned (OpenSpec.upto fnExactLogNewSpec)

end Rows
end Go.Proofs.Ytpoleflmmdlgjaa
