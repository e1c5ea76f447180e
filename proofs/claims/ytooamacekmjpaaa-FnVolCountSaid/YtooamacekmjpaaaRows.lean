/-
  No cell of these rows narrows 'for every input' (looked for: loops, veiled, ifaces, maps, wideKeys, modest, calm, conditions, laid).
  DERIVED. THE GIVEN ROWS OF THIS SEAT. 11 by the template 'for every input the law returns true; each argument reads behind the call as it read before'; 0 by the template 'total and deterministic' (their statements: YtooamacekmjpaaaTotals.lean).
  GIVEN WITH THE SEED: the statements are not yours to turn. If you find one false, say at which input.
  Laid BY PROGRAM, IN A SANDBOX (cutbox-rows.mjs): the forced cells as the released guide's own fill.sh prints them over the translation 9b921c23a0188d67… (all of the seat's roots in one cut). By AI agents, Wed Nov 11 2026. No macro, syntax, notation, axiom, sorry.
-/
import Derived.Test.YtooamacekmjpaaaChecked
import GoSem.Claim
import GoSem.ClaimJoined
import GoSem.ClaimMapViews
import Derived.JoinedTies
import Derived.KernelRfl
namespace Go.Proofs.Ytooamacekmjpaaa
/- THE CELL 'sum', in the pinned program and in every row, IS THE sha256 OF THE DUMP (.gsa) THAT YtooamacekmjpaaaProg.lean LOADS. Nothing in Lean hashes anything: it is a label: what it is worth is what the hold of that sum in a sandbox is worth. -/
noncomputable def Try.pinned : Pinned := { name := "ytooamacekmjpaaa", sum := "9b921c23a0188d671a1b5b95e2ac9a8e89481248ab4c03d55fbe7e72787b0c62", checked := Try.checked }
namespace Rows
def none {H : Type} : Left H := { results := [], args := [] }

/-- 'laws.FnExactPoolOk': WHATEVER THE INPUT: true; the input reads as it did. -/
def fnExactPoolOkSpec : ChangeSpec := { name := "fnExactPoolOk", fn := fun _ => fun
  | [d] => { results := [.lit (.bool true)], args := [d] }
  | _ => none }
def fnExactPoolOkRow : OpenClaim := { program := "ytooamacekmjpaaa", sum := "9b921c23a0188d671a1b5b95e2ac9a8e89481248ab4c03d55fbe7e72787b0c62", func := "loop.example/garner/laws.FnExactPoolOk", spec := "fnExactPoolOk", unfollowed := true, recurses := true, apart := false }
def FnExactPoolOkSaid : Prop := fnExactPoolOkRow.holds Try.pinned (OpenSpec.ofChange fnExactPoolOkSpec)

/-- ITS FALSE NEIGHBOUR: 'it returns false'. Refute it at one input. -/
def fnExactPoolOkWrong : ChangeSpec := { name := "fnExactPoolOk", fn := fun _ => fun
  | [d] => { results := [.lit (.bool false)], args := [d] }
  | _ => none }
def FnExactPoolOkWrongFalsely : Prop := fnExactPoolOkRow.holds Try.pinned (OpenSpec.ofChange fnExactPoolOkWrong)

/-- 'laws.FnVolForm': WHATEVER THE INPUT: true; the input reads as it did. -/
def fnVolFormSpec : ChangeSpec := { name := "fnVolForm", fn := fun _ => fun
  | [d1, d2] => { results := [.lit (.bool true)], args := [d1, d2] }
  | _ => none }
def fnVolFormRow : OpenClaim := { program := "ytooamacekmjpaaa", sum := "9b921c23a0188d671a1b5b95e2ac9a8e89481248ab4c03d55fbe7e72787b0c62", func := "loop.example/garner/laws.FnVolForm", spec := "fnVolForm", apart := false }
def FnVolFormSaid : Prop := fnVolFormRow.holds Try.pinned (OpenSpec.ofChange fnVolFormSpec)

/-- ITS FALSE NEIGHBOUR: 'it returns false'. Refute it at one input. -/
def fnVolFormWrong : ChangeSpec := { name := "fnVolForm", fn := fun _ => fun
  | [d1, d2] => { results := [.lit (.bool false)], args := [d1, d2] }
  | _ => none }
def FnVolFormWrongFalsely : Prop := fnVolFormRow.holds Try.pinned (OpenSpec.ofChange fnVolFormWrong)

/-- 'laws.FnExactPoolRead': WHATEVER THE INPUT: true; the input reads as it did. -/
def fnExactPoolReadSpec : ChangeSpec := { name := "fnExactPoolRead", fn := fun _ => fun
  | [d1, d2, d3] => { results := [.lit (.bool true)], args := [d1, d2, d3] }
  | _ => none }
def fnExactPoolReadRow : OpenClaim := { program := "ytooamacekmjpaaa", sum := "9b921c23a0188d671a1b5b95e2ac9a8e89481248ab4c03d55fbe7e72787b0c62", func := "loop.example/garner/laws.FnExactPoolRead", spec := "fnExactPoolRead", unfollowed := true, recurses := true, apart := false }
def FnExactPoolReadSaid : Prop := fnExactPoolReadRow.holds Try.pinned (OpenSpec.ofChange fnExactPoolReadSpec)

/-- ITS FALSE NEIGHBOUR: 'it returns false'. Refute it at one input. -/
def fnExactPoolReadWrong : ChangeSpec := { name := "fnExactPoolRead", fn := fun _ => fun
  | [d1, d2, d3] => { results := [.lit (.bool false)], args := [d1, d2, d3] }
  | _ => none }
def FnExactPoolReadWrongFalsely : Prop := fnExactPoolReadRow.holds Try.pinned (OpenSpec.ofChange fnExactPoolReadWrong)

/-- 'laws.FnExactPoolText': WHATEVER THE INPUT: true; the input reads as it did. -/
def fnExactPoolTextSpec : ChangeSpec := { name := "fnExactPoolText", fn := fun _ => fun
  | [d] => { results := [.lit (.bool true)], args := [d] }
  | _ => none }
def fnExactPoolTextRow : OpenClaim := { program := "ytooamacekmjpaaa", sum := "9b921c23a0188d671a1b5b95e2ac9a8e89481248ab4c03d55fbe7e72787b0c62", func := "loop.example/garner/laws.FnExactPoolText", spec := "fnExactPoolText", unfollowed := true, recurses := true, apart := false }
def FnExactPoolTextSaid : Prop := fnExactPoolTextRow.holds Try.pinned (OpenSpec.ofChange fnExactPoolTextSpec)

/-- ITS FALSE NEIGHBOUR: 'it returns false'. Refute it at one input. -/
def fnExactPoolTextWrong : ChangeSpec := { name := "fnExactPoolText", fn := fun _ => fun
  | [d] => { results := [.lit (.bool false)], args := [d] }
  | _ => none }
def FnExactPoolTextWrongFalsely : Prop := fnExactPoolTextRow.holds Try.pinned (OpenSpec.ofChange fnExactPoolTextWrong)

/-- 'laws.FnVolCount': WHATEVER THE INPUT: true; the input reads as it did. -/
def fnVolCountSpec : ChangeSpec := { name := "fnVolCount", fn := fun _ => fun
  | [d1, d2] => { results := [.lit (.bool true)], args := [d1, d2] }
  | _ => none }
def fnVolCountRow : OpenClaim := { program := "ytooamacekmjpaaa", sum := "9b921c23a0188d671a1b5b95e2ac9a8e89481248ab4c03d55fbe7e72787b0c62", func := "loop.example/garner/laws.FnVolCount", spec := "fnVolCount", apart := false }
def FnVolCountSaid : Prop := fnVolCountRow.holds Try.pinned (OpenSpec.ofChange fnVolCountSpec)

/-- ITS FALSE NEIGHBOUR: 'it returns false'. Refute it at one input. -/
def fnVolCountWrong : ChangeSpec := { name := "fnVolCount", fn := fun _ => fun
  | [d1, d2] => { results := [.lit (.bool false)], args := [d1, d2] }
  | _ => none }
def FnVolCountWrongFalsely : Prop := fnVolCountRow.holds Try.pinned (OpenSpec.ofChange fnVolCountWrong)

/-- 'laws.FnVolUses': WHATEVER THE INPUT: true; the input reads as it did. -/
def fnVolUsesSpec : ChangeSpec := { name := "fnVolUses", fn := fun _ => fun
  | [d] => { results := [.lit (.bool true)], args := [d] }
  | _ => none }
def fnVolUsesRow : OpenClaim := { program := "ytooamacekmjpaaa", sum := "9b921c23a0188d671a1b5b95e2ac9a8e89481248ab4c03d55fbe7e72787b0c62", func := "loop.example/garner/laws.FnVolUses", spec := "fnVolUses", apart := false }
def FnVolUsesSaid : Prop := fnVolUsesRow.holds Try.pinned (OpenSpec.ofChange fnVolUsesSpec)

/-- ITS FALSE NEIGHBOUR: 'it returns false'. Refute it at one input. -/
def fnVolUsesWrong : ChangeSpec := { name := "fnVolUses", fn := fun _ => fun
  | [d] => { results := [.lit (.bool false)], args := [d] }
  | _ => none }
def FnVolUsesWrongFalsely : Prop := fnVolUsesRow.holds Try.pinned (OpenSpec.ofChange fnVolUsesWrong)

/-- 'laws.FnVolText': WHATEVER THE INPUT: true; the input reads as it did. -/
def fnVolTextSpec : ChangeSpec := { name := "fnVolText", fn := fun _ => fun
  | [d] => { results := [.lit (.bool true)], args := [d] }
  | _ => none }
def fnVolTextRow : OpenClaim := { program := "ytooamacekmjpaaa", sum := "9b921c23a0188d671a1b5b95e2ac9a8e89481248ab4c03d55fbe7e72787b0c62", func := "loop.example/garner/laws.FnVolText", spec := "fnVolText", unfollowed := true, recurses := true, apart := false }
def FnVolTextSaid : Prop := fnVolTextRow.holds Try.pinned (OpenSpec.ofChange fnVolTextSpec)

/-- ITS FALSE NEIGHBOUR: 'it returns false'. Refute it at one input. -/
def fnVolTextWrong : ChangeSpec := { name := "fnVolText", fn := fun _ => fun
  | [d] => { results := [.lit (.bool false)], args := [d] }
  | _ => none }
def FnVolTextWrongFalsely : Prop := fnVolTextRow.holds Try.pinned (OpenSpec.ofChange fnVolTextWrong)

/-- 'laws.FnPoolUses': WHATEVER THE INPUT: true; the input reads as it did. -/
def fnPoolUsesSpec : ChangeSpec := { name := "fnPoolUses", fn := fun _ => fun
  | [d1, d2] => { results := [.lit (.bool true)], args := [d1, d2] }
  | _ => none }
def fnPoolUsesRow : OpenClaim := { program := "ytooamacekmjpaaa", sum := "9b921c23a0188d671a1b5b95e2ac9a8e89481248ab4c03d55fbe7e72787b0c62", func := "loop.example/garner/laws.FnPoolUses", spec := "fnPoolUses", unfollowed := true, recurses := true, apart := false }
def FnPoolUsesSaid : Prop := fnPoolUsesRow.holds Try.pinned (OpenSpec.ofChange fnPoolUsesSpec)

/-- ITS FALSE NEIGHBOUR: 'it returns false'. Refute it at one input. -/
def fnPoolUsesWrong : ChangeSpec := { name := "fnPoolUses", fn := fun _ => fun
  | [d1, d2] => { results := [.lit (.bool false)], args := [d1, d2] }
  | _ => none }
def FnPoolUsesWrongFalsely : Prop := fnPoolUsesRow.holds Try.pinned (OpenSpec.ofChange fnPoolUsesWrong)

/-- 'laws.FnPoolText': WHATEVER THE INPUT: true; the input reads as it did. -/
def fnPoolTextSpec : ChangeSpec := { name := "fnPoolText", fn := fun _ => fun
  | [d] => { results := [.lit (.bool true)], args := [d] }
  | _ => none }
def fnPoolTextRow : OpenClaim := { program := "ytooamacekmjpaaa", sum := "9b921c23a0188d671a1b5b95e2ac9a8e89481248ab4c03d55fbe7e72787b0c62", func := "loop.example/garner/laws.FnPoolText", spec := "fnPoolText", unfollowed := true, recurses := true, apart := false }
def FnPoolTextSaid : Prop := fnPoolTextRow.holds Try.pinned (OpenSpec.ofChange fnPoolTextSpec)

/-- ITS FALSE NEIGHBOUR: 'it returns false'. Refute it at one input. -/
def fnPoolTextWrong : ChangeSpec := { name := "fnPoolText", fn := fun _ => fun
  | [d] => { results := [.lit (.bool false)], args := [d] }
  | _ => none }
def FnPoolTextWrongFalsely : Prop := fnPoolTextRow.holds Try.pinned (OpenSpec.ofChange fnPoolTextWrong)

/-- 'laws.FnPoolOnce': WHATEVER THE INPUT: true; the input reads as it did. -/
def fnPoolOnceSpec : ChangeSpec := { name := "fnPoolOnce", fn := fun _ => fun
  | [d] => { results := [.lit (.bool true)], args := [d] }
  | _ => none }
def fnPoolOnceRow : OpenClaim := { program := "ytooamacekmjpaaa", sum := "9b921c23a0188d671a1b5b95e2ac9a8e89481248ab4c03d55fbe7e72787b0c62", func := "loop.example/garner/laws.FnPoolOnce", spec := "fnPoolOnce", unfollowed := true, recurses := true, apart := false }
def FnPoolOnceSaid : Prop := fnPoolOnceRow.holds Try.pinned (OpenSpec.ofChange fnPoolOnceSpec)

/-- ITS FALSE NEIGHBOUR: 'it returns false'. Refute it at one input. -/
def fnPoolOnceWrong : ChangeSpec := { name := "fnPoolOnce", fn := fun _ => fun
  | [d] => { results := [.lit (.bool false)], args := [d] }
  | _ => none }
def FnPoolOnceWrongFalsely : Prop := fnPoolOnceRow.holds Try.pinned (OpenSpec.ofChange fnPoolOnceWrong)

/-- 'laws.FnReadOnly': WHATEVER THE INPUT: true; the input reads as it did. -/
def fnReadOnlySpec : ChangeSpec := { name := "fnReadOnly", fn := fun _ => fun
  | [d] => { results := [.lit (.bool true)], args := [d] }
  | _ => none }
def fnReadOnlyRow : OpenClaim := { program := "ytooamacekmjpaaa", sum := "9b921c23a0188d671a1b5b95e2ac9a8e89481248ab4c03d55fbe7e72787b0c62", func := "loop.example/garner/laws.FnReadOnly", spec := "fnReadOnly", unfollowed := true, recurses := true, apart := false }
def FnReadOnlySaid : Prop := fnReadOnlyRow.holds Try.pinned (OpenSpec.ofChange fnReadOnlySpec)

/-- ITS FALSE NEIGHBOUR: 'it returns false'. Refute it at one input. -/
def fnReadOnlyWrong : ChangeSpec := { name := "fnReadOnly", fn := fun _ => fun
  | [d] => { results := [.lit (.bool false)], args := [d] }
  | _ => none }
def FnReadOnlyWrongFalsely : Prop := fnReadOnlyRow.holds Try.pinned (OpenSpec.ofChange fnReadOnlyWrong)

/- THE SECOND FORM. 'bulk': how many values and letters a reading holds, each counted each time it is reached (what is shared counts as often as it is met; a slice's spare places count too). A statement '..UptoSaid' is the law's where the arguments, and the package variables that the reading takes, are together of bulk at most 1048576: NARROWER than '..Said'. Prove '..Said' where nothing that the law and all that it calls make is longer than what came in: it says more and counts as full. Else prove '..UptoSaid'. A law counts once. -/
mutual
def uptoBulk {H : Type} : DataW H → Nat
  | .lit (.string bytes) => bytes.length + 1
  | .lit _ => 1
  | .nil => 1
  | .ptr d => uptoBulk d + 1
  | .slice elems spare => uptoBulkAll elems + uptoBulkAll spare + 1
  | .agg parts => uptoBulkAll parts + 1
  | .iface _ d => uptoBulk d + 1
  | .map entries => uptoBulkEntries entries + 1
  | .held _ => 1
def uptoBulkAll {H : Type} : List (DataW H) → Nat
  | [] => 0
  | d :: r => uptoBulk d + uptoBulkAll r
def uptoBulkEntries {H : Type} : List (Lit × DataW H) → Nat
  | [] => 0
  | x :: r => uptoBulkEntry x + uptoBulkEntries r
def uptoBulkEntry {H : Type} : Lit × DataW H → Nat
  | (.string bytes, d) => bytes.length + uptoBulk d + 1
  | (_, d) => uptoBulk d + 1
 end
def uptoSmall : (H : Type) → List (DataW H) → Bool := fun _ ds => decide (uptoBulkAll ds ≤ 1048576)
def OpenSpec.upto (s : _root_.Go.ChangeSpec) : _root_.Go.OpenSpec := { _root_.Go.OpenSpec.ofChange s with cond := some uptoSmall }

/-- 'laws.FnExactPoolOk', WHERE WHAT IT READS IS OF BULK AT MOST 1048576: true; the input reads as it did. -/
def fnExactPoolOkUptoRow : OpenClaim := { program := "ytooamacekmjpaaa", sum := "9b921c23a0188d671a1b5b95e2ac9a8e89481248ab4c03d55fbe7e72787b0c62", func := "loop.example/garner/laws.FnExactPoolOk", spec := "fnExactPoolOk", unfollowed := true, recurses := true, apart := false, narrowed := true }
def FnExactPoolOkUptoSaid : Prop := fnExactPoolOkUptoRow.holds Try.pinned (OpenSpec.upto fnExactPoolOkSpec)

/-- 'laws.FnVolForm', WHERE WHAT IT READS IS OF BULK AT MOST 1048576: true; the input reads as it did. -/
def fnVolFormUptoRow : OpenClaim := { program := "ytooamacekmjpaaa", sum := "9b921c23a0188d671a1b5b95e2ac9a8e89481248ab4c03d55fbe7e72787b0c62", func := "loop.example/garner/laws.FnVolForm", spec := "fnVolForm", apart := false, narrowed := true }
def FnVolFormUptoSaid : Prop := fnVolFormUptoRow.holds Try.pinned (OpenSpec.upto fnVolFormSpec)

/-- 'laws.FnExactPoolRead', WHERE WHAT IT READS IS OF BULK AT MOST 1048576: true; the input reads as it did. -/
def fnExactPoolReadUptoRow : OpenClaim := { program := "ytooamacekmjpaaa", sum := "9b921c23a0188d671a1b5b95e2ac9a8e89481248ab4c03d55fbe7e72787b0c62", func := "loop.example/garner/laws.FnExactPoolRead", spec := "fnExactPoolRead", unfollowed := true, recurses := true, apart := false, narrowed := true }
def FnExactPoolReadUptoSaid : Prop := fnExactPoolReadUptoRow.holds Try.pinned (OpenSpec.upto fnExactPoolReadSpec)

/-- 'laws.FnExactPoolText', WHERE WHAT IT READS IS OF BULK AT MOST 1048576: true; the input reads as it did. -/
def fnExactPoolTextUptoRow : OpenClaim := { program := "ytooamacekmjpaaa", sum := "9b921c23a0188d671a1b5b95e2ac9a8e89481248ab4c03d55fbe7e72787b0c62", func := "loop.example/garner/laws.FnExactPoolText", spec := "fnExactPoolText", unfollowed := true, recurses := true, apart := false, narrowed := true }
def FnExactPoolTextUptoSaid : Prop := fnExactPoolTextUptoRow.holds Try.pinned (OpenSpec.upto fnExactPoolTextSpec)

/-- 'laws.FnVolCount', WHERE WHAT IT READS IS OF BULK AT MOST 1048576: true; the input reads as it did. -/
def fnVolCountUptoRow : OpenClaim := { program := "ytooamacekmjpaaa", sum := "9b921c23a0188d671a1b5b95e2ac9a8e89481248ab4c03d55fbe7e72787b0c62", func := "loop.example/garner/laws.FnVolCount", spec := "fnVolCount", apart := false, narrowed := true }
def FnVolCountUptoSaid : Prop := fnVolCountUptoRow.holds Try.pinned (OpenSpec.upto fnVolCountSpec)

/-- 'laws.FnVolUses', WHERE WHAT IT READS IS OF BULK AT MOST 1048576: true; the input reads as it did. -/
def fnVolUsesUptoRow : OpenClaim := { program := "ytooamacekmjpaaa", sum := "9b921c23a0188d671a1b5b95e2ac9a8e89481248ab4c03d55fbe7e72787b0c62", func := "loop.example/garner/laws.FnVolUses", spec := "fnVolUses", apart := false, narrowed := true }
def FnVolUsesUptoSaid : Prop := fnVolUsesUptoRow.holds Try.pinned (OpenSpec.upto fnVolUsesSpec)

/-- 'laws.FnVolText', WHERE WHAT IT READS IS OF BULK AT MOST 1048576: true; the input reads as it did. -/
def fnVolTextUptoRow : OpenClaim := { program := "ytooamacekmjpaaa", sum := "9b921c23a0188d671a1b5b95e2ac9a8e89481248ab4c03d55fbe7e72787b0c62", func := "loop.example/garner/laws.FnVolText", spec := "fnVolText", unfollowed := true, recurses := true, apart := false, narrowed := true }
def FnVolTextUptoSaid : Prop := fnVolTextUptoRow.holds Try.pinned (OpenSpec.upto fnVolTextSpec)

/-- 'laws.FnPoolUses', WHERE WHAT IT READS IS OF BULK AT MOST 1048576: true; the input reads as it did. -/
def fnPoolUsesUptoRow : OpenClaim := { program := "ytooamacekmjpaaa", sum := "9b921c23a0188d671a1b5b95e2ac9a8e89481248ab4c03d55fbe7e72787b0c62", func := "loop.example/garner/laws.FnPoolUses", spec := "fnPoolUses", unfollowed := true, recurses := true, apart := false, narrowed := true }
def FnPoolUsesUptoSaid : Prop := fnPoolUsesUptoRow.holds Try.pinned (OpenSpec.upto fnPoolUsesSpec)

/-- 'laws.FnPoolText', WHERE WHAT IT READS IS OF BULK AT MOST 1048576: true; the input reads as it did. -/
def fnPoolTextUptoRow : OpenClaim := { program := "ytooamacekmjpaaa", sum := "9b921c23a0188d671a1b5b95e2ac9a8e89481248ab4c03d55fbe7e72787b0c62", func := "loop.example/garner/laws.FnPoolText", spec := "fnPoolText", unfollowed := true, recurses := true, apart := false, narrowed := true }
def FnPoolTextUptoSaid : Prop := fnPoolTextUptoRow.holds Try.pinned (OpenSpec.upto fnPoolTextSpec)

/-- 'laws.FnPoolOnce', WHERE WHAT IT READS IS OF BULK AT MOST 1048576: true; the input reads as it did. -/
def fnPoolOnceUptoRow : OpenClaim := { program := "ytooamacekmjpaaa", sum := "9b921c23a0188d671a1b5b95e2ac9a8e89481248ab4c03d55fbe7e72787b0c62", func := "loop.example/garner/laws.FnPoolOnce", spec := "fnPoolOnce", unfollowed := true, recurses := true, apart := false, narrowed := true }
def FnPoolOnceUptoSaid : Prop := fnPoolOnceUptoRow.holds Try.pinned (OpenSpec.upto fnPoolOnceSpec)

/-- 'laws.FnReadOnly', WHERE WHAT IT READS IS OF BULK AT MOST 1048576: true; the input reads as it did. -/
def fnReadOnlyUptoRow : OpenClaim := { program := "ytooamacekmjpaaa", sum := "9b921c23a0188d671a1b5b95e2ac9a8e89481248ab4c03d55fbe7e72787b0c62", func := "loop.example/garner/laws.FnReadOnly", spec := "fnReadOnly", unfollowed := true, recurses := true, apart := false, narrowed := true }
def FnReadOnlyUptoSaid : Prop := fnReadOnlyUptoRow.holds Try.pinned (OpenSpec.upto fnReadOnlySpec)

end Rows
end Go.Proofs.Ytooamacekmjpaaa
