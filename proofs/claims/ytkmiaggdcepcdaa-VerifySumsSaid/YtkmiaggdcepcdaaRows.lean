/-
  No cell of these rows narrows 'for every input' (looked for: loops, veiled, ifaces, maps, wideKeys, modest, calm, conditions, laid).
  DERIVED. THE GIVEN ROWS OF THIS SEAT. 4 by the template 'for every input the law returns true; each argument reads behind the call as it read before'; 0 by the template 'total and deterministic' (their statements: YtkmiaggdcepcdaaTotals.lean).
  GIVEN WITH THE SEED: the statements are not yours to turn. If you find one false, say at which input.
  Laid BY PROGRAM, IN A SANDBOX (cutbox-rows.mjs): the forced cells as the released guide's own fill.sh prints them over the translation eed8daa6c4e43f23… (all of the seat's roots in one cut). By AI agents, Wed Nov 11 2026. No macro, syntax, notation, axiom, sorry.
-/
import Derived.Test.YtkmiaggdcepcdaaChecked
import GoSem.Claim
import GoSem.ClaimJoined
import GoSem.ClaimMapViews
import Derived.JoinedTies
import Derived.KernelRfl
namespace Go.Proofs.Ytkmiaggdcepcdaa
/- THE CELL 'sum', in the pinned program and in every row, IS THE sha256 OF THE DUMP (.gsa) THAT YtkmiaggdcepcdaaProg.lean LOADS. Nothing in Lean hashes anything: it is a label: what it is worth is what the hold of that sum in a sandbox is worth. -/
noncomputable def Try.pinned : Pinned := { name := "ytkmiaggdcepcdaa", sum := "eed8daa6c4e43f2302b182850de34ca67aafc5385a8e0f1bc4c421490dbae919", checked := Try.checked }
namespace Rows
def none {H : Type} : Left H := { results := [], args := [] }

/-- 'lathelaw26.VerifyCosts': WHATEVER THE INPUT: true; the input reads as it did. -/
def verifyCostsSpec : ChangeSpec := { name := "verifyCosts", fn := fun _ => fun
  | [d1, d2] => { results := [.lit (.bool true)], args := [d1, d2] }
  | _ => none }
def verifyCostsRow : OpenClaim := { program := "ytkmiaggdcepcdaa", sum := "eed8daa6c4e43f2302b182850de34ca67aafc5385a8e0f1bc4c421490dbae919", func := "lathe/lathelaw26.VerifyCosts", spec := "verifyCosts", inPlace := ["internal/bytealg.IndexByteString"], unfollowed := true, recurses := true, apart := false }
def VerifyCostsSaid : Prop := verifyCostsRow.holds Try.pinned (OpenSpec.ofChange verifyCostsSpec)

/-- ITS FALSE NEIGHBOUR: 'it returns false'. Refute it at one input. -/
def verifyCostsWrong : ChangeSpec := { name := "verifyCosts", fn := fun _ => fun
  | [d1, d2] => { results := [.lit (.bool false)], args := [d1, d2] }
  | _ => none }
def VerifyCostsWrongFalsely : Prop := verifyCostsRow.holds Try.pinned (OpenSpec.ofChange verifyCostsWrong)

/-- 'lathelaw26.VerifyChecks': WHATEVER THE INPUT: true; the input reads as it did. -/
def verifyChecksSpec : ChangeSpec := { name := "verifyChecks", fn := fun _ => fun
  | [d] => { results := [.lit (.bool true)], args := [d] }
  | _ => none }
def verifyChecksRow : OpenClaim := { program := "ytkmiaggdcepcdaa", sum := "eed8daa6c4e43f2302b182850de34ca67aafc5385a8e0f1bc4c421490dbae919", func := "lathe/lathelaw26.VerifyChecks", spec := "verifyChecks", inPlace := ["internal/bytealg.IndexByteString"], unfollowed := true, recurses := true, apart := false }
def VerifyChecksSaid : Prop := verifyChecksRow.holds Try.pinned (OpenSpec.ofChange verifyChecksSpec)

/-- ITS FALSE NEIGHBOUR: 'it returns false'. Refute it at one input. -/
def verifyChecksWrong : ChangeSpec := { name := "verifyChecks", fn := fun _ => fun
  | [d] => { results := [.lit (.bool false)], args := [d] }
  | _ => none }
def VerifyChecksWrongFalsely : Prop := verifyChecksRow.holds Try.pinned (OpenSpec.ofChange verifyChecksWrong)

/-- 'lathelaw26.VerifyGreat': WHATEVER THE INPUT: true; the input reads as it did. -/
def verifyGreatSpec : ChangeSpec := { name := "verifyGreat", fn := fun _ => fun
  | [d] => { results := [.lit (.bool true)], args := [d] }
  | _ => none }
def verifyGreatRow : OpenClaim := { program := "ytkmiaggdcepcdaa", sum := "eed8daa6c4e43f2302b182850de34ca67aafc5385a8e0f1bc4c421490dbae919", func := "lathe/lathelaw26.VerifyGreat", spec := "verifyGreat", inPlace := ["internal/bytealg.IndexByteString"], unfollowed := true, recurses := true, apart := false }
def VerifyGreatSaid : Prop := verifyGreatRow.holds Try.pinned (OpenSpec.ofChange verifyGreatSpec)

/-- ITS FALSE NEIGHBOUR: 'it returns false'. Refute it at one input. -/
def verifyGreatWrong : ChangeSpec := { name := "verifyGreat", fn := fun _ => fun
  | [d] => { results := [.lit (.bool false)], args := [d] }
  | _ => none }
def VerifyGreatWrongFalsely : Prop := verifyGreatRow.holds Try.pinned (OpenSpec.ofChange verifyGreatWrong)

/-- 'lathelaw26.VerifySums': WHATEVER THE INPUT: true; the input reads as it did. -/
def verifySumsSpec : ChangeSpec := { name := "verifySums", fn := fun _ => fun
  | [d] => { results := [.lit (.bool true)], args := [d] }
  | _ => none }
def verifySumsRow : OpenClaim := { program := "ytkmiaggdcepcdaa", sum := "eed8daa6c4e43f2302b182850de34ca67aafc5385a8e0f1bc4c421490dbae919", func := "lathe/lathelaw26.VerifySums", spec := "verifySums", inPlace := ["internal/bytealg.IndexByteString"], unfollowed := true, recurses := true, apart := false }
def VerifySumsSaid : Prop := verifySumsRow.holds Try.pinned (OpenSpec.ofChange verifySumsSpec)

/-- ITS FALSE NEIGHBOUR: 'it returns false'. Refute it at one input. -/
def verifySumsWrong : ChangeSpec := { name := "verifySums", fn := fun _ => fun
  | [d] => { results := [.lit (.bool false)], args := [d] }
  | _ => none }
def VerifySumsWrongFalsely : Prop := verifySumsRow.holds Try.pinned (OpenSpec.ofChange verifySumsWrong)

/- THE SECOND FORM. 'bulk': how many values and letters a reading holds, each counted each time it is reached (what is shared counts as often as it is met; a slice's spare places count too). A statement '..UptoSaid' is the law's where the arguments, and the package variables that the reading takes, are together of bulk at most 1048576: NARROWER than '..Said'. Prove '..Said' where nothing that the law and all that it calls make is longer than what came in: it says more and counts as full. Else prove '..UptoSaid'. A law counts once. -/
mutual
def uptoBulk {H : Type} : DataW H → Nat
  | .lit (.string bytes) => bytes.length + 1
  | .lit _ => 1
  | .nil => 1
  | .ptr d => uptoBulk d + 1
  | .slice elems spare => uptoBulkAll elems + uptoBulkAll spare + 1
  | .agg parts => uptoBulkAll parts + 1
  | .iface _ d => uptoBulk d + 1
  | .map entries => uptoBulkEntries entries + 1
  | .held _ => 1
def uptoBulkAll {H : Type} : List (DataW H) → Nat
  | [] => 0
  | d :: r => uptoBulk d + uptoBulkAll r
def uptoBulkEntries {H : Type} : List (Lit × DataW H) → Nat
  | [] => 0
  | x :: r => uptoBulkEntry x + uptoBulkEntries r
def uptoBulkEntry {H : Type} : Lit × DataW H → Nat
  | (.string bytes, d) => bytes.length + uptoBulk d + 1
  | (_, d) => uptoBulk d + 1
 end
def uptoSmall : (H : Type) → List (DataW H) → Bool := fun _ ds => decide (uptoBulkAll ds ≤ 1048576)
def OpenSpec.upto (s : _root_.Go.ChangeSpec) : _root_.Go.OpenSpec := { _root_.Go.OpenSpec.ofChange s with cond := some uptoSmall }

/-- 'lathelaw26.VerifyCosts', WHERE WHAT IT READS IS OF BULK AT MOST 1048576: true; the input reads as it did. -/
def verifyCostsUptoRow : OpenClaim := { program := "ytkmiaggdcepcdaa", sum := "eed8daa6c4e43f2302b182850de34ca67aafc5385a8e0f1bc4c421490dbae919", func := "lathe/lathelaw26.VerifyCosts", spec := "verifyCosts", inPlace := ["internal/bytealg.IndexByteString"], unfollowed := true, recurses := true, apart := false, narrowed := true }
def VerifyCostsUptoSaid : Prop := verifyCostsUptoRow.holds Try.pinned (OpenSpec.upto verifyCostsSpec)

/-- 'lathelaw26.VerifyChecks', WHERE WHAT IT READS IS OF BULK AT MOST 1048576: true; the input reads as it did. -/
def verifyChecksUptoRow : OpenClaim := { program := "ytkmiaggdcepcdaa", sum := "eed8daa6c4e43f2302b182850de34ca67aafc5385a8e0f1bc4c421490dbae919", func := "lathe/lathelaw26.VerifyChecks", spec := "verifyChecks", inPlace := ["internal/bytealg.IndexByteString"], unfollowed := true, recurses := true, apart := false, narrowed := true }
def VerifyChecksUptoSaid : Prop := verifyChecksUptoRow.holds Try.pinned (OpenSpec.upto verifyChecksSpec)

/-- 'lathelaw26.VerifyGreat', WHERE WHAT IT READS IS OF BULK AT MOST 1048576: true; the input reads as it did. -/
def verifyGreatUptoRow : OpenClaim := { program := "ytkmiaggdcepcdaa", sum := "eed8daa6c4e43f2302b182850de34ca67aafc5385a8e0f1bc4c421490dbae919", func := "lathe/lathelaw26.VerifyGreat", spec := "verifyGreat", inPlace := ["internal/bytealg.IndexByteString"], unfollowed := true, recurses := true, apart := false, narrowed := true }
def VerifyGreatUptoSaid : Prop := verifyGreatUptoRow.holds Try.pinned (OpenSpec.upto verifyGreatSpec)

/-- 'lathelaw26.VerifySums', WHERE WHAT IT READS IS OF BULK AT MOST 1048576: true; the input reads as it did. -/
def verifySumsUptoRow : OpenClaim := { program := "ytkmiaggdcepcdaa", sum := "eed8daa6c4e43f2302b182850de34ca67aafc5385a8e0f1bc4c421490dbae919", func := "lathe/lathelaw26.VerifySums", spec := "verifySums", inPlace := ["internal/bytealg.IndexByteString"], unfollowed := true, recurses := true, apart := false, narrowed := true }
def VerifySumsUptoSaid : Prop := verifySumsUptoRow.holds Try.pinned (OpenSpec.upto verifySumsSpec)

end Rows
end Go.Proofs.Ytkmiaggdcepcdaa
