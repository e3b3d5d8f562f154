/-
  No cell of these rows narrows 'for every input' (looked for: loops, veiled, ifaces, maps, wideKeys, modest, calm, conditions, laid).
  DERIVED. THE GIVEN ROWS OF THIS SEAT. 6 by the template 'for every input the law returns true; each argument reads behind the call as it read before'; 0 by the template 'total and deterministic' (their statements: YtklocljkocgndaaTotals.lean).
  GIVEN WITH THE SEED: the statements are not yours to turn. If you find one false, say at which input.
  Laid BY PROGRAM, IN A SANDBOX (cutbox-rows.mjs): the forced cells as the released guide's own fill.sh prints them over the translation 37fa0cad5a43f2ae… (all of the seat's roots in one cut). By AI agents, Wed Nov 11 2026. No macro, syntax, notation, axiom, sorry.
-/
import Derived.Test.YtklocljkocgndaaChecked
import GoSem.Claim
import GoSem.ClaimJoined
import GoSem.ClaimMapViews
import Derived.JoinedTies
import Derived.KernelRfl
namespace Go.Proofs.Ytklocljkocgndaa
/- THE CELL 'sum', in the pinned program and in every row, IS THE sha256 OF THE DUMP (.gsa) THAT YtklocljkocgndaaProg.lean LOADS. Nothing in Lean hashes anything: it is a label: what it is worth is what the hold of that sum in a sandbox is worth. -/
noncomputable def Try.pinned : Pinned := { name := "ytklocljkocgndaa", sum := "37fa0cad5a43f2ae079995b0b221b0de81df558351785b45979e9879ad891ed9", checked := Try.checked }
namespace Rows
def none {H : Type} : Left H := { results := [], args := [] }

/-- 'lathelaw16.IrRows': WHATEVER THE INPUT: true; the input reads as it did. -/
def irRowsSpec : ChangeSpec := { name := "irRows", fn := fun _ => fun
  | [d] => { results := [.lit (.bool true)], args := [d] }
  | _ => none }
def irRowsRow : OpenClaim := { program := "ytklocljkocgndaa", sum := "37fa0cad5a43f2ae079995b0b221b0de81df558351785b45979e9879ad891ed9", func := "lathe/lathelaw16.IrRows", spec := "irRows", inPlace := ["internal/bytealg.IndexByteString"], unfollowed := true, recurses := true, apart := false }
def IrRowsSaid : Prop := irRowsRow.holds Try.pinned (OpenSpec.ofChange irRowsSpec)

/-- ITS FALSE NEIGHBOUR: 'it returns false'. Refute it at one input. -/
def irRowsWrong : ChangeSpec := { name := "irRows", fn := fun _ => fun
  | [d] => { results := [.lit (.bool false)], args := [d] }
  | _ => none }
def IrRowsWrongFalsely : Prop := irRowsRow.holds Try.pinned (OpenSpec.ofChange irRowsWrong)

/-- 'lathelaw16.IrWays': WHATEVER THE INPUT: true; the input reads as it did. -/
def irWaysSpec : ChangeSpec := { name := "irWays", fn := fun _ => fun
  | [d] => { results := [.lit (.bool true)], args := [d] }
  | _ => none }
def irWaysRow : OpenClaim := { program := "ytklocljkocgndaa", sum := "37fa0cad5a43f2ae079995b0b221b0de81df558351785b45979e9879ad891ed9", func := "lathe/lathelaw16.IrWays", spec := "irWays", inPlace := ["internal/bytealg.IndexByteString"], unfollowed := true, recurses := true, apart := false }
def IrWaysSaid : Prop := irWaysRow.holds Try.pinned (OpenSpec.ofChange irWaysSpec)

/-- ITS FALSE NEIGHBOUR: 'it returns false'. Refute it at one input. -/
def irWaysWrong : ChangeSpec := { name := "irWays", fn := fun _ => fun
  | [d] => { results := [.lit (.bool false)], args := [d] }
  | _ => none }
def IrWaysWrongFalsely : Prop := irWaysRow.holds Try.pinned (OpenSpec.ofChange irWaysWrong)

/-- 'lathelaw16.IrBegins': WHATEVER THE INPUT: true; the input reads as it did. -/
def irBeginsSpec : ChangeSpec := { name := "irBegins", fn := fun _ => fun
  | [d1, d2] => { results := [.lit (.bool true)], args := [d1, d2] }
  | _ => none }
def irBeginsRow : OpenClaim := { program := "ytklocljkocgndaa", sum := "37fa0cad5a43f2ae079995b0b221b0de81df558351785b45979e9879ad891ed9", func := "lathe/lathelaw16.IrBegins", spec := "irBegins", inPlace := ["internal/bytealg.IndexByteString"], unfollowed := true, recurses := true, apart := false }
def IrBeginsSaid : Prop := irBeginsRow.holds Try.pinned (OpenSpec.ofChange irBeginsSpec)

/-- ITS FALSE NEIGHBOUR: 'it returns false'. Refute it at one input. -/
def irBeginsWrong : ChangeSpec := { name := "irBegins", fn := fun _ => fun
  | [d1, d2] => { results := [.lit (.bool false)], args := [d1, d2] }
  | _ => none }
def IrBeginsWrongFalsely : Prop := irBeginsRow.holds Try.pinned (OpenSpec.ofChange irBeginsWrong)

/-- 'lathelaw16.IrLong': WHATEVER THE INPUT: true; the input reads as it did. -/
def irLongSpec : ChangeSpec := { name := "irLong", fn := fun _ => fun
  | [d] => { results := [.lit (.bool true)], args := [d] }
  | _ => none }
def irLongRow : OpenClaim := { program := "ytklocljkocgndaa", sum := "37fa0cad5a43f2ae079995b0b221b0de81df558351785b45979e9879ad891ed9", func := "lathe/lathelaw16.IrLong", spec := "irLong", inPlace := ["internal/bytealg.IndexByteString"], unfollowed := true, recurses := true, apart := false }
def IrLongSaid : Prop := irLongRow.holds Try.pinned (OpenSpec.ofChange irLongSpec)

/-- ITS FALSE NEIGHBOUR: 'it returns false'. Refute it at one input. -/
def irLongWrong : ChangeSpec := { name := "irLong", fn := fun _ => fun
  | [d] => { results := [.lit (.bool false)], args := [d] }
  | _ => none }
def IrLongWrongFalsely : Prop := irLongRow.holds Try.pinned (OpenSpec.ofChange irLongWrong)

/-- 'lathelaw16.IrEqual': WHATEVER THE INPUT: true; the input reads as it did. -/
def irEqualSpec : ChangeSpec := { name := "irEqual", fn := fun _ => fun
  | [d1, d2] => { results := [.lit (.bool true)], args := [d1, d2] }
  | _ => none }
def irEqualRow : OpenClaim := { program := "ytklocljkocgndaa", sum := "37fa0cad5a43f2ae079995b0b221b0de81df558351785b45979e9879ad891ed9", func := "lathe/lathelaw16.IrEqual", spec := "irEqual", inPlace := ["internal/bytealg.IndexByteString"], unfollowed := true, recurses := true, apart := false }
def IrEqualSaid : Prop := irEqualRow.holds Try.pinned (OpenSpec.ofChange irEqualSpec)

/-- ITS FALSE NEIGHBOUR: 'it returns false'. Refute it at one input. -/
def irEqualWrong : ChangeSpec := { name := "irEqual", fn := fun _ => fun
  | [d1, d2] => { results := [.lit (.bool false)], args := [d1, d2] }
  | _ => none }
def IrEqualWrongFalsely : Prop := irEqualRow.holds Try.pinned (OpenSpec.ofChange irEqualWrong)

/-- 'lathelaw16.IrChecks': WHATEVER THE INPUT: true; the input reads as it did. -/
def irChecksSpec : ChangeSpec := { name := "irChecks", fn := fun _ => fun
  | [d] => { results := [.lit (.bool true)], args := [d] }
  | _ => none }
def irChecksRow : OpenClaim := { program := "ytklocljkocgndaa", sum := "37fa0cad5a43f2ae079995b0b221b0de81df558351785b45979e9879ad891ed9", func := "lathe/lathelaw16.IrChecks", spec := "irChecks", inPlace := ["internal/bytealg.IndexByteString"], unfollowed := true, recurses := true, apart := false }
def IrChecksSaid : Prop := irChecksRow.holds Try.pinned (OpenSpec.ofChange irChecksSpec)

/-- ITS FALSE NEIGHBOUR: 'it returns false'. Refute it at one input. -/
def irChecksWrong : ChangeSpec := { name := "irChecks", fn := fun _ => fun
  | [d] => { results := [.lit (.bool false)], args := [d] }
  | _ => none }
def IrChecksWrongFalsely : Prop := irChecksRow.holds Try.pinned (OpenSpec.ofChange irChecksWrong)

/- THE SECOND FORM. 'bulk': how many values and letters a reading holds, each counted each time it is reached (what is shared counts as often as it is met; a slice's spare places count too). A statement '..UptoSaid' is the law's where the arguments, and the package variables that the reading takes, are together of bulk at most 1048576: NARROWER than '..Said'. Prove '..Said' where nothing that the law and all that it calls make is longer than what came in: it says more and counts as full. Else prove '..UptoSaid'. A law counts once. -/
mutual
def uptoBulk {H : Type} : DataW H → Nat
  | .lit (.string bytes) => bytes.length + 1
  | .lit _ => 1
  | .nil => 1
  | .ptr d => uptoBulk d + 1
  | .slice elems spare => uptoBulkAll elems + uptoBulkAll spare + 1
  | .agg parts => uptoBulkAll parts + 1
  | .iface _ d => uptoBulk d + 1
  | .map entries => uptoBulkEntries entries + 1
  | .held _ => 1
def uptoBulkAll {H : Type} : List (DataW H) → Nat
  | [] => 0
  | d :: r => uptoBulk d + uptoBulkAll r
def uptoBulkEntries {H : Type} : List (Lit × DataW H) → Nat
  | [] => 0
  | x :: r => uptoBulkEntry x + uptoBulkEntries r
def uptoBulkEntry {H : Type} : Lit × DataW H → Nat
  | (.string bytes, d) => bytes.length + uptoBulk d + 1
  | (_, d) => uptoBulk d + 1
 end
def uptoSmall : (H : Type) → List (DataW H) → Bool := fun _ ds => decide (uptoBulkAll ds ≤ 1048576)
def OpenSpec.upto (s : _root_.Go.ChangeSpec) : _root_.Go.OpenSpec := { _root_.Go.OpenSpec.ofChange s with cond := some uptoSmall }

/-- 'lathelaw16.IrRows', WHERE WHAT IT READS IS OF BULK AT MOST 1048576: true; the input reads as it did. -/
def irRowsUptoRow : OpenClaim := { program := "ytklocljkocgndaa", sum := "37fa0cad5a43f2ae079995b0b221b0de81df558351785b45979e9879ad891ed9", func := "lathe/lathelaw16.IrRows", spec := "irRows", inPlace := ["internal/bytealg.IndexByteString"], unfollowed := true, recurses := true, apart := false, narrowed := true }
def IrRowsUptoSaid : Prop := irRowsUptoRow.holds Try.pinned (OpenSpec.upto irRowsSpec)

/-- 'lathelaw16.IrWays', WHERE WHAT IT READS IS OF BULK AT MOST 1048576: true; the input reads as it did. -/
def irWaysUptoRow : OpenClaim := { program := "ytklocljkocgndaa", sum := "37fa0cad5a43f2ae079995b0b221b0de81df558351785b45979e9879ad891ed9", func := "lathe/lathelaw16.IrWays", spec := "irWays", inPlace := ["internal/bytealg.IndexByteString"], unfollowed := true, recurses := true, apart := false, narrowed := true }
def IrWaysUptoSaid : Prop := irWaysUptoRow.holds Try.pinned (OpenSpec.upto irWaysSpec)

/-- 'lathelaw16.IrBegins', WHERE WHAT IT READS IS OF BULK AT MOST 1048576: true; the input reads as it did. -/
def irBeginsUptoRow : OpenClaim := { program := "ytklocljkocgndaa", sum := "37fa0cad5a43f2ae079995b0b221b0de81df558351785b45979e9879ad891ed9", func := "lathe/lathelaw16.IrBegins", spec := "irBegins", inPlace := ["internal/bytealg.IndexByteString"], unfollowed := true, recurses := true, apart := false, narrowed := true }
def IrBeginsUptoSaid : Prop := irBeginsUptoRow.holds Try.pinned (OpenSpec.upto irBeginsSpec)

/-- 'lathelaw16.IrLong', WHERE WHAT IT READS IS OF BULK AT MOST 1048576: true; the input reads as it did. -/
def irLongUptoRow : OpenClaim := { program := "ytklocljkocgndaa", sum := "37fa0cad5a43f2ae079995b0b221b0de81df558351785b45979e9879ad891ed9", func := "lathe/lathelaw16.IrLong", spec := "irLong", inPlace := ["internal/bytealg.IndexByteString"], unfollowed := true, recurses := true, apart := false, narrowed := true }
def IrLongUptoSaid : Prop := irLongUptoRow.holds Try.pinned (OpenSpec.upto irLongSpec)

/-- 'lathelaw16.IrEqual', WHERE WHAT IT READS IS OF BULK AT MOST 1048576: true; the input reads as it did. -/
def irEqualUptoRow : OpenClaim := { program := "ytklocljkocgndaa", sum := "37fa0cad5a43f2ae079995b0b221b0de81df558351785b45979e9879ad891ed9", func := "lathe/lathelaw16.IrEqual", spec := "irEqual", inPlace := ["internal/bytealg.IndexByteString"], unfollowed := true, recurses := true, apart := false, narrowed := true }
def IrEqualUptoSaid : Prop := irEqualUptoRow.holds Try.pinned (OpenSpec.upto irEqualSpec)

/-- 'lathelaw16.IrChecks', WHERE WHAT IT READS IS OF BULK AT MOST 1048576: true; the input reads as it did. -/
def irChecksUptoRow : OpenClaim := { program := "ytklocljkocgndaa", sum := "37fa0cad5a43f2ae079995b0b221b0de81df558351785b45979e9879ad891ed9", func := "lathe/lathelaw16.IrChecks", spec := "irChecks", inPlace := ["internal/bytealg.IndexByteString"], unfollowed := true, recurses := true, apart := false, narrowed := true }
def IrChecksUptoSaid : Prop := irChecksUptoRow.holds Try.pinned (OpenSpec.upto irChecksSpec)

end Rows
end Go.Proofs.Ytklocljkocgndaa
