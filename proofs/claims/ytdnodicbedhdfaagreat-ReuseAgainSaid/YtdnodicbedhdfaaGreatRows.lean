/-
  No cell of these rows narrows 'for every input' (looked for: loops, veiled, ifaces, maps, wideKeys, modest, calm, conditions, laid).
  DERIVED. THE GIVEN ROWS OF THIS SEAT. 4 by the template 'for every input the law returns true; each argument reads behind the call as it read before'; 0 by the template 'total and deterministic' (their statements: YtdnodicbedhdfaaGreatTotals.lean).
  GIVEN WITH THE SEED: the statements are not yours to turn. If you find one false, say at which input.
  Laid BY PROGRAM, IN A SANDBOX (cutbox-rows.mjs): the forced cells as the released guide's own fill.sh prints them over the translation e72b5e056853efac… (all of the seat's roots in one cut). By AI agents, Wed Nov 11 2026. No macro, syntax, notation, axiom, sorry.
-/
import Derived.Test.YtdnodicbedhdfaaGreatChecked
import GoSem.Claim
import GoSem.ClaimJoined
import GoSem.ClaimMapViews
import Derived.JoinedTies
import Derived.KernelRfl
namespace Go.Proofs.YtdnodicbedhdfaaGreat
/- THE CELL 'sum', in the pinned program and in every row, IS THE sha256 OF THE DUMP (.gsa) THAT YtdnodicbedhdfaaGreatProg.lean LOADS. Nothing in Lean hashes anything: it is a label: what it is worth is what the hold of that sum in a sandbox is worth. -/
noncomputable def Tryz.pinned : Pinned := { name := "ytdnodicbedhdfaagreat", sum := "e72b5e056853efaca7272ac4fe555cc30a1b9d2e58d1fbf3a343607ab17b8bd7", checked := Tryz.checked }
namespace Rows
def none {H : Type} : Left H := { results := [], args := [] }

/-- 'lathelaw20.ReuseForms': WHATEVER THE INPUT: true; the input reads as it did. -/
def reuseFormsSpec : ChangeSpec := { name := "reuseForms", fn := fun _ => fun
  | [d] => { results := [.lit (.bool true)], args := [d] }
  | _ => none }
def reuseFormsRow : OpenClaim := { program := "ytdnodicbedhdfaagreat", sum := "e72b5e056853efaca7272ac4fe555cc30a1b9d2e58d1fbf3a343607ab17b8bd7", func := "lathe/lathelaw20.ReuseForms", spec := "reuseForms", inPlace := ["internal/bytealg.IndexByteString"], unfollowed := true, recurses := true, plainKeys := false, apart := false }
def ReuseFormsSaid : Prop := reuseFormsRow.holds Tryz.pinned (OpenSpec.ofChange reuseFormsSpec)

/-- ITS FALSE NEIGHBOUR: 'it returns false'. Refute it at one input. -/
def reuseFormsWrong : ChangeSpec := { name := "reuseForms", fn := fun _ => fun
  | [d] => { results := [.lit (.bool false)], args := [d] }
  | _ => none }
def ReuseFormsWrongFalsely : Prop := reuseFormsRow.holds Tryz.pinned (OpenSpec.ofChange reuseFormsWrong)

/-- 'lathelaw20.ReuseMeans': WHATEVER THE INPUT: true; the input reads as it did. -/
def reuseMeansSpec : ChangeSpec := { name := "reuseMeans", fn := fun _ => fun
  | [d1, d2] => { results := [.lit (.bool true)], args := [d1, d2] }
  | _ => none }
def reuseMeansRow : OpenClaim := { program := "ytdnodicbedhdfaagreat", sum := "e72b5e056853efaca7272ac4fe555cc30a1b9d2e58d1fbf3a343607ab17b8bd7", func := "lathe/lathelaw20.ReuseMeans", spec := "reuseMeans", inPlace := ["internal/bytealg.IndexByteString"], unfollowed := true, recurses := true, plainKeys := false, apart := false }
def ReuseMeansSaid : Prop := reuseMeansRow.holds Tryz.pinned (OpenSpec.ofChange reuseMeansSpec)

/-- ITS FALSE NEIGHBOUR: 'it returns false'. Refute it at one input. -/
def reuseMeansWrong : ChangeSpec := { name := "reuseMeans", fn := fun _ => fun
  | [d1, d2] => { results := [.lit (.bool false)], args := [d1, d2] }
  | _ => none }
def ReuseMeansWrongFalsely : Prop := reuseMeansRow.holds Tryz.pinned (OpenSpec.ofChange reuseMeansWrong)

/-- 'lathelaw20.ReuseClean': WHATEVER THE INPUT: true; the input reads as it did. -/
def reuseCleanSpec : ChangeSpec := { name := "reuseClean", fn := fun _ => fun
  | [d] => { results := [.lit (.bool true)], args := [d] }
  | _ => none }
def reuseCleanRow : OpenClaim := { program := "ytdnodicbedhdfaagreat", sum := "e72b5e056853efaca7272ac4fe555cc30a1b9d2e58d1fbf3a343607ab17b8bd7", func := "lathe/lathelaw20.ReuseClean", spec := "reuseClean", inPlace := ["internal/bytealg.IndexByteString"], unfollowed := true, recurses := true, plainKeys := false, apart := false }
def ReuseCleanSaid : Prop := reuseCleanRow.holds Tryz.pinned (OpenSpec.ofChange reuseCleanSpec)

/-- ITS FALSE NEIGHBOUR: 'it returns false'. Refute it at one input. -/
def reuseCleanWrong : ChangeSpec := { name := "reuseClean", fn := fun _ => fun
  | [d] => { results := [.lit (.bool false)], args := [d] }
  | _ => none }
def ReuseCleanWrongFalsely : Prop := reuseCleanRow.holds Tryz.pinned (OpenSpec.ofChange reuseCleanWrong)

/-- 'lathelaw20.ReuseAgain': WHATEVER THE INPUT: true; the input reads as it did. -/
def reuseAgainSpec : ChangeSpec := { name := "reuseAgain", fn := fun _ => fun
  | [d] => { results := [.lit (.bool true)], args := [d] }
  | _ => none }
def reuseAgainRow : OpenClaim := { program := "ytdnodicbedhdfaagreat", sum := "e72b5e056853efaca7272ac4fe555cc30a1b9d2e58d1fbf3a343607ab17b8bd7", func := "lathe/lathelaw20.ReuseAgain", spec := "reuseAgain", inPlace := ["internal/bytealg.IndexByteString"], unfollowed := true, recurses := true, plainKeys := false, apart := false }
def ReuseAgainSaid : Prop := reuseAgainRow.holds Tryz.pinned (OpenSpec.ofChange reuseAgainSpec)

/-- ITS FALSE NEIGHBOUR: 'it returns false'. Refute it at one input. -/
def reuseAgainWrong : ChangeSpec := { name := "reuseAgain", fn := fun _ => fun
  | [d] => { results := [.lit (.bool false)], args := [d] }
  | _ => none }
def ReuseAgainWrongFalsely : Prop := reuseAgainRow.holds Tryz.pinned (OpenSpec.ofChange reuseAgainWrong)

/- THE SECOND FORM. 'bulk': how many values and letters a reading holds, each counted each time it is reached (what is shared counts as often as it is met; a slice's spare places count too). A statement '..UptoSaid' is the law's where the arguments, and the package variables that the reading takes, are together of bulk at most 1048576: NARROWER than '..Said'. Prove '..Said' where nothing that the law and all that it calls make is longer than what came in: it says more and counts as full. Else prove '..UptoSaid'. A law counts once. -/
mutual
def uptoBulk {H : Type} : DataW H → Nat
  | .lit (.string bytes) => bytes.length + 1
  | .lit _ => 1
  | .nil => 1
  | .ptr d => uptoBulk d + 1
  | .slice elems spare => uptoBulkAll elems + uptoBulkAll spare + 1
  | .agg parts => uptoBulkAll parts + 1
  | .iface _ d => uptoBulk d + 1
  | .map entries => uptoBulkEntries entries + 1
  | .held _ => 1
def uptoBulkAll {H : Type} : List (DataW H) → Nat
  | [] => 0
  | d :: r => uptoBulk d + uptoBulkAll r
def uptoBulkEntries {H : Type} : List (Lit × DataW H) → Nat
  | [] => 0
  | x :: r => uptoBulkEntry x + uptoBulkEntries r
def uptoBulkEntry {H : Type} : Lit × DataW H → Nat
  | (.string bytes, d) => bytes.length + uptoBulk d + 1
  | (_, d) => uptoBulk d + 1
 end
def uptoSmall : (H : Type) → List (DataW H) → Bool := fun _ ds => decide (uptoBulkAll ds ≤ 1048576)
def OpenSpec.upto (s : _root_.Go.ChangeSpec) : _root_.Go.OpenSpec := { _root_.Go.OpenSpec.ofChange s with cond := some uptoSmall }

/-- 'lathelaw20.ReuseForms', WHERE WHAT IT READS IS OF BULK AT MOST 1048576: true; the input reads as it did. -/
def reuseFormsUptoRow : OpenClaim := { program := "ytdnodicbedhdfaagreat", sum := "e72b5e056853efaca7272ac4fe555cc30a1b9d2e58d1fbf3a343607ab17b8bd7", func := "lathe/lathelaw20.ReuseForms", spec := "reuseForms", inPlace := ["internal/bytealg.IndexByteString"], unfollowed := true, recurses := true, plainKeys := false, apart := false, narrowed := true }
def ReuseFormsUptoSaid : Prop := reuseFormsUptoRow.holds Tryz.pinned (OpenSpec.upto reuseFormsSpec)

/-- 'lathelaw20.ReuseMeans', WHERE WHAT IT READS IS OF BULK AT MOST 1048576: true; the input reads as it did. -/
def reuseMeansUptoRow : OpenClaim := { program := "ytdnodicbedhdfaagreat", sum := "e72b5e056853efaca7272ac4fe555cc30a1b9d2e58d1fbf3a343607ab17b8bd7", func := "lathe/lathelaw20.ReuseMeans", spec := "reuseMeans", inPlace := ["internal/bytealg.IndexByteString"], unfollowed := true, recurses := true, plainKeys := false, apart := false, narrowed := true }
def ReuseMeansUptoSaid : Prop := reuseMeansUptoRow.holds Tryz.pinned (OpenSpec.upto reuseMeansSpec)

/-- 'lathelaw20.ReuseClean', WHERE WHAT IT READS IS OF BULK AT MOST 1048576: true; the input reads as it did. -/
def reuseCleanUptoRow : OpenClaim := { program := "ytdnodicbedhdfaagreat", sum := "e72b5e056853efaca7272ac4fe555cc30a1b9d2e58d1fbf3a343607ab17b8bd7", func := "lathe/lathelaw20.ReuseClean", spec := "reuseClean", inPlace := ["internal/bytealg.IndexByteString"], unfollowed := true, recurses := true, plainKeys := false, apart := false, narrowed := true }
def ReuseCleanUptoSaid : Prop := reuseCleanUptoRow.holds Tryz.pinned (OpenSpec.upto reuseCleanSpec)

/-- 'lathelaw20.ReuseAgain', WHERE WHAT IT READS IS OF BULK AT MOST 1048576: true; the input reads as it did. -/
def reuseAgainUptoRow : OpenClaim := { program := "ytdnodicbedhdfaagreat", sum := "e72b5e056853efaca7272ac4fe555cc30a1b9d2e58d1fbf3a343607ab17b8bd7", func := "lathe/lathelaw20.ReuseAgain", spec := "reuseAgain", inPlace := ["internal/bytealg.IndexByteString"], unfollowed := true, recurses := true, plainKeys := false, apart := false, narrowed := true }
def ReuseAgainUptoSaid : Prop := reuseAgainUptoRow.holds Tryz.pinned (OpenSpec.upto reuseAgainSpec)

end Rows
end Go.Proofs.YtdnodicbedhdfaaGreat
