/-
  No cell of these rows narrows 'for every input' (looked for: loops, veiled, ifaces, maps, wideKeys, modest, calm, conditions, laid).
  DERIVED. THE GIVEN ROWS OF THIS SEAT. 5 by the template 'for every input the law returns true; each argument reads behind the call as it read before'; 0 by the template 'total and deterministic' (their statements: YtkdodmdcmakdgaaGreatTotals.lean).
  GIVEN WITH THE SEED: the statements are not yours to turn. If you find one false, say at which input.
  Laid BY PROGRAM, IN A SANDBOX (cutbox-rows.mjs): the forced cells as the released guide's own fill.sh prints them over the translation 1ffae6d470fc4a47… (all of the seat's roots in one cut). By AI agents, Wed Nov 11 2026. No macro, syntax, notation, axiom, sorry.
-/
import Derived.Test.YtkdodmdcmakdgaaGreatChecked
import GoSem.Claim
import GoSem.ClaimJoined
import GoSem.ClaimMapViews
import Derived.JoinedTies
import Derived.KernelRfl
namespace Go.Proofs.YtkdodmdcmakdgaaGreat
/- THE CELL 'sum', in the pinned program and in every row, IS THE sha256 OF THE DUMP (.gsa) THAT YtkdodmdcmakdgaaGreatProg.lean LOADS. Nothing in Lean hashes anything: it is a label: what it is worth is what the hold of that sum in a sandbox is worth. -/
noncomputable def Tryz.pinned : Pinned := { name := "ytkdodmdcmakdgaagreat", sum := "1ffae6d470fc4a4788b0c6655a9a2120f129efbb2cefc756f807043b68b73397", checked := Tryz.checked }
namespace Rows
def none {H : Type} : Left H := { results := [], args := [] }

/-- 'lathelaw22.FuseForms': WHATEVER THE INPUT: true; the input reads as it did. -/
def fuseFormsSpec : ChangeSpec := { name := "fuseForms", fn := fun _ => fun
  | [d] => { results := [.lit (.bool true)], args := [d] }
  | _ => none }
def fuseFormsRow : OpenClaim := { program := "ytkdodmdcmakdgaagreat", sum := "1ffae6d470fc4a4788b0c6655a9a2120f129efbb2cefc756f807043b68b73397", func := "lathe/lathelaw22.FuseForms", spec := "fuseForms", inPlace := ["internal/bytealg.IndexByteString"], unfollowed := true, recurses := true, apart := false }
def FuseFormsSaid : Prop := fuseFormsRow.holds Tryz.pinned (OpenSpec.ofChange fuseFormsSpec)

/-- ITS FALSE NEIGHBOUR: 'it returns false'. Refute it at one input. -/
def fuseFormsWrong : ChangeSpec := { name := "fuseForms", fn := fun _ => fun
  | [d] => { results := [.lit (.bool false)], args := [d] }
  | _ => none }
def FuseFormsWrongFalsely : Prop := fuseFormsRow.holds Tryz.pinned (OpenSpec.ofChange fuseFormsWrong)

/-- 'lathelaw22.FuseMeans': WHATEVER THE INPUT: true; the input reads as it did. -/
def fuseMeansSpec : ChangeSpec := { name := "fuseMeans", fn := fun _ => fun
  | [d1, d2] => { results := [.lit (.bool true)], args := [d1, d2] }
  | _ => none }
def fuseMeansRow : OpenClaim := { program := "ytkdodmdcmakdgaagreat", sum := "1ffae6d470fc4a4788b0c6655a9a2120f129efbb2cefc756f807043b68b73397", func := "lathe/lathelaw22.FuseMeans", spec := "fuseMeans", inPlace := ["internal/bytealg.IndexByteString"], unfollowed := true, recurses := true, apart := false }
def FuseMeansSaid : Prop := fuseMeansRow.holds Tryz.pinned (OpenSpec.ofChange fuseMeansSpec)

/-- ITS FALSE NEIGHBOUR: 'it returns false'. Refute it at one input. -/
def fuseMeansWrong : ChangeSpec := { name := "fuseMeans", fn := fun _ => fun
  | [d1, d2] => { results := [.lit (.bool false)], args := [d1, d2] }
  | _ => none }
def FuseMeansWrongFalsely : Prop := fuseMeansRow.holds Tryz.pinned (OpenSpec.ofChange fuseMeansWrong)

/-- 'lathelaw22.FuseLoops': WHATEVER THE INPUT: true; the input reads as it did. -/
def fuseLoopsSpec : ChangeSpec := { name := "fuseLoops", fn := fun _ => fun
  | [d] => { results := [.lit (.bool true)], args := [d] }
  | _ => none }
def fuseLoopsRow : OpenClaim := { program := "ytkdodmdcmakdgaagreat", sum := "1ffae6d470fc4a4788b0c6655a9a2120f129efbb2cefc756f807043b68b73397", func := "lathe/lathelaw22.FuseLoops", spec := "fuseLoops", inPlace := ["internal/bytealg.IndexByteString"], unfollowed := true, recurses := true, apart := false }
def FuseLoopsSaid : Prop := fuseLoopsRow.holds Tryz.pinned (OpenSpec.ofChange fuseLoopsSpec)

/-- ITS FALSE NEIGHBOUR: 'it returns false'. Refute it at one input. -/
def fuseLoopsWrong : ChangeSpec := { name := "fuseLoops", fn := fun _ => fun
  | [d] => { results := [.lit (.bool false)], args := [d] }
  | _ => none }
def FuseLoopsWrongFalsely : Prop := fuseLoopsRow.holds Tryz.pinned (OpenSpec.ofChange fuseLoopsWrong)

/-- 'lathelaw22.FuseAgain': WHATEVER THE INPUT: true; the input reads as it did. -/
def fuseAgainSpec : ChangeSpec := { name := "fuseAgain", fn := fun _ => fun
  | [d] => { results := [.lit (.bool true)], args := [d] }
  | _ => none }
def fuseAgainRow : OpenClaim := { program := "ytkdodmdcmakdgaagreat", sum := "1ffae6d470fc4a4788b0c6655a9a2120f129efbb2cefc756f807043b68b73397", func := "lathe/lathelaw22.FuseAgain", spec := "fuseAgain", inPlace := ["internal/bytealg.IndexByteString"], unfollowed := true, recurses := true, apart := false }
def FuseAgainSaid : Prop := fuseAgainRow.holds Tryz.pinned (OpenSpec.ofChange fuseAgainSpec)

/-- ITS FALSE NEIGHBOUR: 'it returns false'. Refute it at one input. -/
def fuseAgainWrong : ChangeSpec := { name := "fuseAgain", fn := fun _ => fun
  | [d] => { results := [.lit (.bool false)], args := [d] }
  | _ => none }
def FuseAgainWrongFalsely : Prop := fuseAgainRow.holds Tryz.pinned (OpenSpec.ofChange fuseAgainWrong)

/-- 'lathelaw22.FuseLong': WHATEVER THE INPUT: true; the input reads as it did. -/
def fuseLongSpec : ChangeSpec := { name := "fuseLong", fn := fun _ => fun
  | [d] => { results := [.lit (.bool true)], args := [d] }
  | _ => none }
def fuseLongRow : OpenClaim := { program := "ytkdodmdcmakdgaagreat", sum := "1ffae6d470fc4a4788b0c6655a9a2120f129efbb2cefc756f807043b68b73397", func := "lathe/lathelaw22.FuseLong", spec := "fuseLong", inPlace := ["internal/bytealg.IndexByteString"], unfollowed := true, recurses := true, apart := false }
def FuseLongSaid : Prop := fuseLongRow.holds Tryz.pinned (OpenSpec.ofChange fuseLongSpec)

/-- ITS FALSE NEIGHBOUR: 'it returns false'. Refute it at one input. -/
def fuseLongWrong : ChangeSpec := { name := "fuseLong", fn := fun _ => fun
  | [d] => { results := [.lit (.bool false)], args := [d] }
  | _ => none }
def FuseLongWrongFalsely : Prop := fuseLongRow.holds Tryz.pinned (OpenSpec.ofChange fuseLongWrong)

/- THE SECOND FORM. 'bulk': how many values and letters a reading holds, each counted each time it is reached (what is shared counts as often as it is met; a slice's spare places count too). A statement '..UptoSaid' is the law's where the arguments, and the package variables that the reading takes, are together of bulk at most 1048576: NARROWER than '..Said'. Prove '..Said' where nothing that the law and all that it calls make is longer than what came in: it says more and counts as full. Else prove '..UptoSaid'. A law counts once. -/
mutual
def uptoBulk {H : Type} : DataW H → Nat
  | .lit (.string bytes) => bytes.length + 1
  | .lit _ => 1
  | .nil => 1
  | .ptr d => uptoBulk d + 1
  | .slice elems spare => uptoBulkAll elems + uptoBulkAll spare + 1
  | .agg parts => uptoBulkAll parts + 1
  | .iface _ d => uptoBulk d + 1
  | .map entries => uptoBulkEntries entries + 1
  | .held _ => 1
def uptoBulkAll {H : Type} : List (DataW H) → Nat
  | [] => 0
  | d :: r => uptoBulk d + uptoBulkAll r
def uptoBulkEntries {H : Type} : List (Lit × DataW H) → Nat
  | [] => 0
  | x :: r => uptoBulkEntry x + uptoBulkEntries r
def uptoBulkEntry {H : Type} : Lit × DataW H → Nat
  | (.string bytes, d) => bytes.length + uptoBulk d + 1
  | (_, d) => uptoBulk d + 1
 end
def uptoSmall : (H : Type) → List (DataW H) → Bool := fun _ ds => decide (uptoBulkAll ds ≤ 1048576)
def OpenSpec.upto (s : _root_.Go.ChangeSpec) : _root_.Go.OpenSpec := { _root_.Go.OpenSpec.ofChange s with cond := some uptoSmall }

/-- 'lathelaw22.FuseForms', WHERE WHAT IT READS IS OF BULK AT MOST 1048576: true; the input reads as it did. -/
def fuseFormsUptoRow : OpenClaim := { program := "ytkdodmdcmakdgaagreat", sum := "1ffae6d470fc4a4788b0c6655a9a2120f129efbb2cefc756f807043b68b73397", func := "lathe/lathelaw22.FuseForms", spec := "fuseForms", inPlace := ["internal/bytealg.IndexByteString"], unfollowed := true, recurses := true, apart := false, narrowed := true }
def FuseFormsUptoSaid : Prop := fuseFormsUptoRow.holds Tryz.pinned (OpenSpec.upto fuseFormsSpec)

/-- 'lathelaw22.FuseMeans', WHERE WHAT IT READS IS OF BULK AT MOST 1048576: true; the input reads as it did. -/
def fuseMeansUptoRow : OpenClaim := { program := "ytkdodmdcmakdgaagreat", sum := "1ffae6d470fc4a4788b0c6655a9a2120f129efbb2cefc756f807043b68b73397", func := "lathe/lathelaw22.FuseMeans", spec := "fuseMeans", inPlace := ["internal/bytealg.IndexByteString"], unfollowed := true, recurses := true, apart := false, narrowed := true }
def FuseMeansUptoSaid : Prop := fuseMeansUptoRow.holds Tryz.pinned (OpenSpec.upto fuseMeansSpec)

/-- 'lathelaw22.FuseLoops', WHERE WHAT IT READS IS OF BULK AT MOST 1048576: true; the input reads as it did. -/
def fuseLoopsUptoRow : OpenClaim := { program := "ytkdodmdcmakdgaagreat", sum := "1ffae6d470fc4a4788b0c6655a9a2120f129efbb2cefc756f807043b68b73397", func := "lathe/lathelaw22.FuseLoops", spec := "fuseLoops", inPlace := ["internal/bytealg.IndexByteString"], unfollowed := true, recurses := true, apart := false, narrowed := true }
def FuseLoopsUptoSaid : Prop := fuseLoopsUptoRow.holds Tryz.pinned (OpenSpec.upto fuseLoopsSpec)

/-- 'lathelaw22.FuseAgain', WHERE WHAT IT READS IS OF BULK AT MOST 1048576: true; the input reads as it did. -/
def fuseAgainUptoRow : OpenClaim := { program := "ytkdodmdcmakdgaagreat", sum := "1ffae6d470fc4a4788b0c6655a9a2120f129efbb2cefc756f807043b68b73397", func := "lathe/lathelaw22.FuseAgain", spec := "fuseAgain", inPlace := ["internal/bytealg.IndexByteString"], unfollowed := true, recurses := true, apart := false, narrowed := true }
def FuseAgainUptoSaid : Prop := fuseAgainUptoRow.holds Tryz.pinned (OpenSpec.upto fuseAgainSpec)

/-- 'lathelaw22.FuseLong', WHERE WHAT IT READS IS OF BULK AT MOST 1048576: true; the input reads as it did. -/
def fuseLongUptoRow : OpenClaim := { program := "ytkdodmdcmakdgaagreat", sum := "1ffae6d470fc4a4788b0c6655a9a2120f129efbb2cefc756f807043b68b73397", func := "lathe/lathelaw22.FuseLong", spec := "fuseLong", inPlace := ["internal/bytealg.IndexByteString"], unfollowed := true, recurses := true, apart := false, narrowed := true }
def FuseLongUptoSaid : Prop := fuseLongUptoRow.holds Tryz.pinned (OpenSpec.upto fuseLongSpec)

end Rows
end Go.Proofs.YtkdodmdcmakdgaaGreat
