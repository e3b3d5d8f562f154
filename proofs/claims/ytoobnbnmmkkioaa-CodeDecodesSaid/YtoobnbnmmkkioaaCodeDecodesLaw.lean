/- The statement CodeDecodes of the seat, out of what its function answers (the weave) and the plain law. -/
import Derived.Test.YtoobnbnmmkkioaaRows
import Derived.Test.YtoobnbnmmkkioaaCodeDecodesPure
import Derived.JoinedOf
namespace Go.Proofs.Ytoobnbnmmkkioaa.codeDecodes
open Go.ChangeShapes Go.WideShapes Go.RowKit Loom
set_option linter.unusedVariables false
set_option maxRecDepth 100000
theorem own : ownKnob Try.prog.godebug = none := by kernel_rfl
theorem laidOut : laidOutB Try.prog = true := by kernel_rfl
theorem answers (cs : List (List AV)) (h : OfArgs RSaid [y_str] cs) : CallG Try.prog 5 (argsOf [y_str] cs) [] (Bl true) [] := by
  obtain ⟨_, _, rfl, h0, h⟩ := h
  obtain ⟨x0, b0, rfl⟩ := r_str h0
  obtain rfl := h
  obtain ⟨n, hn⟩ := pureCodeDecodes x0 b0
  exact ((k233 n).ok x0 true hn).2
theorem lifted (os : Os) (started : os.Started) (H : Type) (enc : TypeId × Value → H) :
    ReturnsInHanded {} Try.checked os 5 .any (Rows.codeDecodesSpec.pre6 enc Try.prog Try.f5 Rows.codeDecodesRow.domain false) (Rows.codeDecodesSpec.post enc Try.prog Try.f5 false true false false) :=
  row_of (C := Try.checked) (ts := [9]) [y_str] 4 started own (by kernel_rfl) Try.func5
    (ChangeSpec.witness6 (enc := enc) (C := Try.checked) false ⟨#[], #[.string ByteArray.empty], []⟩ 8 (by kernel_rfl) (by kernel_rfl) (by kernel_rfl) (by kernel_rfl))
    laidOut (by kernel_rfl) (by kernel_rfl) Try.underlying4 (by kernel_rfl) rfl
    (fun ds h => by match ds, h with | [d0], _ => rfl) answers
theorem over : Rows.codeDecodesRow.holds Try.pinned (OpenSpec.ofChange Rows.codeDecodesSpec) :=
  OpenClaim.holds_of_wide 5 Try.f5 rfl rfl rfl rfl rfl rfl rfl ⟨rfl, rfl, rfl, rfl, rfl⟩ rfl rfl rfl rfl rfl (by kernel_rfl) Try.func5 (by kernel_rfl)
    (of_decide_eq_true (by kernel_rfl)) (by unfold Func.isWrapper; first | (rw [if_pos (by decide +kernel)]; kernel_rfl) | (rw [if_neg (by decide +kernel)]; exact ⟨rfl, rfl⟩))
    (fun os started H enc _ => lifted os started H enc)
theorem proved : Rows.CodeDecodesSaid := over
#print axioms proved
end Go.Proofs.Ytoobnbnmmkkioaa.codeDecodes
namespace Go.Proofs.Ytoobnbnmmkkioaa
/-- The statement, under a short name, for the claim. -/
theorem codeDecodes_holds : Rows.CodeDecodesSaid := codeDecodes.proved
end Go.Proofs.Ytoobnbnmmkkioaa
