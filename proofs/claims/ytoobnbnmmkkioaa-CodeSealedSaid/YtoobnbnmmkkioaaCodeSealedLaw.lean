/- The statement CodeSealed of the seat, out of what its function answers (the weave) and the plain law. -/
import Derived.Test.YtoobnbnmmkkioaaRows
import Derived.Test.YtoobnbnmmkkioaaCodeSealedPure
import Derived.JoinedOf
namespace Go.Proofs.Ytoobnbnmmkkioaa.codeSealed
open Go.ChangeShapes Go.WideShapes Go.RowKit Loom
set_option linter.unusedVariables false
set_option maxRecDepth 100000
theorem own : ownKnob Try.prog.godebug = none := by kernel_rfl
theorem laidOut : laidOutB Try.prog = true := by kernel_rfl
theorem answers (cs : List (List AV)) (h : OfArgs RSaid [y_str, y_str] cs) : CallG Try.prog 6 (argsOf [y_str, y_str] cs) [] (Bl true) [] := by
  obtain ⟨_, _, rfl, h0, h⟩ := h
  obtain ⟨x0, b0, rfl⟩ := r_str h0
  obtain ⟨_, _, rfl, h1, h⟩ := h
  obtain ⟨x1, b1, rfl⟩ := r_str h1
  obtain rfl := h
  obtain ⟨n, hn⟩ := pureCodeSealed x0 x1 b0 b1
  exact ((k234 n).ok (x0, x1) true hn).2
theorem lifted (os : Os) (started : os.Started) (H : Type) (enc : TypeId × Value → H) :
    ReturnsInHanded {} Try.checked os 6 .any (Rows.codeSealedSpec.pre6 enc Try.prog Try.f6 Rows.codeSealedRow.domain false) (Rows.codeSealedSpec.post enc Try.prog Try.f6 false true false false) :=
  row_of (C := Try.checked) (ts := [9, 9]) [y_str, y_str] 4 started own (by kernel_rfl) Try.func6
    (ChangeSpec.witness6 (enc := enc) (C := Try.checked) false ⟨#[], #[.string ByteArray.empty, .string ByteArray.empty], []⟩ 8 (by kernel_rfl) (by kernel_rfl) (by kernel_rfl) (by kernel_rfl))
    laidOut (by kernel_rfl) (by kernel_rfl) Try.underlying4 (by kernel_rfl) rfl
    (fun ds h => by match ds, h with | [d0, d1], _ => rfl) answers
theorem over : Rows.codeSealedRow.holds Try.pinned (OpenSpec.ofChange Rows.codeSealedSpec) :=
  OpenClaim.holds_of_wide 6 Try.f6 rfl rfl rfl rfl rfl rfl rfl ⟨rfl, rfl, rfl, rfl, rfl⟩ rfl rfl rfl rfl rfl (by kernel_rfl) Try.func6 (by kernel_rfl)
    (of_decide_eq_true (by kernel_rfl)) (by unfold Func.isWrapper; first | (rw [if_pos (by decide +kernel)]; kernel_rfl) | (rw [if_neg (by decide +kernel)]; exact ⟨rfl, rfl⟩))
    (fun os started H enc _ => lifted os started H enc)
theorem proved : Rows.CodeSealedSaid := over
#print axioms proved
end Go.Proofs.Ytoobnbnmmkkioaa.codeSealed
namespace Go.Proofs.Ytoobnbnmmkkioaa
/-- The statement, under a short name, for the claim. -/
theorem codeSealed_holds : Rows.CodeSealedSaid := codeSealed.proved
end Go.Proofs.Ytoobnbnmmkkioaa
