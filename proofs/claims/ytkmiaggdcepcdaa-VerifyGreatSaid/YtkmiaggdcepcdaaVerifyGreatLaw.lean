/- The statement VerifyGreat of the seat, out of what its function answers (the weave) and the plain law. -/
import Derived.Test.YtkmiaggdcepcdaaRows
import Derived.Test.YtkmiaggdcepcdaaVerifyGreatPure
import Derived.JoinedOf
namespace Go.Proofs.Ytkmiaggdcepcdaa.verifyGreat
open Go.ChangeShapes Go.WideShapes Go.RowKit Loom
set_option linter.unusedVariables false
set_option maxRecDepth 100000
theorem own : ownKnob Try.prog.godebug = none := by kernel_rfl
theorem laidOut : laidOutB Try.prog = true := by kernel_rfl
theorem answers (cs : List (List AV)) (h : OfArgs RSaid [y_T_lathelaw26_Great] cs) : CallG Try.prog 5 (argsOf [y_T_lathelaw26_Great] cs) [] (Bl true) [] := by
  obtain ⟨_, _, rfl, h0, h⟩ := h
  obtain ⟨x0, b0, rfl⟩ := r_T_lathelaw26_Great h0
  obtain rfl := h
  obtain ⟨n, hn⟩ := pureVerifyGreat x0 b0
  exact ((k116 n).ok x0 true hn).2
theorem lifted (os : Os) (started : os.Started) (H : Type) (enc : TypeId × Value → H) :
    ReturnsInHanded {} Try.checked os 5 .any (Rows.verifyGreatSpec.pre6 enc Try.prog Try.f5 Rows.verifyGreatRow.domain false) (Rows.verifyGreatSpec.post enc Try.prog Try.f5 false true false false) :=
  row_of (C := Try.checked) (ts := [43]) [y_T_lathelaw26_Great] 4 started own (by kernel_rfl) Try.func5
    (ChangeSpec.witness6 (enc := enc) (C := Try.checked) false ⟨#[], #[.agg #[.int .i64 0, .int .i64 0, .int .i64 0, .int .i64 0, .int .i64 0]], []⟩ 8 (by kernel_rfl) (by kernel_rfl) (by kernel_rfl) (by kernel_rfl))
    laidOut (by kernel_rfl) (by kernel_rfl) Try.underlying4 (by kernel_rfl) rfl
    (fun ds h => by match ds, h with | [d0], _ => rfl) answers
theorem over : Rows.verifyGreatRow.holds Try.pinned (OpenSpec.ofChange Rows.verifyGreatSpec) :=
  OpenClaim.holds_of_wide 5 Try.f5 rfl rfl rfl rfl rfl rfl rfl ⟨rfl, rfl, rfl, rfl, rfl⟩ rfl rfl rfl rfl rfl (by kernel_rfl) Try.func5 (by kernel_rfl)
    (of_decide_eq_true (by kernel_rfl)) (by unfold Func.isWrapper; first | (rw [if_pos (by decide +kernel)]; kernel_rfl) | (rw [if_neg (by decide +kernel)]; exact ⟨rfl, rfl⟩))
    (fun os started H enc _ => lifted os started H enc)
theorem proved : Rows.VerifyGreatSaid := over
#print axioms proved
end Go.Proofs.Ytkmiaggdcepcdaa.verifyGreat
namespace Go.Proofs.Ytkmiaggdcepcdaa
/-- The statement, under a short name, for the claim. -/
theorem verifyGreat_holds : Rows.VerifyGreatSaid := verifyGreat.proved
end Go.Proofs.Ytkmiaggdcepcdaa
