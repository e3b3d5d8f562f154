/- The statement VerifyCosts of the seat, out of what its function answers (the weave) and the plain law. -/
import Derived.Test.YtkmiaggdcepcdaaRows
import Derived.Test.YtkmiaggdcepcdaaVerifyCostsPure
import Derived.JoinedOf
namespace Go.Proofs.Ytkmiaggdcepcdaa.verifyCosts
open Go.ChangeShapes Go.WideShapes Go.RowKit Loom
set_option linter.unusedVariables false
set_option maxRecDepth 100000
theorem own : ownKnob Try.prog.godebug = none := by kernel_rfl
theorem laidOut : laidOutB Try.prog = true := by kernel_rfl
theorem answers (cs : List (List AV)) (h : OfArgs RSaid [y_T_api_Code, y_i64] cs) : CallG Try.prog 3 (argsOf [y_T_api_Code, y_i64] cs) [] (Bl true) [] := by
  obtain ⟨_, _, rfl, h0, h⟩ := h
  obtain ⟨x0, b0, rfl⟩ := r_T_api_Code h0
  obtain ⟨_, _, rfl, h1, h⟩ := h
  obtain ⟨x1, b1, rfl⟩ := r_i64 h1
  obtain rfl := h
  obtain ⟨n, hn⟩ := pureVerifyCosts x0 x1 b0 b1
  exact ((k100 n).ok (x0, x1) true hn).2
theorem lifted (os : Os) (started : os.Started) (H : Type) (enc : TypeId × Value → H) :
    ReturnsInHanded {} Try.checked os 3 .any (Rows.verifyCostsSpec.pre6 enc Try.prog Try.f3 Rows.verifyCostsRow.domain false) (Rows.verifyCostsSpec.post enc Try.prog Try.f3 false true false false) :=
  row_of (C := Try.checked) (ts := [27, 3]) [y_T_api_Code, y_i64] 4 started own (by kernel_rfl) Try.func3
    (ChangeSpec.witness6 (enc := enc) (C := Try.checked) false ⟨#[], #[.agg #[.slice none 0 0, .slice none 0 0, .slice none 0 0, .slice none 0 0], .int .i64 0], []⟩ 8 (by kernel_rfl) (by kernel_rfl) (by kernel_rfl) (by kernel_rfl))
    laidOut (by kernel_rfl) (by kernel_rfl) Try.underlying4 (by kernel_rfl) rfl
    (fun ds h => by match ds, h with | [d0, d1], _ => rfl) answers
theorem over : Rows.verifyCostsRow.holds Try.pinned (OpenSpec.ofChange Rows.verifyCostsSpec) :=
  OpenClaim.holds_of_wide 3 Try.f3 rfl rfl rfl rfl rfl rfl rfl ⟨rfl, rfl, rfl, rfl, rfl⟩ rfl rfl rfl rfl rfl (by kernel_rfl) Try.func3 (by kernel_rfl)
    (of_decide_eq_true (by kernel_rfl)) (by unfold Func.isWrapper; first | (rw [if_pos (by decide +kernel)]; kernel_rfl) | (rw [if_neg (by decide +kernel)]; exact ⟨rfl, rfl⟩))
    (fun os started H enc _ => lifted os started H enc)
theorem proved : Rows.VerifyCostsSaid := over
#print axioms proved
end Go.Proofs.Ytkmiaggdcepcdaa.verifyCosts
namespace Go.Proofs.Ytkmiaggdcepcdaa
/-- The statement, under a short name, for the claim. -/
theorem verifyCosts_holds : Rows.VerifyCostsSaid := verifyCosts.proved
end Go.Proofs.Ytkmiaggdcepcdaa
