/- The statement IrEqual of the seat, out of what its function answers (the weave) and the plain law. -/
import Derived.Test.YtklocljkocgndaaRows
import Derived.Test.YtklocljkocgndaaIrEqualPure
import Derived.JoinedOf
namespace Go.Proofs.Ytklocljkocgndaa.irEqual
open Go.ChangeShapes Go.WideShapes Go.RowKit Loom
set_option linter.unusedVariables false
set_option maxRecDepth 100000
theorem own : ownKnob Try.prog.godebug = none := by kernel_rfl
theorem laidOut : laidOutB Try.prog = true := by kernel_rfl
theorem answers (cs : List (List AV)) (h : OfArgs [y_T_api_Code, y_T_api_Code] cs) : CallG Try.prog 7 (argsOf [y_T_api_Code, y_T_api_Code] cs) [] (Bl true) [] := by
  obtain ⟨_, _, rfl, h0, h⟩ := h
  obtain ⟨x0, b0, rfl⟩ := r_T_api_Code h0
  obtain ⟨_, _, rfl, h1, h⟩ := h
  obtain ⟨x1, b1, rfl⟩ := r_T_api_Code h1
  obtain rfl := h
  obtain ⟨n, hn⟩ := pureIrEqual x0 x1 b0 b1
  exact (g7_ok n x0 x1 true hn).toG
theorem lifted (os : Os) (started : os.Started) (H : Type) (enc : TypeId × Value → H) :
    ReturnsInHanded {} Try.checked os 7 .any (Rows.irEqualSpec.pre6 enc Try.prog Try.f7 Rows.irEqualRow.domain false) (Rows.irEqualSpec.post enc Try.prog Try.f7 false true false false) :=
  row_of (C := Try.checked) (ts := [36, 36]) [y_T_api_Code, y_T_api_Code] 4 started own (by kernel_rfl) Try.func7
    (ChangeSpec.witness6 (enc := enc) (C := Try.checked) false ⟨#[], #[.agg #[.slice none 0 0, .slice none 0 0, .slice none 0 0, .slice none 0 0], .agg #[.slice none 0 0, .slice none 0 0, .slice none 0 0, .slice none 0 0]], []⟩ 8 (by kernel_rfl) (by kernel_rfl) (by kernel_rfl) (by kernel_rfl))
    laidOut (by kernel_rfl) (by kernel_rfl) Try.underlying4 (by kernel_rfl) rfl
    (fun ds h => by match ds, h with | [d0, d1], _ => rfl) answers
theorem over : Rows.irEqualRow.holds Try.pinned (OpenSpec.ofChange Rows.irEqualSpec) :=
  OpenClaim.holds_of_wide 7 Try.f7 rfl rfl rfl rfl rfl rfl rfl ⟨rfl, rfl, rfl, rfl, rfl⟩ rfl rfl rfl rfl rfl (by kernel_rfl) Try.func7 (by kernel_rfl)
    (of_decide_eq_true (by kernel_rfl)) (by unfold Func.isWrapper; first | (rw [if_pos (by decide +kernel)]; kernel_rfl) | (rw [if_neg (by decide +kernel)]; exact ⟨rfl, rfl⟩))
    (fun os started H enc _ => lifted os started H enc)
theorem proved : Rows.IrEqualSaid := over
#print axioms proved
end Go.Proofs.Ytklocljkocgndaa.irEqual
namespace Go.Proofs.Ytklocljkocgndaa
/-- The statement, under a short name, for the claim. -/
theorem irEqual_holds : Rows.IrEqualSaid := irEqual.proved
end Go.Proofs.Ytklocljkocgndaa
