/- The statement IrRows of the seat, out of what its function answers (the weave) and the plain law. -/
import Derived.Test.YtklocljkocgndaaRows
import Derived.Test.YtklocljkocgndaaIrRowsPure
import Derived.JoinedOf
namespace Go.Proofs.Ytklocljkocgndaa.irRows
open Go.ChangeShapes Go.WideShapes Go.RowKit Loom
set_option linter.unusedVariables false
set_option maxRecDepth 100000
theorem own : ownKnob Try.prog.godebug = none := by kernel_rfl
theorem laidOut : laidOutB Try.prog = true := by kernel_rfl
theorem answers (cs : List (List AV)) (h : OfArgs [y_T_api_Inst] cs) : CallG Try.prog 3 (argsOf [y_T_api_Inst] cs) [] (Bl true) [] := by
  obtain ⟨_, _, rfl, h0, h⟩ := h
  obtain ⟨x0, b0, rfl⟩ := r_T_api_Inst h0
  obtain rfl := h
  obtain ⟨n, hn⟩ := pureIrRows x0 b0
  exact (g3_ok n x0 true hn).toG
theorem lifted (os : Os) (started : os.Started) (H : Type) (enc : TypeId × Value → H) :
    ReturnsInHanded {} Try.checked os 3 .any (Rows.irRowsSpec.pre6 enc Try.prog Try.f3 Rows.irRowsRow.domain false) (Rows.irRowsSpec.post enc Try.prog Try.f3 false true false false) :=
  row_of (C := Try.checked) (ts := [25]) [y_T_api_Inst] 4 started own (by kernel_rfl) Try.func3
    (ChangeSpec.witness6 (enc := enc) (C := Try.checked) false ⟨#[], #[.agg #[.int .i64 0, .int .i64 0, .int .i64 0, .int .i64 0, .int .i64 0, .int .i64 0, .int .u32 0]], []⟩ 8 (by kernel_rfl) (by kernel_rfl) (by kernel_rfl) (by kernel_rfl))
    laidOut (by kernel_rfl) (by kernel_rfl) Try.underlying4 (by kernel_rfl) rfl
    (fun ds h => by match ds, h with | [d0], _ => rfl) answers
theorem over : Rows.irRowsRow.holds Try.pinned (OpenSpec.ofChange Rows.irRowsSpec) :=
  OpenClaim.holds_of_wide 3 Try.f3 rfl rfl rfl rfl rfl rfl rfl ⟨rfl, rfl, rfl, rfl, rfl⟩ rfl rfl rfl rfl rfl (by kernel_rfl) Try.func3 (by kernel_rfl)
    (of_decide_eq_true (by kernel_rfl)) (by unfold Func.isWrapper; first | (rw [if_pos (by decide +kernel)]; kernel_rfl) | (rw [if_neg (by decide +kernel)]; exact ⟨rfl, rfl⟩))
    (fun os started H enc _ => lifted os started H enc)
theorem proved : Rows.IrRowsSaid := over
#print axioms proved
end Go.Proofs.Ytklocljkocgndaa.irRows
namespace Go.Proofs.Ytklocljkocgndaa
/-- The statement, under a short name, for the claim. -/
theorem irRows_holds : Rows.IrRowsSaid := irRows.proved
end Go.Proofs.Ytklocljkocgndaa
