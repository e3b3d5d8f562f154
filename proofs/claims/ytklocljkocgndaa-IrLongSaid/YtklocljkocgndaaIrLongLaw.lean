/- The statement IrLong of the seat, out of what its function answers (the weave) and the plain law. -/
import Derived.Test.YtklocljkocgndaaRows
import Derived.Test.YtklocljkocgndaaIrLongPure
import Derived.JoinedOf
namespace Go.Proofs.Ytklocljkocgndaa.irLong
open Go.ChangeShapes Go.WideShapes Go.RowKit Loom
set_option linter.unusedVariables false
set_option maxRecDepth 100000
theorem own : ownKnob Try.prog.godebug = none := by kernel_rfl
theorem laidOut : laidOutB Try.prog = true := by kernel_rfl
theorem answers (cs : List (List AV)) (h : OfArgs [y_T_lathelaw16_Long] cs) : CallG Try.prog 6 (argsOf [y_T_lathelaw16_Long] cs) [] (Bl true) [] := by
  obtain ⟨_, _, rfl, h0, h⟩ := h
  obtain ⟨x0, b0, rfl⟩ := r_T_lathelaw16_Long h0
  obtain rfl := h
  obtain ⟨n, hn⟩ := pureIrLong x0 b0
  exact ((k6 n).ok x0 true hn).2
theorem lifted (os : Os) (started : os.Started) (H : Type) (enc : TypeId × Value → H) :
    ReturnsInHanded {} Try.checked os 6 .any (Rows.irLongSpec.pre6 enc Try.prog Try.f6 Rows.irLongRow.domain false) (Rows.irLongSpec.post enc Try.prog Try.f6 false true false false) :=
  row_of (C := Try.checked) (ts := [45]) [y_T_lathelaw16_Long] 4 started own (by kernel_rfl) Try.func6
    (ChangeSpec.witness6 (enc := enc) (C := Try.checked) false ⟨#[], #[.agg #[.int .i64 0, .int .i64 0, .int .i64 0]], []⟩ 8 (by kernel_rfl) (by kernel_rfl) (by kernel_rfl) (by kernel_rfl))
    laidOut (by kernel_rfl) (by kernel_rfl) Try.underlying4 (by kernel_rfl) rfl
    (fun ds h => by match ds, h with | [d0], _ => rfl) answers
theorem over : Rows.irLongRow.holds Try.pinned (OpenSpec.ofChange Rows.irLongSpec) :=
  OpenClaim.holds_of_wide 6 Try.f6 rfl rfl rfl rfl rfl rfl rfl ⟨rfl, rfl, rfl, rfl, rfl⟩ rfl rfl rfl rfl rfl (by kernel_rfl) Try.func6 (by kernel_rfl)
    (of_decide_eq_true (by kernel_rfl)) (by unfold Func.isWrapper; first | (rw [if_pos (by decide +kernel)]; kernel_rfl) | (rw [if_neg (by decide +kernel)]; exact ⟨rfl, rfl⟩))
    (fun os started H enc _ => lifted os started H enc)
theorem proved : Rows.IrLongSaid := over
#print axioms proved
end Go.Proofs.Ytklocljkocgndaa.irLong
namespace Go.Proofs.Ytklocljkocgndaa
/-- The statement, under a short name, for the claim. -/
theorem irLong_holds : Rows.IrLongSaid := irLong.proved
end Go.Proofs.Ytklocljkocgndaa
