/- The statement CodeOwn of the seat, out of what its function answers (the weave) and the plain law. -/
import Derived.Test.YtoobnbnmmkkioaaRows
import Derived.Test.YtoobnbnmmkkioaaCodeOwnPure
import Derived.JoinedOf
namespace Go.Proofs.Ytoobnbnmmkkioaa.codeOwn
open Go.ChangeShapes Go.WideShapes Go.RowKit Loom
set_option linter.unusedVariables false
set_option maxRecDepth 100000
theorem own : ownKnob Try.prog.godebug = none := by kernel_rfl
theorem laidOut : laidOutB Try.prog = true := by kernel_rfl
theorem answers (cs : List (List AV)) (h : OfArgs RSaid [y_T_api_Code] cs) : CallG Try.prog 9 (argsOf [y_T_api_Code] cs) [] (Bl true) [] := by
  obtain ⟨_, _, rfl, h0, h⟩ := h
  obtain ⟨x0, b0, rfl⟩ := r_T_api_Code h0
  obtain rfl := h
  obtain ⟨n, hn⟩ := pureCodeOwn x0 b0
  exact ((k237 n).ok x0 true hn).2
theorem lifted (os : Os) (started : os.Started) (H : Type) (enc : TypeId × Value → H) :
    ReturnsInHanded {} Try.checked os 9 .any (Rows.codeOwnSpec.pre6 enc Try.prog Try.f9 Rows.codeOwnRow.domain false) (Rows.codeOwnSpec.post enc Try.prog Try.f9 false true false false) :=
  row_of (C := Try.checked) (ts := [27]) [y_T_api_Code] 4 started own (by kernel_rfl) Try.func9
    (ChangeSpec.witness6 (enc := enc) (C := Try.checked) false ⟨#[], #[.agg #[.slice none 0 0, .slice none 0 0, .slice none 0 0, .slice none 0 0]], []⟩ 8 (by kernel_rfl) (by kernel_rfl) (by kernel_rfl) (by kernel_rfl))
    laidOut (by kernel_rfl) (by kernel_rfl) Try.underlying4 (by kernel_rfl) rfl
    (fun ds h => by match ds, h with | [d0], _ => rfl) answers
theorem over : Rows.codeOwnRow.holds Try.pinned (OpenSpec.ofChange Rows.codeOwnSpec) :=
  OpenClaim.holds_of_wide 9 Try.f9 rfl rfl rfl rfl rfl rfl rfl ⟨rfl, rfl, rfl, rfl, rfl⟩ rfl rfl rfl rfl rfl (by kernel_rfl) Try.func9 (by kernel_rfl)
    (of_decide_eq_true (by kernel_rfl)) (by unfold Func.isWrapper; first | (rw [if_pos (by decide +kernel)]; kernel_rfl) | (rw [if_neg (by decide +kernel)]; exact ⟨rfl, rfl⟩))
    (fun os started H enc _ => lifted os started H enc)
theorem proved : Rows.CodeOwnSaid := over
#print axioms proved
end Go.Proofs.Ytoobnbnmmkkioaa.codeOwn
namespace Go.Proofs.Ytoobnbnmmkkioaa
/-- The statement, under a short name, for the claim. -/
theorem codeOwn_holds : Rows.CodeOwnSaid := codeOwn.proved
end Go.Proofs.Ytoobnbnmmkkioaa
