/- The statement CodeBack of the seat, out of what its function answers (the weave) and the plain law. -/
import Derived.Test.YtoobnbnmmkkioaaRows
import Derived.Test.YtoobnbnmmkkioaaCodeBackPure
import Derived.JoinedOf
namespace Go.Proofs.Ytoobnbnmmkkioaa.codeBack
open Go.ChangeShapes Go.WideShapes Go.RowKit Loom
set_option linter.unusedVariables false
set_option maxRecDepth 100000
theorem own : ownKnob Try.prog.godebug = none := by kernel_rfl
theorem laidOut : laidOutB Try.prog = true := by kernel_rfl
theorem answers (cs : List (List AV)) (h : OfArgs RSaid [y_T_api_Code, y_str] cs) : CallG Try.prog 7 (argsOf [y_T_api_Code, y_str] cs) [] (Bl true) [] := by
  obtain ⟨_, _, rfl, h0, h⟩ := h
  obtain ⟨x0, b0, rfl⟩ := r_T_api_Code h0
  obtain ⟨_, _, rfl, h1, h⟩ := h
  obtain ⟨x1, b1, rfl⟩ := r_str h1
  obtain rfl := h
  obtain ⟨n, hn⟩ := pureCodeBack x0 x1 b0 b1
  exact ((k235 n).ok (x0, x1) true hn).2
theorem lifted (os : Os) (started : os.Started) (H : Type) (enc : TypeId × Value → H) :
    ReturnsInHanded {} Try.checked os 7 .any (Rows.codeBackSpec.pre6 enc Try.prog Try.f7 Rows.codeBackRow.domain false) (Rows.codeBackSpec.post enc Try.prog Try.f7 false true false false) :=
  row_of (C := Try.checked) (ts := [27, 9]) [y_T_api_Code, y_str] 4 started own (by kernel_rfl) Try.func7
    (ChangeSpec.witness6 (enc := enc) (C := Try.checked) false ⟨#[], #[.agg #[.slice none 0 0, .slice none 0 0, .slice none 0 0, .slice none 0 0], .string ByteArray.empty], []⟩ 8 (by kernel_rfl) (by kernel_rfl) (by kernel_rfl) (by kernel_rfl))
    laidOut (by kernel_rfl) (by kernel_rfl) Try.underlying4 (by kernel_rfl) rfl
    (fun ds h => by match ds, h with | [d0, d1], _ => rfl) answers
theorem over : Rows.codeBackRow.holds Try.pinned (OpenSpec.ofChange Rows.codeBackSpec) :=
  OpenClaim.holds_of_wide 7 Try.f7 rfl rfl rfl rfl rfl rfl rfl ⟨rfl, rfl, rfl, rfl, rfl⟩ rfl rfl rfl rfl rfl (by kernel_rfl) Try.func7 (by kernel_rfl)
    (of_decide_eq_true (by kernel_rfl)) (by unfold Func.isWrapper; first | (rw [if_pos (by decide +kernel)]; kernel_rfl) | (rw [if_neg (by decide +kernel)]; exact ⟨rfl, rfl⟩))
    (fun os started H enc _ => lifted os started H enc)
theorem proved : Rows.CodeBackSaid := over
#print axioms proved
end Go.Proofs.Ytoobnbnmmkkioaa.codeBack
namespace Go.Proofs.Ytoobnbnmmkkioaa
/-- The statement, under a short name, for the claim. -/
theorem codeBack_holds : Rows.CodeBackSaid := codeBack.proved
end Go.Proofs.Ytoobnbnmmkkioaa
