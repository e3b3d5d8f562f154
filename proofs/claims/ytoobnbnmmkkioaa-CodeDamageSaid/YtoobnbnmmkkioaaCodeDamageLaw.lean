/- The statement CodeDamage of the seat, out of what its function answers (the weave) and the plain law. -/
import Derived.Test.YtoobnbnmmkkioaaRows
import Derived.Test.YtoobnbnmmkkioaaCodeDamagePure
import Derived.JoinedOf
namespace Go.Proofs.Ytoobnbnmmkkioaa.codeDamage
open Go.ChangeShapes Go.WideShapes Go.RowKit Loom
set_option linter.unusedVariables false
set_option maxRecDepth 100000
theorem own : ownKnob Try.prog.godebug = none := by kernel_rfl
theorem laidOut : laidOutB Try.prog = true := by kernel_rfl
theorem answers (cs : List (List AV)) (h : OfArgs RSaid [y_T_api_Code, y_T_lathelaw24_Harm] cs) : CallG Try.prog 8 (argsOf [y_T_api_Code, y_T_lathelaw24_Harm] cs) [] (Bl true) [] := by
  obtain ⟨_, _, rfl, h0, h⟩ := h
  obtain ⟨x0, b0, rfl⟩ := r_T_api_Code h0
  obtain ⟨_, _, rfl, h1, h⟩ := h
  obtain ⟨x1, b1, rfl⟩ := r_T_lathelaw24_Harm h1
  obtain rfl := h
  obtain ⟨n, hn⟩ := pureCodeDamage x0 x1 b0 b1
  exact ((k236 n).ok (x0, x1) true hn).2
theorem lifted (os : Os) (started : os.Started) (H : Type) (enc : TypeId × Value → H) :
    ReturnsInHanded {} Try.checked os 8 .any (Rows.codeDamageSpec.pre6 enc Try.prog Try.f8 Rows.codeDamageRow.domain false) (Rows.codeDamageSpec.post enc Try.prog Try.f8 false true false false) :=
  row_of (C := Try.checked) (ts := [27, 50]) [y_T_api_Code, y_T_lathelaw24_Harm] 4 started own (by kernel_rfl) Try.func8
    (ChangeSpec.witness6 (enc := enc) (C := Try.checked) false ⟨#[], #[.agg #[.slice none 0 0, .slice none 0 0, .slice none 0 0, .slice none 0 0], .agg #[.bool false, .int .i64 0, .int .u64 0]], []⟩ 8 (by kernel_rfl) (by kernel_rfl) (by kernel_rfl) (by kernel_rfl))
    laidOut (by kernel_rfl) (by kernel_rfl) Try.underlying4 (by kernel_rfl) rfl
    (fun ds h => by match ds, h with | [d0, d1], _ => rfl) answers
theorem over : Rows.codeDamageRow.holds Try.pinned (OpenSpec.ofChange Rows.codeDamageSpec) :=
  OpenClaim.holds_of_wide 8 Try.f8 rfl rfl rfl rfl rfl rfl rfl ⟨rfl, rfl, rfl, rfl, rfl⟩ rfl rfl rfl rfl rfl (by kernel_rfl) Try.func8 (by kernel_rfl)
    (of_decide_eq_true (by kernel_rfl)) (by unfold Func.isWrapper; first | (rw [if_pos (by decide +kernel)]; kernel_rfl) | (rw [if_neg (by decide +kernel)]; exact ⟨rfl, rfl⟩))
    (fun os started H enc _ => lifted os started H enc)
theorem proved : Rows.CodeDamageSaid := over
#print axioms proved
end Go.Proofs.Ytoobnbnmmkkioaa.codeDamage
namespace Go.Proofs.Ytoobnbnmmkkioaa
/-- The statement, under a short name, for the claim. -/
theorem codeDamage_holds : Rows.CodeDamageSaid := codeDamage.proved
end Go.Proofs.Ytoobnbnmmkkioaa
