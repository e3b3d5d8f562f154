/- The statement ReuseAgain of the seat, out of what its function answers (the weave) and the plain law. -/
import Derived.Test.YtdnodicbedhdfaaGreatRows
import Derived.Test.YtdnodicbedhdfaaGreatReuseAgainPure
import Derived.JoinedOf
namespace Go.Proofs.YtdnodicbedhdfaaGreat.reuseAgain
open Go.ChangeShapes Go.WideShapes Go.RowKit Loom
set_option linter.unusedVariables false
set_option maxRecDepth 100000
theorem own : ownKnob Tryz.prog.godebug = none := by kernel_rfl
theorem laidOut : laidOutB Tryz.prog = true := by kernel_rfl
theorem answers (cs : List (List AV))(h : OfArgs RSaid [y_T_api_Code] cs) : CallG Tryz.prog 6 (argsOf [y_T_api_Code] cs) [] (Bl true) [] := by obtain ⟨_, _, rfl, h0, h⟩ := h;obtain ⟨x0, b0, rfl⟩ := r_T_api_Code h0;obtain rfl := h;obtain ⟨n, hn⟩ := pureReuseAgain x0 b0;exact ((k253 n).ok x0 true hn).2
theorem lifted (os : Os)(started : os.Started)(H : Type)(enc : TypeId × Value -> H) :
    ReturnsInHanded {} Tryz.checked os 6 .any (Rows.reuseAgainSpec.pre6 enc Tryz.prog Tryz.f6 Rows.reuseAgainRow.domain false) (Rows.reuseAgainSpec.post enc Tryz.prog Tryz.f6 false true false false) :=
  row_of (C := Tryz.checked) (ts := [27]) [y_T_api_Code] 4 started own (by kernel_rfl) Tryz.func6
    (ChangeSpec.witness6 (enc := enc) (C := Tryz.checked) false ⟨#[], #[.agg #[.slice none 0 0, .slice none 0 0, .slice none 0 0, .slice none 0 0]], []⟩ 8 (by kernel_rfl) (by kernel_rfl) (by kernel_rfl) (by kernel_rfl))
    laidOut (by kernel_rfl) (by kernel_rfl) Tryz.underlying4 (by kernel_rfl) rfl
    (λds h => by match ds, h with | [d0], _ => rfl) answers
theorem over : Rows.reuseAgainRow.holds Tryz.pinned (OpenSpec.ofChange Rows.reuseAgainSpec) :=
  OpenClaim.holds_of_wide 6 Tryz.f6 rfl rfl rfl rfl rfl rfl rfl ⟨rfl, rfl, rfl, rfl, rfl⟩ rfl rfl rfl rfl rfl (by kernel_rfl) Tryz.func6 (by kernel_rfl)
    (of_decide_eq_true (by kernel_rfl)) (by unfold Func.isWrapper;first | (rw [if_pos (by decide +kernel)];kernel_rfl) | (rw [if_neg (by decide +kernel)];exact ⟨rfl, rfl⟩))
    (λos started H enc _ => lifted os started H enc)
theorem proved : Rows.ReuseAgainSaid := over
#print axioms proved
end Go.Proofs.YtdnodicbedhdfaaGreat.reuseAgain
namespace Go.Proofs.YtdnodicbedhdfaaGreat
/-- The statement, under a short name, for the claim. -/
theorem reuseAgain_holds : Rows.ReuseAgainSaid := reuseAgain.proved
end Go.Proofs.YtdnodicbedhdfaaGreat
