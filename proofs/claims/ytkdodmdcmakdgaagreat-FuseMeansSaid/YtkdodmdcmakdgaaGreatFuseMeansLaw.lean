/- The statement FuseMeans of the seat, out of what its function answers (the weave) and the plain law. -/
import Derived.Test.YtkdodmdcmakdgaaGreatRows
import Derived.Test.YtkdodmdcmakdgaaGreatFuseMeansPureB
import Derived.JoinedOf
namespace Go.Proofs.YtkdodmdcmakdgaaGreat.fuseMeans
open Go.ChangeShapes Go.WideShapes Go.RowKit Loom
set_option linter.unusedVariables false
set_option maxRecDepth 100000
theorem own : ownKnob Tryz.prog.godebug = none := by kernel_rfl
theorem laidOut : laidOutB Tryz.prog = true := by kernel_rfl
theorem answers (cs : List (List AV)) (h : OfArgs RSaid [y_T_api_Code, y_LT_latheref20_Step] cs) : CallG Tryz.prog 4 (argsOf [y_T_api_Code, y_LT_latheref20_Step] cs) [] (Bl true) [] := by
  obtain ⟨_, _, rfl, h0, h⟩ := h
  obtain ⟨x0, b0, rfl⟩ := r_T_api_Code h0
  obtain ⟨_, _, rfl, h1, h⟩ := h
  obtain ⟨x1, b1, rfl⟩ := r_LT_latheref20_Step h1
  obtain rfl := h
  obtain ⟨n, hn⟩ := pureFuseMeans x0 x1 b0 b1
  exact ((k121 n).ok (x0, x1) true hn).2
theorem lifted (os : Os) (started : os.Started) (H : Type) (enc : TypeId × Value → H) :
    ReturnsInHanded {} Tryz.checked os 4 .any (Rows.fuseMeansSpec.pre6 enc Tryz.prog Tryz.f4 Rows.fuseMeansRow.domain false) (Rows.fuseMeansSpec.post enc Tryz.prog Tryz.f4 false true false false) :=
  row_of (C := Tryz.checked) (ts := [27, 38]) [y_T_api_Code, y_LT_latheref20_Step] 4 started own (by kernel_rfl) Tryz.func4
    (ChangeSpec.witness6 (enc := enc) (C := Tryz.checked) false ⟨#[], #[.agg #[.slice none 0 0, .slice none 0 0, .slice none 0 0, .slice none 0 0], .slice none 0 0], []⟩ 8 (by kernel_rfl) (by kernel_rfl) (by kernel_rfl) (by kernel_rfl))
    laidOut (by kernel_rfl) (by kernel_rfl) Tryz.underlying4 (by kernel_rfl) rfl
    (fun ds h => by match ds, h with | [d0, d1], _ => rfl) answers
theorem over : Rows.fuseMeansRow.holds Tryz.pinned (OpenSpec.ofChange Rows.fuseMeansSpec) :=
  OpenClaim.holds_of_wide 4 Tryz.f4 rfl rfl rfl rfl rfl rfl rfl ⟨rfl, rfl, rfl, rfl, rfl⟩ rfl rfl rfl rfl rfl (by kernel_rfl) Tryz.func4 (by kernel_rfl)
    (of_decide_eq_true (by kernel_rfl)) (by unfold Func.isWrapper; first | (rw [if_pos (by decide +kernel)]; kernel_rfl) | (rw [if_neg (by decide +kernel)]; exact ⟨rfl, rfl⟩))
    (fun os started H enc _ => lifted os started H enc)
theorem proved : Rows.FuseMeansSaid := over
#print axioms proved
end Go.Proofs.YtkdodmdcmakdgaaGreat.fuseMeans
namespace Go.Proofs.YtkdodmdcmakdgaaGreat
/-- The statement, under a short name, for the claim. -/
theorem fuseMeans_holds : Rows.FuseMeansSaid := fuseMeans.proved
end Go.Proofs.YtkdodmdcmakdgaaGreat
