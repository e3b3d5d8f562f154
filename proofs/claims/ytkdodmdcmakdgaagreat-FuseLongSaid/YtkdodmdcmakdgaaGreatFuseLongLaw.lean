/- The statement FuseLong of the seat, out of what its function answers (the weave) and the plain law. -/
import Derived.Test.YtkdodmdcmakdgaaGreatRows
import Derived.Test.YtkdodmdcmakdgaaGreatFuseLongPure
import Derived.JoinedOf
namespace Go.Proofs.YtkdodmdcmakdgaaGreat.fuseLong
open Go.ChangeShapes Go.WideShapes Go.RowKit Loom
set_option linter.unusedVariables false
set_option maxRecDepth 100000
theorem own : ownKnob Tryz.prog.godebug = none := by kernel_rfl
theorem laidOut : laidOutB Tryz.prog = true := by kernel_rfl
theorem answers (cs : List (List AV)) (h : OfArgs RSaid [y_T_lathelaw22_Rows] cs) : CallG Tryz.prog 7 (argsOf [y_T_lathelaw22_Rows] cs) [] (Bl true) [] := by
  obtain ⟨_, _, rfl, h0, h⟩ := h
  obtain ⟨x0, b0, rfl⟩ := r_T_lathelaw22_Rows h0
  obtain rfl := h
  obtain ⟨n, hn⟩ := pureFuseLong x0 b0
  exact ((k124 n).ok x0 true hn).2
theorem lifted (os : Os) (started : os.Started) (H : Type) (enc : TypeId × Value → H) :
    ReturnsInHanded {} Tryz.checked os 7 .any (Rows.fuseLongSpec.pre6 enc Tryz.prog Tryz.f7 Rows.fuseLongRow.domain false) (Rows.fuseLongSpec.post enc Tryz.prog Tryz.f7 false true false false) :=
  row_of (C := Tryz.checked) (ts := [51]) [y_T_lathelaw22_Rows] 4 started own (by kernel_rfl) Tryz.func7
    (ChangeSpec.witness6 (enc := enc) (C := Tryz.checked) false ⟨#[], #[.agg #[.int .i64 0, .int .i64 0, .int .i64 0]], []⟩ 8 (by kernel_rfl) (by kernel_rfl) (by kernel_rfl) (by kernel_rfl))
    laidOut (by kernel_rfl) (by kernel_rfl) Tryz.underlying4 (by kernel_rfl) rfl
    (fun ds h => by match ds, h with | [d0], _ => rfl) answers
theorem over : Rows.fuseLongRow.holds Tryz.pinned (OpenSpec.ofChange Rows.fuseLongSpec) :=
  OpenClaim.holds_of_wide 7 Tryz.f7 rfl rfl rfl rfl rfl rfl rfl ⟨rfl, rfl, rfl, rfl, rfl⟩ rfl rfl rfl rfl rfl (by kernel_rfl) Tryz.func7 (by kernel_rfl)
    (of_decide_eq_true (by kernel_rfl)) (by unfold Func.isWrapper; first | (rw [if_pos (by decide +kernel)]; kernel_rfl) | (rw [if_neg (by decide +kernel)]; exact ⟨rfl, rfl⟩))
    (fun os started H enc _ => lifted os started H enc)
theorem proved : Rows.FuseLongSaid := over
#print axioms proved
end Go.Proofs.YtkdodmdcmakdgaaGreat.fuseLong
namespace Go.Proofs.YtkdodmdcmakdgaaGreat
/-- The statement, under a short name, for the claim. -/
theorem fuseLong_holds : Rows.FuseLongSaid := fuseLong.proved
end Go.Proofs.YtkdodmdcmakdgaaGreat
