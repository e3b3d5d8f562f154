/- The statement IrWays of the seat, where what comes in is of bulk at most 1048576, out of what its function answers (the weave) and the plain law. -/
import Derived.Test.YtklocljkocgndaaRows
import Derived.Test.YtklocljkocgndaaIrWaysPure
import Derived.JoinedOf
namespace Go.Proofs.Ytklocljkocgndaa.irWays
open Go.ChangeShapes Go.WideShapes Go.RowKit Loom
set_option linter.unusedVariables false
set_option maxRecDepth 100000
theorem own : ownKnob Try.prog.godebug = none := by kernel_rfl
theorem laidOut : laidOutB Try.prog = true := by kernel_rfl
theorem answers (cs : List (List AV)) (h : OfArgs (RUpto 1048576) [y_T_api_Code] cs) : CallG Try.prog 4 (argsOf [y_T_api_Code] cs) [] (Bl true) [] := by
  obtain ⟨_, _, rfl, h0, h⟩ := h
  obtain ⟨x0, b0, rfl⟩ := r_T_api_Code h0
  obtain rfl := h
  obtain ⟨n, hn⟩ := pureIrWays x0 b0
  exact ((k4 n).ok x0 true hn).2
theorem one_le {H : Type} (d : DataW H) : 1 ≤ Rows.uptoBulk d := by
  cases d with
  | lit l => cases l <;> simp [Rows.uptoBulk]
  | nil => simp [Rows.uptoBulk]
  | ptr d => simp [Rows.uptoBulk]
  | slice a b => simp [Rows.uptoBulk]
  | agg a => simp [Rows.uptoBulk]
  | iface t d => simp [Rows.uptoBulk]
  | map a => simp [Rows.uptoBulk]
  | held a => simp [Rows.uptoBulk]
def fit (H : Type) : Fit (RUpto 1048576) Try.prog H := fitBulk Try.prog H 1048576 Rows.uptoBulk Rows.uptoBulkAll one_le (fun l => by simp [Rows.uptoBulk]) (fun a b => by simp [Rows.uptoBulk]) (fun l => by simp [Rows.uptoBulk]) (fun d r => by simp [Rows.uptoBulkAll])
theorem lifted (os : Os) (started : os.Started) (H : Type) (enc : TypeId × Value → H) (F : Stop.Interp) :
    ReturnsInHanded {} Try.checked os 4 .any ((Rows.OpenSpec.upto Rows.irWaysSpec).pre6 enc Try.prog Try.f4 Rows.irWaysUptoRow.domain false) (((Rows.OpenSpec.upto Rows.irWaysSpec).at F).post enc Try.prog Try.f4 false true false false) :=
  row_cond (C := Try.checked) (s := (Rows.OpenSpec.upto Rows.irWaysSpec)) (k := Rows.uptoSmall) rfl (ts := [36]) [y_T_api_Code] 4 (fit H) started own (by kernel_rfl) Try.func4
    (OpenSpec.witness (enc := enc) (C := Try.checked) (s := (Rows.OpenSpec.upto Rows.irWaysSpec)) (k := Rows.uptoSmall) rfl false ⟨#[], #[.agg #[.slice none 0 0, .slice none 0 0, .slice none 0 0, .slice none 0 0]], []⟩ 8 (by kernel_rfl) (by kernel_rfl) (by kernel_rfl)
      (x := ([.agg [.nil, .nil, .nil, .nil]], [], [])) (by kernel_rfl) rfl (by kernel_rfl))
    laidOut (by kernel_rfl) (by kernel_rfl) Try.underlying4 (by kernel_rfl) rfl
    (fun ds h => by match ds, h with | [d0], _ => rfl)
    (fun ds hk hw => ⟨hw, of_decide_eq_true hk⟩) answers
theorem over : Rows.irWaysUptoRow.holds Try.pinned (Rows.OpenSpec.upto Rows.irWaysSpec) :=
  OpenClaim.holds_of_cond 4 Try.f4 rfl rfl rfl rfl rfl rfl rfl ⟨rfl, rfl, rfl, rfl, rfl⟩ rfl rfl rfl rfl rfl (by kernel_rfl) Try.func4 (by kernel_rfl)
    (of_decide_eq_true (by kernel_rfl)) (by unfold Func.isWrapper; first | (rw [if_pos (by decide +kernel)]; kernel_rfl) | (rw [if_neg (by decide +kernel)]; exact ⟨rfl, rfl⟩))
    (fun os started H enc _ F => lifted os started H enc F)
theorem proved : Rows.IrWaysUptoSaid := over
#print axioms proved
end Go.Proofs.Ytklocljkocgndaa.irWays
namespace Go.Proofs.Ytklocljkocgndaa
/-- The statement, under a short name, for the claim. -/
theorem irWays_holds : Rows.IrWaysUptoSaid := irWays.proved
end Go.Proofs.Ytklocljkocgndaa
