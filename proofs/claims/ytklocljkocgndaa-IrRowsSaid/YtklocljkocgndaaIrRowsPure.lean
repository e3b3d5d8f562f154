/- The plain law of IrRows: what it answers is true, whatever it is handed. -/
import Derived.Test.YtklocljkocgndaaIrRowsWvB
set_option linter.unusedVariables false
set_option linter.unusedSimpArgs false
namespace Loom
open Go
set_option maxRecDepth 100000
abbrev y_i64 : Ty := .int .i64
def w_i64 (x : Int) : Prop := (Lit.int .i64 x).wf = true
theorem r_i64 {cs : List AV} (h : OfTy y_i64 cs) : ∃ x : Int, w_i64 x ∧ [.sc (.int .i64 x)] = cs := by
  obtain ⟨n, rfl, h⟩ := h
  exact ⟨n, h, rfl⟩
abbrev y_u32 : Ty := .int .u32
def w_u32 (x : Int) : Prop := (Lit.int .u32 x).wf = true
theorem r_u32 {cs : List AV} (h : OfTy y_u32 cs) : ∃ x : Int, w_u32 x ∧ [.sc (.int .u32 x)] = cs := by
  obtain ⟨n, rfl, h⟩ := h
  exact ⟨n, h, rfl⟩
abbrev y_T_api_Inst : Ty := .st (.cons y_i64 (.cons y_i64 (.cons y_i64 (.cons y_i64 (.cons y_i64 (.cons y_i64 (.cons y_u32 (.nil))))))))
structure w_T_api_Inst (x : T_api_Inst) : Prop where
  Op_ : w_i64 x.Op_
  D_ : w_i64 x.D_
  A_ : w_i64 x.A_
  B_ : w_i64 x.B_
  C_ : w_i64 x.C_
  N_ : w_i64 x.N_
  Bits_ : w_u32 x.Bits_
theorem r_T_api_Inst {cs : List AV} (h : OfTy y_T_api_Inst cs) : ∃ x : T_api_Inst, w_T_api_Inst x ∧ c_T_api_Inst x = cs := by
  obtain ⟨_, _, rfl, h0, h⟩ := h
  obtain ⟨_, _, rfl, h1, h⟩ := h
  obtain ⟨_, _, rfl, h2, h⟩ := h
  obtain ⟨_, _, rfl, h3, h⟩ := h
  obtain ⟨_, _, rfl, h4, h⟩ := h
  obtain ⟨_, _, rfl, h5, h⟩ := h
  obtain ⟨_, _, rfl, h6, h⟩ := h
  obtain rfl := h
  obtain ⟨x0, w0, rfl⟩ := r_i64 h0
  obtain ⟨x1, w1, rfl⟩ := r_i64 h1
  obtain ⟨x2, w2, rfl⟩ := r_i64 h2
  obtain ⟨x3, w3, rfl⟩ := r_i64 h3
  obtain ⟨x4, w4, rfl⟩ := r_i64 h4
  obtain ⟨x5, w5, rfl⟩ := r_i64 h5
  obtain ⟨x6, w6, rfl⟩ := r_u32 h6
  exact ⟨⟨x0, x1, x2, x3, x4, x5, x6⟩, ⟨w0, w1, w2, w3, w4, w5, w6⟩, rfl⟩
theorem works : g15 100 = some true := by kernel_rfl

theorem rows_in (x : T_api_Inst) (hx : 1 ≤ x.Op_ ∧ x.Op_ ≤ 37) : ∃ l b, g9 100 x = some l ∧ g10 100 x = some l ∧ l.length ≤ 10 ∧ g11 x = some b ∧ g12 x = some b := by
  obtain ⟨op, d, a, b, c, n, u⟩ := x
  obtain ⟨h1, h2⟩ : 1 ≤ op ∧ op ≤ 37 := hx
  have h : op = 1 ∨ op = 2 ∨ op = 3 ∨ op = 4 ∨ op = 5 ∨ op = 6 ∨ op = 7 ∨ op = 8 ∨ op = 9 ∨ op = 10 ∨ op = 11 ∨ op = 12 ∨ op = 13 ∨ op = 14 ∨ op = 15 ∨ op = 16 ∨ op = 17 ∨ op = 18 ∨ op = 19 ∨ op = 20 ∨ op = 21 ∨ op = 22 ∨ op = 23 ∨ op = 24 ∨ op = 25 ∨ op = 26 ∨ op = 27 ∨ op = 28 ∨ op = 29 ∨ op = 30 ∨ op = 31 ∨ op = 32 ∨ op = 33 ∨ op = 34 ∨ op = 35 ∨ op = 36 ∨ op = 37 := by omega
  clear h1 h2
  rcases h with h | h | h | h | h | h | h | h | h | h | h | h | h | h | h | h | h | h | h | h | h | h | h | h | h | h | h | h | h | h | h | h | h | h | h | h | h <;> subst h
  · exact ⟨[], true, by kernel_rfl, by kernel_rfl, by simp, by kernel_rfl, by kernel_rfl⟩
  · exact ⟨[], true, by kernel_rfl, by kernel_rfl, by simp, by kernel_rfl, by kernel_rfl⟩
  · exact ⟨[a], true, by kernel_rfl, by kernel_rfl, by simp, by kernel_rfl, by kernel_rfl⟩
  · exact ⟨[a, b], true, by kernel_rfl, by kernel_rfl, by simp, by kernel_rfl, by kernel_rfl⟩
  · exact ⟨[a, b], true, by kernel_rfl, by kernel_rfl, by simp, by kernel_rfl, by kernel_rfl⟩
  · exact ⟨[a, b], true, by kernel_rfl, by kernel_rfl, by simp, by kernel_rfl, by kernel_rfl⟩
  · exact ⟨[a, b], true, by kernel_rfl, by kernel_rfl, by simp, by kernel_rfl, by kernel_rfl⟩
  · exact ⟨[a, b], true, by kernel_rfl, by kernel_rfl, by simp, by kernel_rfl, by kernel_rfl⟩
  · exact ⟨[a, b], true, by kernel_rfl, by kernel_rfl, by simp, by kernel_rfl, by kernel_rfl⟩
  · exact ⟨[a, b], true, by kernel_rfl, by kernel_rfl, by simp, by kernel_rfl, by kernel_rfl⟩
  · exact ⟨[a], true, by kernel_rfl, by kernel_rfl, by simp, by kernel_rfl, by kernel_rfl⟩
  · exact ⟨[a], true, by kernel_rfl, by kernel_rfl, by simp, by kernel_rfl, by kernel_rfl⟩
  · exact ⟨[a], true, by kernel_rfl, by kernel_rfl, by simp, by kernel_rfl, by kernel_rfl⟩
  · exact ⟨[a], true, by kernel_rfl, by kernel_rfl, by simp, by kernel_rfl, by kernel_rfl⟩
  · exact ⟨[a, b, c], true, by kernel_rfl, by kernel_rfl, by simp, by kernel_rfl, by kernel_rfl⟩
  · exact ⟨[a, b], true, by kernel_rfl, by kernel_rfl, by simp, by kernel_rfl, by kernel_rfl⟩
  · exact ⟨[a], true, by kernel_rfl, by kernel_rfl, by simp, by kernel_rfl, by kernel_rfl⟩
  · exact ⟨[a], true, by kernel_rfl, by kernel_rfl, by simp, by kernel_rfl, by kernel_rfl⟩
  · exact ⟨[a], true, by kernel_rfl, by kernel_rfl, by simp, by kernel_rfl, by kernel_rfl⟩
  · exact ⟨[a], true, by kernel_rfl, by kernel_rfl, by simp, by kernel_rfl, by kernel_rfl⟩
  · exact ⟨[a], true, by kernel_rfl, by kernel_rfl, by simp, by kernel_rfl, by kernel_rfl⟩
  · exact ⟨[a, b], true, by kernel_rfl, by kernel_rfl, by simp, by kernel_rfl, by kernel_rfl⟩
  · exact ⟨[a, b], true, by kernel_rfl, by kernel_rfl, by simp, by kernel_rfl, by kernel_rfl⟩
  · exact ⟨[a, b], true, by kernel_rfl, by kernel_rfl, by simp, by kernel_rfl, by kernel_rfl⟩
  · exact ⟨[a], true, by kernel_rfl, by kernel_rfl, by simp, by kernel_rfl, by kernel_rfl⟩
  · exact ⟨[a, b, c], true, by kernel_rfl, by kernel_rfl, by simp, by kernel_rfl, by kernel_rfl⟩
  · exact ⟨[a, b], true, by kernel_rfl, by kernel_rfl, by simp, by kernel_rfl, by kernel_rfl⟩
  · exact ⟨[a, b], true, by kernel_rfl, by kernel_rfl, by simp, by kernel_rfl, by kernel_rfl⟩
  · exact ⟨[], true, by kernel_rfl, by kernel_rfl, by simp, by kernel_rfl, by kernel_rfl⟩
  · exact ⟨[], true, by kernel_rfl, by kernel_rfl, by simp, by kernel_rfl, by kernel_rfl⟩
  · exact ⟨[a], false, by kernel_rfl, by kernel_rfl, by simp, by kernel_rfl, by kernel_rfl⟩
  · exact ⟨[], true, by kernel_rfl, by kernel_rfl, by simp, by kernel_rfl, by kernel_rfl⟩
  · exact ⟨[a], false, by kernel_rfl, by kernel_rfl, by simp, by kernel_rfl, by kernel_rfl⟩
  · exact ⟨[a], false, by kernel_rfl, by kernel_rfl, by simp, by kernel_rfl, by kernel_rfl⟩
  · exact ⟨[], false, by kernel_rfl, by kernel_rfl, by simp, by kernel_rfl, by kernel_rfl⟩
  · exact ⟨[], false, by kernel_rfl, by kernel_rfl, by simp, by kernel_rfl, by kernel_rfl⟩
  · exact ⟨[], false, by kernel_rfl, by kernel_rfl, by simp, by kernel_rfl, by kernel_rfl⟩
theorem rows_out (x : T_api_Inst) (hx : ¬ (1 ≤ x.Op_ ∧ x.Op_ ≤ 37)) : ∃ l b, g9 100 x = some l ∧ g10 100 x = some l ∧ l.length ≤ 10 ∧ g11 x = some b ∧ g12 x = some b := by
  have ne : ∀ k : Int, 1 ≤ k → k ≤ 37 → (x.Op_ == k) = false := fun k h1 h2 => by
    have : x.Op_ ≠ k := by omega
    simpa using this
  have h26 : g26 x.Op_ = some (⟨0, 0, 0, 0, 0⟩, false) := by
    unfold g26
    simp only [joinJ, ne 1 (by decide) (by decide), ne 2 (by decide) (by decide), ne 3 (by decide) (by decide), ne 4 (by decide) (by decide), ne 5 (by decide) (by decide), ne 6 (by decide) (by decide), ne 7 (by decide) (by decide), ne 8 (by decide) (by decide), ne 9 (by decide) (by decide), ne 10 (by decide) (by decide), ne 11 (by decide) (by decide), ne 12 (by decide) (by decide), ne 13 (by decide) (by decide), ne 14 (by decide) (by decide), ne 15 (by decide) (by decide), ne 16 (by decide) (by decide), ne 17 (by decide) (by decide), ne 18 (by decide) (by decide), ne 19 (by decide) (by decide), ne 20 (by decide) (by decide), ne 21 (by decide) (by decide), ne 22 (by decide) (by decide), ne 23 (by decide) (by decide), ne 24 (by decide) (by decide), ne 25 (by decide) (by decide), ne 26 (by decide) (by decide), ne 27 (by decide) (by decide), ne 28 (by decide) (by decide), ne 29 (by decide) (by decide), ne 30 (by decide) (by decide), ne 31 (by decide) (by decide), ne 32 (by decide) (by decide), ne 33 (by decide) (by decide), ne 34 (by decide) (by decide), ne 35 (by decide) (by decide), ne 36 (by decide) (by decide), ne 37 (by decide) (by decide), cond_false]
  have h27 : g27 x.Op_ = some (⟨#[]⟩, false) := by
    unfold g27
    simp only [joinJ, ne 1 (by decide) (by decide), ne 2 (by decide) (by decide), ne 3 (by decide) (by decide), ne 4 (by decide) (by decide), ne 5 (by decide) (by decide), ne 6 (by decide) (by decide), ne 7 (by decide) (by decide), ne 8 (by decide) (by decide), ne 9 (by decide) (by decide), ne 10 (by decide) (by decide), ne 11 (by decide) (by decide), ne 12 (by decide) (by decide), ne 13 (by decide) (by decide), ne 14 (by decide) (by decide), ne 15 (by decide) (by decide), ne 16 (by decide) (by decide), ne 17 (by decide) (by decide), ne 18 (by decide) (by decide), ne 19 (by decide) (by decide), ne 20 (by decide) (by decide), ne 21 (by decide) (by decide), ne 22 (by decide) (by decide), ne 23 (by decide) (by decide), ne 24 (by decide) (by decide), ne 25 (by decide) (by decide), ne 26 (by decide) (by decide), ne 27 (by decide) (by decide), ne 28 (by decide) (by decide), ne 29 (by decide) (by decide), ne 30 (by decide) (by decide), ne 31 (by decide) (by decide), ne 32 (by decide) (by decide), ne 33 (by decide) (by decide), ne 34 (by decide) (by decide), ne 35 (by decide) (by decide), ne 36 (by decide) (by decide), ne 37 (by decide) (by decide), cond_false]
  exact ⟨[], false, by unfold g9; rw [h26]; kernel_rfl, by unfold g10; rw [h27]; kernel_rfl, by decide, by unfold g11; rw [h26]; rfl, by unfold g12; rw [h27]; rfl⟩

theorem loop3 (n : Nat) (l : List Int) : ∀ (k i : Nat) (m : List Int) (f : Nat), i + k = l.length → l.length ≤ 10 → m.length = l.length → (∀ j, i ≤ j → m[j]? = l[j]?) → k < f → ∃ m', iter (g3_b1 n l l) f ((i : Int), m) = some (.out ((l.length : Int), false, m'))
  | 0, i, m, f + 1, h, hl, hm, hj, hf => by
    obtain rfl : i = l.length := by omega
    refine ⟨m, ?_⟩
    have : decide ((l.length : Int) < ((l.map c_i64).length : Int)) = false := by simp
    simp only [iter, g3_b1, this, cond_false]
  | k + 1, i, m, f + 1, h, hl, hm, hj, hf => by
    have hi : i < l.length := by omega
    have h1 : decide ((i : Int) < ((l.map c_i64).length : Int)) = true := by simp; omega
    have h2 : m[i]? = some l[i] := by rw [hj i (Nat.le_refl _)]; exact List.getElem?_eq_getElem hi
    have h3 : l[i]? = some l[i] := List.getElem?_eq_getElem hi
    have h4 : (0 : Int) ≤ (i : Int) ∧ (i : Int) < ((l.map c_i64).length : Nat) := by simp; omega
    obtain ⟨m', hm'⟩ := loop3 n l k (i + 1) (m.set i (-1)) f (by omega) hl (by simp [hm]) (fun j hj' => by rw [List.getElem?_set_ne (by omega)]; exact hj j (by omega)) (by omega)
    refine ⟨m', ?_⟩
    have hw : IntKind.i64.wrap ((i : Int) + 1) = ((i + 1 : Nat) : Int) := by rw [wrapI (by omega) (by omega)]; simp
    have hb : (l[i] != l[i]) = false := by simp
    simp only [iter, g3_b1, h1, cond_true, need, if_pos h4, Int.toNat_natCast, h2, h3, Option.bind_some, hb, cond_false, hw]
    exact hm'

theorem pure3 (x : T_api_Inst) : g3 100 x = some true := by
  obtain ⟨l, b, h1, h2, h3, h4, h5⟩ : ∃ l b, g9 100 x = some l ∧ g10 100 x = some l ∧ l.length ≤ 10 ∧ g11 x = some b ∧ g12 x = some b := by
    by_cases h : 1 ≤ x.Op_ ∧ x.Op_ ≤ 37
    · exact rows_in x h
    · exact rows_out x h
  have h6 : g14 = g13 := rfl
  obtain ⟨c, hc⟩ : ∃ c, g13 x.Op_ = some c := by
    unfold g13
    cases decide (x.Op_ ≥ 3)
    · exact ⟨_, rfl⟩
    · exact ⟨_, rfl⟩
  obtain ⟨m', hm⟩ := loop3 100 l l.length 0 l 100 (by omega) h3 rfl (fun _ _ => rfl) (by omega)
  have hm : iter (g3_b1 100 l l) 100 (0, l) = some (.out ((l.length : Int), false, m')) := hm
  unfold g3
  simp only [h1, h2, h4, h5, h6, hc, hm, works, Option.bind_some, bne_self_eq_false, beq_self_eq_true, cond_false, cond_true, Bo.then]
theorem pureIrRows (x : T_api_Inst) (_ : w_T_api_Inst x) : ∃ n, g3 n x = some true := ⟨100, pure3 x⟩
end Loom
