/- The plain law of IrEqual: what it answers is true, whatever it is handed. -/
import Derived.Test.YtklocljkocgndaaIrEqualWvB
set_option linter.unusedVariables false
set_option linter.unusedSimpArgs false
namespace Loom
open Go
set_option maxRecDepth 100000
abbrev y_str : Ty := .str
def w_str (x : ByteArray) : Prop := x.size ≤ reachBytes
theorem r_str {cs : List AV} (h : OfTy y_str cs) : ∃ x : ByteArray, w_str x ∧ [.sc (.string x)] = cs := by
  obtain ⟨b, rfl, h⟩ := h
  exact ⟨b, h, rfl⟩
abbrev y_i64 : Ty := .int .i64
def w_i64 (x : Int) : Prop := (Lit.int .i64 x).wf = true
theorem r_i64 {cs : List AV} (h : OfTy y_i64 cs) : ∃ x : Int, w_i64 x ∧ [.sc (.int .i64 x)] = cs := by
  obtain ⟨n, rfl, h⟩ := h
  exact ⟨n, h, rfl⟩
abbrev y_T_api_Param : Ty := .st (.cons y_str (.cons y_i64 (.cons y_i64 (.nil))))
structure w_T_api_Param (x : T_api_Param) : Prop where
  Name_ : w_str x.Name_
  Kind_ : w_i64 x.Kind_
  Len_ : w_i64 x.Len_
theorem r_T_api_Param {cs : List AV} (h : OfTy y_T_api_Param cs) : ∃ x : T_api_Param, w_T_api_Param x ∧ c_T_api_Param x = cs := by
  obtain ⟨_, _, rfl, h0, h⟩ := h
  obtain ⟨_, _, rfl, h1, h⟩ := h
  obtain ⟨_, _, rfl, h2, h⟩ := h
  obtain rfl := h
  obtain ⟨x0, w0, rfl⟩ := r_str h0
  obtain ⟨x1, w1, rfl⟩ := r_i64 h1
  obtain ⟨x2, w2, rfl⟩ := r_i64 h2
  exact ⟨⟨x0, x1, x2⟩, ⟨w0, w1, w2⟩, rfl⟩
abbrev y_LT_api_Param : Ty := .sl 3 32 y_T_api_Param
def w_LT_api_Param (x : List T_api_Param) : Prop := x.length * 32 ≤ reachBytes ∧ ∀ y ∈ x, w_T_api_Param y
theorem r_LT_api_Param {cs : List AV} (h : OfTy y_LT_api_Param cs) : ∃ x : List T_api_Param, w_LT_api_Param x ∧ [.im 3 (x.map c_T_api_Param)] = cs := by
  obtain ⟨xs, rfl, h1, h2⟩ := h
  obtain ⟨ys, h3, rfl⟩ := lift_map (c := c_T_api_Param) (fun _ h => r_T_api_Param h) h1
  exact ⟨ys, ⟨by simpa using h2, h3⟩, rfl⟩
abbrev y_T_api_Type : Ty := .st (.cons y_i64 (.cons y_i64 (.nil)))
structure w_T_api_Type (x : T_api_Type) : Prop where
  Kind_ : w_i64 x.Kind_
  Param_ : w_i64 x.Param_
theorem r_T_api_Type {cs : List AV} (h : OfTy y_T_api_Type cs) : ∃ x : T_api_Type, w_T_api_Type x ∧ c_T_api_Type x = cs := by
  obtain ⟨_, _, rfl, h0, h⟩ := h
  obtain ⟨_, _, rfl, h1, h⟩ := h
  obtain rfl := h
  obtain ⟨x0, w0, rfl⟩ := r_i64 h0
  obtain ⟨x1, w1, rfl⟩ := r_i64 h1
  exact ⟨⟨x0, x1⟩, ⟨w0, w1⟩, rfl⟩
abbrev y_LT_api_Type : Ty := .sl 2 16 y_T_api_Type
def w_LT_api_Type (x : List T_api_Type) : Prop := x.length * 16 ≤ reachBytes ∧ ∀ y ∈ x, w_T_api_Type y
theorem r_LT_api_Type {cs : List AV} (h : OfTy y_LT_api_Type cs) : ∃ x : List T_api_Type, w_LT_api_Type x ∧ [.im 2 (x.map c_T_api_Type)] = cs := by
  obtain ⟨xs, rfl, h1, h2⟩ := h
  obtain ⟨ys, h3, rfl⟩ := lift_map (c := c_T_api_Type) (fun _ h => r_T_api_Type h) h1
  exact ⟨ys, ⟨by simpa using h2, h3⟩, rfl⟩
abbrev y_bool : Ty := .bool
def w_bool (x : Bool) : Prop := True
theorem r_bool {cs : List AV} (h : OfTy y_bool cs) : ∃ x : Bool, w_bool x ∧ [.sc (.bool x)] = cs := by
  obtain ⟨b, rfl⟩ := h
  exact ⟨b, trivial, rfl⟩
abbrev y_u32 : Ty := .int .u32
def w_u32 (x : Int) : Prop := (Lit.int .u32 x).wf = true
theorem r_u32 {cs : List AV} (h : OfTy y_u32 cs) : ∃ x : Int, w_u32 x ∧ [.sc (.int .u32 x)] = cs := by
  obtain ⟨n, rfl, h⟩ := h
  exact ⟨n, h, rfl⟩
abbrev y_T_api_Slot : Ty := .st (.cons y_T_api_Type (.cons y_bool (.cons y_u32 (.cons y_i64 (.nil)))))
structure w_T_api_Slot (x : T_api_Slot) : Prop where
  Type_ : w_T_api_Type x.Type_
  Keep_ : w_bool x.Keep_
  Bits_ : w_u32 x.Bits_
  Int_ : w_i64 x.Int_
theorem r_T_api_Slot {cs : List AV} (h : OfTy y_T_api_Slot cs) : ∃ x : T_api_Slot, w_T_api_Slot x ∧ c_T_api_Slot x = cs := by
  obtain ⟨_, _, rfl, h0, h⟩ := h
  obtain ⟨_, _, rfl, h1, h⟩ := h
  obtain ⟨_, _, rfl, h2, h⟩ := h
  obtain ⟨_, _, rfl, h3, h⟩ := h
  obtain rfl := h
  obtain ⟨x0, w0, rfl⟩ := r_T_api_Type h0
  obtain ⟨x1, w1, rfl⟩ := r_bool h1
  obtain ⟨x2, w2, rfl⟩ := r_u32 h2
  obtain ⟨x3, w3, rfl⟩ := r_i64 h3
  exact ⟨⟨x0, x1, x2, x3⟩, ⟨w0, w1, w2, w3⟩, rfl⟩
abbrev y_LT_api_Slot : Ty := .sl 5 32 y_T_api_Slot
def w_LT_api_Slot (x : List T_api_Slot) : Prop := x.length * 32 ≤ reachBytes ∧ ∀ y ∈ x, w_T_api_Slot y
theorem r_LT_api_Slot {cs : List AV} (h : OfTy y_LT_api_Slot cs) : ∃ x : List T_api_Slot, w_LT_api_Slot x ∧ [.im 5 (x.map c_T_api_Slot)] = cs := by
  obtain ⟨xs, rfl, h1, h2⟩ := h
  obtain ⟨ys, h3, rfl⟩ := lift_map (c := c_T_api_Slot) (fun _ h => r_T_api_Slot h) h1
  exact ⟨ys, ⟨by simpa using h2, h3⟩, rfl⟩
abbrev y_T_api_Inst : Ty := .st (.cons y_i64 (.cons y_i64 (.cons y_i64 (.cons y_i64 (.cons y_i64 (.cons y_i64 (.cons y_u32 (.nil))))))))
structure w_T_api_Inst (x : T_api_Inst) : Prop where
  Op_ : w_i64 x.Op_
  D_ : w_i64 x.D_
  A_ : w_i64 x.A_
  B_ : w_i64 x.B_
  C_ : w_i64 x.C_
  N_ : w_i64 x.N_
  Bits_ : w_u32 x.Bits_
theorem r_T_api_Inst {cs : List AV} (h : OfTy y_T_api_Inst cs) : ∃ x : T_api_Inst, w_T_api_Inst x ∧ c_T_api_Inst x = cs := by
  obtain ⟨_, _, rfl, h0, h⟩ := h
  obtain ⟨_, _, rfl, h1, h⟩ := h
  obtain ⟨_, _, rfl, h2, h⟩ := h
  obtain ⟨_, _, rfl, h3, h⟩ := h
  obtain ⟨_, _, rfl, h4, h⟩ := h
  obtain ⟨_, _, rfl, h5, h⟩ := h
  obtain ⟨_, _, rfl, h6, h⟩ := h
  obtain rfl := h
  obtain ⟨x0, w0, rfl⟩ := r_i64 h0
  obtain ⟨x1, w1, rfl⟩ := r_i64 h1
  obtain ⟨x2, w2, rfl⟩ := r_i64 h2
  obtain ⟨x3, w3, rfl⟩ := r_i64 h3
  obtain ⟨x4, w4, rfl⟩ := r_i64 h4
  obtain ⟨x5, w5, rfl⟩ := r_i64 h5
  obtain ⟨x6, w6, rfl⟩ := r_u32 h6
  exact ⟨⟨x0, x1, x2, x3, x4, x5, x6⟩, ⟨w0, w1, w2, w3, w4, w5, w6⟩, rfl⟩
abbrev y_LT_api_Inst : Ty := .sl 7 56 y_T_api_Inst
def w_LT_api_Inst (x : List T_api_Inst) : Prop := x.length * 56 ≤ reachBytes ∧ ∀ y ∈ x, w_T_api_Inst y
theorem r_LT_api_Inst {cs : List AV} (h : OfTy y_LT_api_Inst cs) : ∃ x : List T_api_Inst, w_LT_api_Inst x ∧ [.im 7 (x.map c_T_api_Inst)] = cs := by
  obtain ⟨xs, rfl, h1, h2⟩ := h
  obtain ⟨ys, h3, rfl⟩ := lift_map (c := c_T_api_Inst) (fun _ h => r_T_api_Inst h) h1
  exact ⟨ys, ⟨by simpa using h2, h3⟩, rfl⟩
abbrev y_T_api_Code : Ty := .st (.cons y_LT_api_Param (.cons y_LT_api_Type (.cons y_LT_api_Slot (.cons y_LT_api_Inst (.nil)))))
structure w_T_api_Code (x : T_api_Code) : Prop where
  Sign_ : w_LT_api_Param x.Sign_
  Regs_ : w_LT_api_Type x.Regs_
  Slots_ : w_LT_api_Slot x.Slots_
  List_ : w_LT_api_Inst x.List_
theorem r_T_api_Code {cs : List AV} (h : OfTy y_T_api_Code cs) : ∃ x : T_api_Code, w_T_api_Code x ∧ c_T_api_Code x = cs := by
  obtain ⟨_, _, rfl, h0, h⟩ := h
  obtain ⟨_, _, rfl, h1, h⟩ := h
  obtain ⟨_, _, rfl, h2, h⟩ := h
  obtain ⟨_, _, rfl, h3, h⟩ := h
  obtain rfl := h
  obtain ⟨x0, w0, rfl⟩ := r_LT_api_Param h0
  obtain ⟨x1, w1, rfl⟩ := r_LT_api_Type h1
  obtain ⟨x2, w2, rfl⟩ := r_LT_api_Slot h2
  obtain ⟨x3, w3, rfl⟩ := r_LT_api_Inst h3
  exact ⟨⟨x0, x1, x2, x3⟩, ⟨w0, w1, w2, w3⟩, rfl⟩
theorem works (n : Nat) : g15 (n + 100) = some true := by kernel_rfl

/-- Two rows that are gone through side by side until they differ. -/
theorem iter_same {α : Type} (ne : α → α → Bool) (xs ys : List α) (hl : xs.length = ys.length) (hm : xs.length < 9223372036854775807) (body : Int → Option (Bo Int (Int × Bool) Bool))
    (hb : ∀ s, body s = (bif decide (s < (xs.length : Int)) then (idx xs s).bind fun y => (idx ys s).bind fun z => bif ne y z then some (.ret false) else some (.go (IntKind.i64.wrap (s + 1))) else some (.out (s, decide (s < (xs.length : Int)))))) :
    ∀ (k i f : Nat), i + k = xs.length → k < f → iter body f (i : Int) = some (bif ((xs.drop i).zip (ys.drop i)).all (fun p => !ne p.1 p.2) then .out ((xs.length : Int), false) else .ret false)
  | 0, i, f + 1, h, hf => by
    obtain rfl : i = xs.length := by omega
    have h1 : decide ((xs.length : Int) < (xs.length : Int)) = false := by simp
    simp only [iter, hb, h1, cond_false]
    simp
  | k + 1, i, f + 1, h, hf => by
    have hi : i < xs.length := by omega
    have hi' : i < ys.length := by omega
    have h1 : decide ((i : Int) < (xs.length : Int)) = true := by simp; omega
    have h2 : idx xs (i : Int) = some xs[i] := by simp [idx]
    have h3 : idx ys (i : Int) = some ys[i] := by simp [idx]
    have hw : IntKind.i64.wrap ((i : Int) + 1) = ((i + 1 : Nat) : Int) := by rw [wrapI (by omega) (by omega)]; simp
    rw [List.drop_eq_getElem_cons hi, List.drop_eq_getElem_cons hi']
    simp only [iter, hb, h1, cond_true, h2, h3, Option.bind_some, List.zip_cons_cons, List.all_cons]
    cases hn : ne xs[i] ys[i] with
    | true => simp
    | false =>
      simp only [cond_false, hw, Bool.not_false, Bool.true_and]
      exact iter_same ne xs ys hl hm body hb k (i + 1) f (by omega) (by omega)
def eqS {α : Type} (ne : α → α → Bool) (xs ys : List α) : Bool := (xs.length == ys.length) && (xs.zip ys).all fun p => !ne p.1 p.2
theorem sl_eq {α : Type} {c : α → List AV} {ne : α → α → Bool} {xs ys : List α} {n : Nat} {body : Int → Option (Bo Int (Int × Bool) Bool)} (hm : xs.length < 9223372036854775807) (hf : xs.length < n)
    (hb : ∀ s, body s = (bif decide (s < ((xs.map c).length : Int)) then (idx xs s).bind fun y => (idx ys s).bind fun z => bif ne y z then some (.ret false) else some (.go (IntKind.i64.wrap (s + 1))) else some (.out (s, decide (s < ((xs.map c).length : Int)))))) :
    (bif (((xs.map c).length : Int) != ((ys.map c).length : Int)) then some false else (iter body n (0)).bind (Bo.then (fun t1 => some true) some)) = some (eqS ne xs ys) := by
  simp only [List.length_map] at hb ⊢
  unfold eqS
  by_cases h : xs.length = ys.length
  · have h1 : ((xs.length : Int) != (ys.length : Int)) = false := by simp [h]
    have h2 : (xs.length == ys.length) = true := by simp [h]
    have h3 := iter_same ne xs ys h hm body hb xs.length 0 n (by omega) hf
    simp only [h1, h2, cond_false, Bool.true_and]
    have h3 : iter body n 0 = _ := h3
    rw [h3]
    simp only [List.drop_zero, Option.bind_some]
    cases (xs.zip ys).all fun p => !ne p.1 p.2 <;> rfl
  · have h1 : ((xs.length : Int) != (ys.length : Int)) = true := by simp; omega
    have h2 : (xs.length == ys.length) = false := by simp [h]
    simp only [h1, h2, cond_true, Bool.false_and]
theorem iter_eq {α : Type} {c : α → List AV} {ne : α → α → Bool} {xs ys : List α} {n : Nat} {body : Int → Option (Bo Int (Int × Bool) Bool)} (hl : xs.length = ys.length) (hm : xs.length < 9223372036854775807) (hf : xs.length < n)
    (hb : ∀ s, body s = (bif decide (s < ((xs.map c).length : Int)) then (idx xs s).bind fun y => (idx ys s).bind fun z => bif ne y z then some (.ret false) else some (.go (IntKind.i64.wrap (s + 1))) else some (.out (s, decide (s < ((xs.map c).length : Int)))))) (F : Int × Bool → Option Bool) :
    (iter body n (0)).bind (Bo.then F some) = bif eqS ne xs ys then F ((xs.length : Int), false) else some false := by
  simp only [List.length_map] at hb
  unfold eqS
  have h2 : (xs.length == ys.length) = true := by simp [hl]
  have h3 := iter_same ne xs ys hl hm body hb xs.length 0 n (by omega) hf
  simp only [h2, Bool.true_and]
  have h3 : iter body n 0 = _ := h3
  rw [h3]
  simp only [List.drop_zero, Option.bind_some]
  cases (xs.zip ys).all fun p => !ne p.1 p.2 <;> rfl
theorem eqS_self {α : Type} {ne : α → α → Bool} (h : ∀ x, ne x x = false) : ∀ (xs : List α), eqS ne xs xs = true := by
  intro xs
  unfold eqS
  simp only [beq_self_eq_true, Bool.true_and]
  induction xs with
  | nil => rfl
  | cons x xs ih => simp only [List.zip_cons_cons, List.all_cons, h, Bool.not_false, Bool.true_and]; exact ih

def neP (y3 y4 : T_api_Param) : Bool := !(y3.Name_ == y4.Name_ && (y3.Kind_ == y4.Kind_ && (y3.Len_ == y4.Len_ && true)))
def neT (y3 y4 : T_api_Type) : Bool := !(y3.Kind_ == y4.Kind_ && (y3.Param_ == y4.Param_ && true))
def neS (y3 y4 : T_api_Slot) : Bool := !(y3.Type_.Kind_ == y4.Type_.Kind_ && (y3.Type_.Param_ == y4.Type_.Param_ && (y3.Keep_ == y4.Keep_ && (y3.Bits_ == y4.Bits_ && (y3.Int_ == y4.Int_ && true)))))
def neI (y3 y4 : T_api_Inst) : Bool := !(y3.Op_ == y4.Op_ && (y3.D_ == y4.D_ && (y3.A_ == y4.A_ && (y3.B_ == y4.B_ && (y3.C_ == y4.C_ && (y3.N_ == y4.N_ && (y3.Bits_ == y4.Bits_ && true)))))))
theorem str_self (s : ByteArray) : (s == s) = true := (MapKept.bytes_beq s s).2 rfl
theorem neP_self (x : T_api_Param) : neP x x = false := by simp [neP, str_self]
theorem neT_self (x : T_api_Type) : neT x x = false := by simp [neT]
theorem neS_self (x : T_api_Slot) : neS x x = false := by simp [neS]
theorem neI_self (x : T_api_Inst) : neI x x = false := by simp [neI]

/-- Code that is no longer than a machine holds. -/
structure Small (a : T_api_Code) : Prop where
  s : a.Sign_.length * 32 ≤ 140737488355328
  r : a.Regs_.length * 16 ≤ 140737488355328
  l : a.Slots_.length * 32 ≤ 140737488355328
  i : a.List_.length * 56 ≤ 140737488355328
def eqC (a b : T_api_Code) : Bool := eqS neP a.Sign_ b.Sign_ && (eqS neT a.Regs_ b.Regs_ && (eqS neS a.Slots_ b.Slots_ && eqS neI a.List_ b.List_))
def fuel (a : T_api_Code) : Nat := a.Sign_.length + a.Regs_.length + a.Slots_.length + a.List_.length

theorem g22_eq {n : Nat} {a b : T_api_Code} (h : Small a) (hn : fuel a < n) : g22 n a b = some (eqC a b) := by
  unfold fuel at hn
  obtain ⟨h1, h2, h3, h4⟩ := h
  have e1 : g43 n a.Sign_ b.Sign_ = some (eqS neP a.Sign_ b.Sign_) := sl_eq (c := c_T_api_Param) (ne := neP) (by omega) (by omega) fun s => rfl
  have e2 : g44 n a.Regs_ b.Regs_ = some (eqS neT a.Regs_ b.Regs_) := sl_eq (c := c_T_api_Type) (ne := neT) (by omega) (by omega) fun s => rfl
  have e3 : g45 n a.Slots_ b.Slots_ = some (eqS neS a.Slots_ b.Slots_) := sl_eq (c := c_T_api_Slot) (ne := neS) (by omega) (by omega) fun s => rfl
  have e4 : g46 n a.List_ b.List_ = some (eqS neI a.List_ b.List_) := sl_eq (c := c_T_api_Inst) (ne := neI) (by omega) (by omega) fun s => rfl
  unfold g22 eqC
  simp only [e1, e2, e3, e4, Option.bind_some]
  cases eqS neP a.Sign_ b.Sign_ <;> cases eqS neT a.Regs_ b.Regs_ <;> cases eqS neS a.Slots_ b.Slots_ <;> rfl

theorem len_ne {α : Type} {c : α → List AV} {ne : α → α → Bool} {xs ys : List α} : (((xs.map c).length : Int) != ((ys.map c).length : Int)) = !(xs.length == ys.length) := by
  simp only [List.length_map]
  by_cases h : xs.length = ys.length
  · simp [h]
  · have : ((xs.length : Int) == (ys.length : Int)) = false := by simp; omega
    simp [bne, this, h]
theorem g23_eq {n : Nat} {a b : T_api_Code} (h : Small a) (hn : fuel a < n) : g23 n a b = some (eqC a b) := by
  unfold fuel at hn
  obtain ⟨h1, h2, h3, h4⟩ := h
  unfold g23 eqC
  rw [len_ne (ne := neP), len_ne (ne := neT), len_ne (ne := neS), len_ne (ne := neI)]
  by_cases l1 : a.Sign_.length = b.Sign_.length
  · by_cases l2 : a.Regs_.length = b.Regs_.length
    · by_cases l3 : a.Slots_.length = b.Slots_.length
      · by_cases l4 : a.List_.length = b.List_.length
        · simp only [l1, l2, l3, l4, beq_self_eq_true, Bool.not_true, cond_false]
          rw [iter_eq (c := c_T_api_Param) (ne := neP) l1 (by omega) (by omega) (body := g23_b1 n a b) fun s => rfl]
          rw [iter_eq (c := c_T_api_Type) (ne := neT) l2 (by omega) (by omega) (body := g23_b2 n a b) fun s => rfl]
          rw [iter_eq (c := c_T_api_Slot) (ne := neS) l3 (by omega) (by omega) (body := g23_b3 n a b) fun s => rfl]
          rw [iter_eq (c := c_T_api_Inst) (ne := neI) l4 (by omega) (by omega) (body := g23_b4 n a b) fun s => rfl]
          cases eqS neP a.Sign_ b.Sign_ <;> cases eqS neT a.Regs_ b.Regs_ <;> cases eqS neS a.Slots_ b.Slots_ <;> cases eqS neI a.List_ b.List_ <;> rfl
        · have : (a.List_.length == b.List_.length) = false := by simp [l4]
          have e : eqS neI a.List_ b.List_ = false := by simp [eqS, this]
          simp [l1, l2, l3, this, e]
      · have : (a.Slots_.length == b.Slots_.length) = false := by simp [l3]
        have e : eqS neS a.Slots_ b.Slots_ = false := by simp [eqS, this]
        simp [l1, l2, this, e]
    · have : (a.Regs_.length == b.Regs_.length) = false := by simp [l2]
      have e : eqS neT a.Regs_ b.Regs_ = false := by simp [eqS, this]
      simp [l1, this, e]
  · have : (a.Sign_.length == b.Sign_.length) = false := by simp [l1]
    have e : eqS neP a.Sign_ b.Sign_ = false := by simp [eqS, this]
    simp [this, e]

theorem eqC_self (a : T_api_Code) : eqC a a = true := by
  unfold eqC
  rw [eqS_self neP_self, eqS_self neT_self, eqS_self neS_self, eqS_self neI_self]
  rfl
theorem pure7 (a b : T_api_Code) (h : Small a) : g7 (fuel a + 100) a b = some true := by
  unfold g7
  have e19 : g19 a = some a := by
    unfold g19 need
    rw [if_pos h.s, if_pos h.r, if_pos h.l, if_pos h.i]
  rw [g22_eq h (by omega), g23_eq h (by omega)]
  simp only [Option.bind_some, beq_self_eq_true, cond_true, e19]
  rw [g22_eq h (by omega)]
  simp only [Option.bind_some, eqC_self, cond_true, works]
theorem pureIrEqual (a b : T_api_Code) (h : w_T_api_Code a) (_ : w_T_api_Code b) : ∃ n, g7 n a b = some true :=
  ⟨_, pure7 a b ⟨Nat.le_trans h.Sign_.1 (by decide), Nat.le_trans h.Regs_.1 (by decide), Nat.le_trans h.Slots_.1 (by decide), Nat.le_trans h.List_.1 (by decide)⟩⟩
end Loom
