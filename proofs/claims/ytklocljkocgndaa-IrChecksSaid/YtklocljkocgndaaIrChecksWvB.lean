/- What the functions that IrChecks reaches answer, and that they do (part 2 of 2). -/
import Derived.Test.YtklocljkocgndaaIrChecksWvA
set_option linter.unusedVariables false
set_option linter.unusedSimpArgs false
namespace Loom
open Go Go.RowKit
set_option maxRecDepth 100000
noncomputable def f63_b1 (n : Nat) (x : ByteArray) (v1 : Unit) (q1 : Int) : Option (Bo Int Int Unit) := (g63_t1 n x v1 q1).run
noncomputable def f63 (n : Nat) (x : ByteArray) : Option Bool := (g63_t n x).run
theorem f63_b1_eq (n : Nat) (x : ByteArray) (v1 : Unit) (q1 : Int) : f63_b1 n x v1 q1 = bif (decide (q1 < (x.size : Int))) then (need (0 ≤ q1 ∧ q1 < (x.size : Int)) ((bif (decide ((byteAt x q1) ≥ (97 : Int))) then (bif (decide ((byteAt x q1) ≤ (122 : Int))) then (some (.inl false)) else (bif (decide ((byteAt x q1) ≥ (65 : Int))) then (bif (decide ((byteAt x q1) ≤ (90 : Int))) then (some (.inl false)) else (bif (decide ((byteAt x q1) ≥ (48 : Int))) then (bif (decide ((byteAt x q1) ≤ (57 : Int))) then (some (.inl false)) else (bif ((byteAt x q1) == (95 : Int)) then (some (.inl false)) else (bif ((byteAt x q1) == (46 : Int)) then (some (.inl false)) else (bif ((byteAt x q1) == (47 : Int)) then (some (.inl false)) else (some (.inl (!((byteAt x q1) == (45 : Int))))))))) else (bif ((byteAt x q1) == (95 : Int)) then (some (.inl false)) else (bif ((byteAt x q1) == (46 : Int)) then (some (.inl false)) else (bif ((byteAt x q1) == (47 : Int)) then (some (.inl false)) else (some (.inl (!((byteAt x q1) == (45 : Int)))))))))) else (bif (decide ((byteAt x q1) ≥ (48 : Int))) then (bif (decide ((byteAt x q1) ≤ (57 : Int))) then (some (.inl false)) else (bif ((byteAt x q1) == (95 : Int)) then (some (.inl false)) else (bif ((byteAt x q1) == (46 : Int)) then (some (.inl false)) else (bif ((byteAt x q1) == (47 : Int)) then (some (.inl false)) else (some (.inl (!((byteAt x q1) == (45 : Int))))))))) else (bif ((byteAt x q1) == (95 : Int)) then (some (.inl false)) else (bif ((byteAt x q1) == (46 : Int)) then (some (.inl false)) else (bif ((byteAt x q1) == (47 : Int)) then (some (.inl false)) else (some (.inl (!((byteAt x q1) == (45 : Int))))))))))) else (bif (decide ((byteAt x q1) ≥ (65 : Int))) then (bif (decide ((byteAt x q1) ≤ (90 : Int))) then (some (.inl false)) else (bif (decide ((byteAt x q1) ≥ (48 : Int))) then (bif (decide ((byteAt x q1) ≤ (57 : Int))) then (some (.inl false)) else (bif ((byteAt x q1) == (95 : Int)) then (some (.inl false)) else (bif ((byteAt x q1) == (46 : Int)) then (some (.inl false)) else (bif ((byteAt x q1) == (47 : Int)) then (some (.inl false)) else (some (.inl (!((byteAt x q1) == (45 : Int))))))))) else (bif ((byteAt x q1) == (95 : Int)) then (some (.inl false)) else (bif ((byteAt x q1) == (46 : Int)) then (some (.inl false)) else (bif ((byteAt x q1) == (47 : Int)) then (some (.inl false)) else (some (.inl (!((byteAt x q1) == (45 : Int)))))))))) else (bif (decide ((byteAt x q1) ≥ (48 : Int))) then (bif (decide ((byteAt x q1) ≤ (57 : Int))) then (some (.inl false)) else (bif ((byteAt x q1) == (95 : Int)) then (some (.inl false)) else (bif ((byteAt x q1) == (46 : Int)) then (some (.inl false)) else (bif ((byteAt x q1) == (47 : Int)) then (some (.inl false)) else (some (.inl (!((byteAt x q1) == (45 : Int))))))))) else (bif ((byteAt x q1) == (95 : Int)) then (some (.inl false)) else (bif ((byteAt x q1) == (46 : Int)) then (some (.inl false)) else (bif ((byteAt x q1) == (47 : Int)) then (some (.inl false)) else (some (.inl (!((byteAt x q1) == (45 : Int)))))))))) : Option (Bool ⊕ _)).bind (orRet fun s2 => bif s2 then (some (.ret ())) else (some (.go (IntKind.i64.wrap (q1 + (1 : Int)))))))) else (some (.out q1)) := by kernel_rfl
theorem f63_eq (n : Nat) (x : ByteArray) : f63 n x = (bif (x == ⟨#[]⟩) then (some (.inl true)) else (some (.inl (decide ((x.size : Int) > (64 : Int))))) : Option (Bool ⊕ _)).bind (orRet fun s1 => bif s1 then (some false) else ((iter (f63_b1 n x ()) n (0 : Int)).bind (Bo.then (fun y1 => some true) (fun z1 => some false)))) := by kernel_rfl
end Loom
namespace Loom
open Go Go.RowKit
set_option maxRecDepth 100000
noncomputable def f55 (n : Nat) (x : T_api_Param) : Option Bool := (g55_t n x).run
theorem f55_eq (n : Nat) (x : T_api_Param) : f55 n x = (f63 n x.Name_).bind fun y1 => bif y1 then (bif (x.Kind_ == (1 : Int)) then (bif (decide (x.Len_ ≥ (1 : Int))) then (some (decide (x.Len_ ≤ (4096 : Int)))) else (some false)) else (bif (x.Kind_ == (2 : Int)) then (bif (decide (x.Len_ ≥ (1 : Int))) then (some (decide (x.Len_ ≤ (4096 : Int)))) else (some false)) else (some false))) else (some false) := by kernel_rfl
end Loom
namespace Loom
open Go Go.RowKit
set_option maxRecDepth 100000
noncomputable def f56_b1 (n : Nat) (x : (List T_api_Param) × ByteArray) (v1 : Unit) (q1 : Int) : Option (Bo Int Int Int) := (g56_t1 n x v1 q1).run
noncomputable def f56 (n : Nat) (x : (List T_api_Param) × ByteArray) : Option (Int × Bool) := (g56_t n x).run
theorem f56_b1_eq (n : Nat) (x : (List T_api_Param) × ByteArray) (v1 : Unit) (q1 : Int) : f56_b1 n x v1 q1 = bif (decide (q1 < (x.1.length : Int))) then ((idx x.1 q1).bind fun y1 => bif (y1.Name_ == x.2) then (some (.ret q1)) else (some (.go (IntKind.i64.wrap (q1 + (1 : Int)))))) else (some (.out q1)) := by kernel_rfl
theorem f56_eq (n : Nat) (x : (List T_api_Param) × ByteArray) : f56 n x = (iter (f56_b1 n x ()) n (0 : Int)).bind (Bo.then (fun y2 => some ((0 : Int), false)) (fun z1 => some (z1, true))) := by kernel_rfl
end Loom
namespace Loom
open Go Go.RowKit
set_option maxRecDepth 100000
noncomputable def f64 (n : Nat) (x : T_api_Param) : Option Int := (g64_t n x).run
theorem f64_eq (n : Nat) (x : T_api_Param) : f64 n x = (f55 n x).bind fun y1 => bif (!y1) then (some (0 : Int)) else (bif (x.Kind_ == (2 : Int)) then (some (IntKind.i64.wrap ((2 : Int) * x.Len_))) else (some x.Len_)) := by kernel_rfl
end Loom
namespace Loom
open Go Go.RowKit
set_option maxRecDepth 100000
noncomputable def f57_b1 (n : Nat) (x : (List T_api_Param)) (v1 : Unit) (q1 : Int × Int) : Option (Bo (Int × Int) (Int × Int) Empty) := (g57_t1 n x v1 q1).run
noncomputable def f57 (n : Nat) (x : (List T_api_Param)) : Option Int := (g57_t n x).run
theorem f57_b1_eq (n : Nat) (x : (List T_api_Param)) (v1 : Unit) (q1 : Int × Int) : f57_b1 n x v1 q1 = bif (decide (q1.2 < (x.length : Int))) then ((idx x q1.2).bind fun y1 => (f64 n y1).bind fun y2 => some (.go ((IntKind.i64.wrap (q1.1 + y2)), (IntKind.i64.wrap (q1.2 + (1 : Int)))))) else (some (.out (q1.1, q1.2))) := by kernel_rfl
theorem f57_eq (n : Nat) (x : (List T_api_Param)) : f57 n x = (iter (f57_b1 n x ()) n ((0 : Int), (0 : Int))).bind (Bo.then (fun y3 => some y3.1) (fun _ => none)) := by kernel_rfl
end Loom
namespace Loom
open Go Go.RowKit
set_option maxRecDepth 100000
noncomputable def f38_b1 (n : Nat) (x : (List T_api_Param)) (v1 : Unit) (q1 : Int) : Option (Bo Int Int Unit) := (g38_t1 n x v1 q1).run
noncomputable def f38_b2 (n : Nat) (x : (List T_api_Param)) (v2 : Unit) (q2 : Int) : Option (Bo Int Int Unit) := (g38_t2 n x v2 q2).run
noncomputable def f38 (n : Nat) (x : (List T_api_Param)) : Option Int := (g38_t n x).run
theorem f38_b1_eq (n : Nat) (x : (List T_api_Param)) (v1 : Unit) (q1 : Int) : f38_b1 n x v1 q1 = bif (decide (q1 < (x.length : Int))) then ((idx x q1).bind fun y1 => (f55 n y1).bind fun y2 => bif (!y2) then (some (.ret ())) else (some (.go (IntKind.i64.wrap (q1 + (1 : Int)))))) else (some (.out q1)) := by kernel_rfl
theorem f38_b2_eq (n : Nat) (x : (List T_api_Param)) (v2 : Unit) (q2 : Int) : f38_b2 n x v2 q2 = bif (decide (q2 < (x.length : Int))) then ((idx x q2).bind fun y4 => (f56 n (x, y4.Name_)).bind fun y5 => bif (y5.1 != q2) then (some (.ret ())) else (some (.go (IntKind.i64.wrap (q2 + (1 : Int)))))) else (some (.out q2)) := by kernel_rfl
theorem f38_eq (n : Nat) (x : (List T_api_Param)) : f38 n x = bif (decide ((x.length : Int) > (64 : Int))) then (some (2 : Int)) else ((iter (f38_b1 n x ()) n (0 : Int)).bind (Bo.then (fun y3 => (iter (f38_b2 n x ()) n (0 : Int)).bind (Bo.then (fun y6 => (f57 n x).bind fun y7 => bif (decide (y7 > (65536 : Int))) then (some (102 : Int)) else (some (0 : Int))) (fun z2 => some (101 : Int)))) (fun z1 => some (100 : Int)))) := by kernel_rfl
end Loom
namespace Loom
open Go Go.RowKit
set_option maxRecDepth 100000
noncomputable def f39 (n : Nat) (x : T_api_Type × (List T_api_Param)) : Option Bool := (g39_t n x).run
theorem f39_eq (n : Nat) (x : T_api_Type × (List T_api_Param)) : f39 n x = bif (x.1.Kind_ == (3 : Int)) then (bif (decide (x.1.Param_ ≥ (0 : Int))) then (some (decide (x.1.Param_ < (x.2.length : Int)))) else (some false)) else (bif (x.1.Kind_ == (1 : Int)) then (some (x.1.Param_ == (0 : Int))) else (bif (x.1.Kind_ == (2 : Int)) then (some (x.1.Param_ == (0 : Int))) else (some false))) := by kernel_rfl
end Loom
namespace Loom
open Go Go.RowKit
set_option maxRecDepth 100000
noncomputable def f69 (n : Nat) (x : Int) : Option (Bool × Int × Int × Bool × Bool) := (g69_t n x).run
theorem f69_eq (n : Nat) (x : Int) : f69 n x = (bif ((IntKind.i64.wrap (IntKind.u64.wrap (BitVec.ofInt IntKind.u64.bits ((IntKind.u64.wrap x).fdiv (2 ^ min (23 : Int).toNat IntKind.u64.bits)) &&& BitVec.ofInt IntKind.u64.bits (255 : Int)).toNat)) == (255 : Int)) then (some (.inl ((0 : Int), (0 : Int), ((IntKind.u64.wrap (BitVec.ofInt IntKind.u64.bits (IntKind.u64.wrap x) &&& BitVec.ofInt IntKind.u64.bits (8388607 : Int)).toNat) == (0 : Int)), ((IntKind.u64.wrap (BitVec.ofInt IntKind.u64.bits (IntKind.u64.wrap x) &&& BitVec.ofInt IntKind.u64.bits (8388607 : Int)).toNat) != (0 : Int))))) else (bif ((IntKind.i64.wrap (IntKind.u64.wrap (BitVec.ofInt IntKind.u64.bits ((IntKind.u64.wrap x).fdiv (2 ^ min (23 : Int).toNat IntKind.u64.bits)) &&& BitVec.ofInt IntKind.u64.bits (255 : Int)).toNat)) == (0 : Int)) then (some (.inl ((IntKind.u64.wrap (BitVec.ofInt IntKind.u64.bits (IntKind.u64.wrap x) &&& BitVec.ofInt IntKind.u64.bits (8388607 : Int)).toNat), (-149 : Int), false, false))) else (some (.inl ((IntKind.u64.wrap ((8388608 : Int) + (IntKind.u64.wrap (BitVec.ofInt IntKind.u64.bits (IntKind.u64.wrap x) &&& BitVec.ofInt IntKind.u64.bits (8388607 : Int)).toNat))), (IntKind.i64.wrap ((IntKind.i64.wrap (IntKind.u64.wrap (BitVec.ofInt IntKind.u64.bits ((IntKind.u64.wrap x).fdiv (2 ^ min (23 : Int).toNat IntKind.u64.bits)) &&& BitVec.ofInt IntKind.u64.bits (255 : Int)).toNat)) - (150 : Int))), false, false)))) : Option (Int × Int × Bool × Bool ⊕ _)).bind (orRet fun s1 => some ((((IntKind.u64.wrap x).fdiv (2 ^ min (31 : Int).toNat IntKind.u64.bits)) == (1 : Int)), s1.1, s1.2.1, s1.2.2.1, s1.2.2.2)) := by kernel_rfl
end Loom
namespace Loom
open Go Go.RowKit
set_option maxRecDepth 100000
noncomputable def f65 (n : Nat) (x : Int) : Option Int := (g65_t n x).run
theorem f65_eq (n : Nat) (x : Int) : f65 n x = (f69 n x).bind fun y1 => bif y1.2.2.2.2 then (some (2143289344 : Int)) else (some x) := by kernel_rfl
end Loom
namespace Loom
open Go Go.RowKit
set_option maxRecDepth 100000
noncomputable def f58 (n : Nat) (x : Int) : Option Bool := (g58_t n x).run
theorem f58_eq (n : Nat) (x : Int) : f58 n x = (f65 n (IntKind.i64.wrap x)).bind fun y1 => some (y1 == (IntKind.i64.wrap x)) := by kernel_rfl
end Loom
namespace Loom
open Go Go.RowKit
set_option maxRecDepth 100000
noncomputable def f40 (n : Nat) (x : T_api_Slot × (List T_api_Param)) : Option Bool := (g40_t n x).run
theorem f40_eq (n : Nat) (x : T_api_Slot × (List T_api_Param)) : f40 n x = (f39 n (x.1.Type_, x.2)).bind fun y1 => bif (!y1) then (some false) else (bif (x.1.Type_.Kind_ == (2 : Int)) then (bif (x.1.Bits_ == (0 : Int)) then (bif (decide (x.1.Int_ ≥ (0 : Int))) then (some (decide (x.1.Int_ ≤ (2147483647 : Int)))) else (some false)) else (some false)) else (bif (x.1.Int_ == (0 : Int)) then ((f58 n x.1.Bits_).bind fun y2 => some y2) else (some false))) := by kernel_rfl
end Loom
namespace Loom
open Go Go.RowKit
set_option maxRecDepth 100000
noncomputable def f27 (n : Nat) (x : Int) : Option (ByteArray × Bool) := (g27_t n x).run
theorem f27_eq (n : Nat) (x : Int) : f27 n x = bif (x == (1 : Int)) then (some (⟨#[110, 45, 45, 45, 45]⟩, true)) else (bif (x == (2 : Int)) then (some (⟨#[119, 45, 45, 45, 105]⟩, true)) else (bif (x == (3 : Int)) then (some (⟨#[97, 99, 45, 45, 45]⟩, true)) else ((bif (x == (4 : Int)) then (some (.inl true)) else (bif (x == (5 : Int)) then (some (.inl true)) else (bif (x == (6 : Int)) then (some (.inl true)) else (bif (x == (7 : Int)) then (some (.inl true)) else (bif (x == (8 : Int)) then (some (.inl true)) else (bif (x == (9 : Int)) then (some (.inl true)) else (some (.inl (x == (10 : Int))))))))) : Option (Bool ⊕ _)).bind (orRet fun s1 => bif s1 then (some (⟨#[100, 120, 120, 45, 45]⟩, true)) else ((bif (x == (11 : Int)) then (some (.inl true)) else (bif (x == (12 : Int)) then (some (.inl true)) else (bif (x == (13 : Int)) then (some (.inl true)) else (some (.inl (x == (14 : Int)))))) : Option (Bool ⊕ _)).bind (orRet fun s2 => bif s2 then (some (⟨#[100, 120, 45, 45, 45]⟩, true)) else (bif (x == (15 : Int)) then (some (⟨#[100, 120, 120, 120, 45]⟩, true)) else (bif (x == (16 : Int)) then (some (⟨#[110, 110, 119, 45, 45]⟩, true)) else (bif (x == (17 : Int)) then (some (⟨#[110, 119, 45, 45, 45]⟩, true)) else (bif (x == (18 : Int)) then (some (⟨#[119, 110, 45, 45, 45]⟩, true)) else ((bif (x == (19 : Int)) then (some (.inl true)) else (some (.inl (x == (20 : Int)))) : Option (Bool ⊕ _)).bind (orRet fun s3 => bif s3 then (some (⟨#[110, 118, 45, 45, 45]⟩, true)) else ((bif (x == (21 : Int)) then (some (.inl true)) else (some (.inl (x == (25 : Int)))) : Option (Bool ⊕ _)).bind (orRet fun s4 => bif s4 then (some (⟨#[119, 119, 45, 45, 45]⟩, true)) else ((bif (x == (22 : Int)) then (some (.inl true)) else (bif (x == (23 : Int)) then (some (.inl true)) else (bif (x == (24 : Int)) then (some (.inl true)) else (bif (x == (27 : Int)) then (some (.inl true)) else (some (.inl (x == (28 : Int))))))) : Option (Bool ⊕ _)).bind (orRet fun s5 => bif s5 then (some (⟨#[119, 119, 119, 45, 45]⟩, true)) else (bif (x == (26 : Int)) then (some (⟨#[119, 119, 119, 119, 45]⟩, true)) else ((bif (x == (29 : Int)) then (some (.inl true)) else (some (.inl (x == (30 : Int)))) : Option (Bool ⊕ _)).bind (orRet fun s6 => bif s6 then (some (⟨#[118, 45, 45, 45, 112]⟩, true)) else (bif (x == (31 : Int)) then (some (⟨#[45, 118, 45, 45, 112]⟩, true)) else (bif (x == (32 : Int)) then (some (⟨#[97, 45, 45, 45, 115]⟩, true)) else (bif (x == (33 : Int)) then (some (⟨#[45, 97, 45, 45, 115]⟩, true)) else (bif (x == (34 : Int)) then (some (⟨#[45, 119, 45, 45, 45]⟩, true)) else ((bif (x == (35 : Int)) then (some (.inl true)) else (some (.inl (x == (37 : Int)))) : Option (Bool ⊕ _)).bind (orRet fun s7 => bif s7 then (some (⟨#[45, 45, 45, 45, 45]⟩, true)) else (bif (x == (36 : Int)) then (some (⟨#[45, 45, 45, 45, 113]⟩, true)) else (some (⟨#[]⟩, false)))))))))))))))))))))))))))) := by kernel_rfl
end Loom
namespace Loom
open Go Go.RowKit
set_option maxRecDepth 100000
noncomputable def f70 (n : Nat) (x : T_api_Code × Int) : Option (Bool × Int × Int) := (g70_t n x).run
theorem f70_eq (n : Nat) (x : T_api_Code × Int) : f70 n x = (bif (decide (x.2 < (0 : Int))) then (some (.inl true)) else (some (.inl (decide (x.2 ≥ (x.1.Regs_.length : Int))))) : Option (Bool ⊕ _)).bind (orRet fun s1 => bif s1 then (some (false, (0 : Int), (0 : Int))) else ((idx x.1.Regs_ x.2).bind fun y1 => some (true, y1.Kind_, y1.Param_))) := by kernel_rfl
end Loom
namespace Loom
open Go Go.RowKit
set_option maxRecDepth 100000
noncomputable def f66 (n : Nat) (x : T_api_Code × Int × Int × T_api_Type) : Option Bool := (g66_t n x).run
theorem f66_eq (n : Nat) (x : T_api_Code × Int × Int × T_api_Type) : f66 n x = bif (x.2.1 == (45 : Int)) then (some (x.2.2.1 == (0 : Int))) else ((f70 n (x.1, x.2.2.1)).bind fun y1 => bif (!y1.1) then (some false) else (bif (x.2.1 == (110 : Int)) then (some (y1.2.1 == (1 : Int))) else (bif (x.2.1 == (119 : Int)) then (some (y1.2.1 == (2 : Int))) else (bif (x.2.1 == (118 : Int)) then (some (y1.2.1 == (3 : Int))) else (bif (x.2.1 == (100 : Int)) then (bif (y1.2.1 == (1 : Int)) then (some true) else (some (y1.2.1 == (3 : Int)))) else (bif (x.2.1 == (120 : Int)) then (bif (y1.2.1 == (1 : Int)) then (some true) else (some (y1.2.1 == x.2.2.2.Kind_ && (y1.2.2 == x.2.2.2.Param_ && true)))) else (bif (x.2.1 == (99 : Int)) then (bif (y1.2.1 == x.2.2.2.Kind_ && (y1.2.2 == x.2.2.2.Param_ && true)) then (some true) else (bif (y1.2.1 == (1 : Int)) then (some (x.2.2.2.Kind_ == (3 : Int))) else (some false))) else (some true)))))))) := by kernel_rfl
end Loom
namespace Loom
open Go Go.RowKit
set_option maxRecDepth 100000
noncomputable def f67 (n : Nat) (x : T_api_Code × Int × Int) : Option Bool := (g67_t n x).run
theorem f67_eq (n : Nat) (x : T_api_Code × Int × Int) : f67 n x = bif (x.2.1 == (0 : Int)) then (some true) else (bif (x.2.1 == (1 : Int)) then ((idx x.1.Sign_ x.2.2).bind fun y1 => some (y1.Kind_ == (2 : Int))) else (some false)) := by kernel_rfl
end Loom
namespace Loom
open Go Go.RowKit
set_option maxRecDepth 100000
noncomputable def f59 (n : Nat) (x : T_api_Code × T_api_Inst) : Option Bool := (g59_t n x).run
theorem f59_eq (n : Nat) (x : T_api_Code × T_api_Inst) : f59 n x = (f27 n x.2.Op_).bind fun y1 => (bif (!y1.2) then (some (.inl (y1.1, true))) else (bif (x.2.Op_ != (1 : Int)) then (bif (x.2.Bits_ != (0 : Int)) then (some (.inl (y1.1, true))) else ((f58 n x.2.Bits_).bind fun y2 => some (.inl (y1.1, (!y2))))) else ((f58 n x.2.Bits_).bind fun y3 => some (.inl (y1.1, (!y3))))) : Option (ByteArray × Bool ⊕ _)).bind (orRet fun s1 => bif s1.2 then (some false) else ((need (0 ≤ (0 : Int) ∧ (0 : Int) < (s1.1.size : Int)) (bif ((byteAt s1.1 (0 : Int)) != (45 : Int)) then (need (0 ≤ (0 : Int) ∧ (0 : Int) < (s1.1.size : Int)) ((f66 n (x.1, (byteAt s1.1 (0 : Int)), x.2.D_, (⟨(0 : Int), (0 : Int)⟩ : T_api_Type))).bind fun y4 => bif (!y4) then (some (.inr false)) else ((idx x.1.Regs_ x.2.D_).bind fun y5 => some (.inl (s1.1, y5.Kind_, y5.Param_))))) else (bif (x.2.D_ != (0 : Int)) then (some (.inr false)) else (some (.inl (s1.1, (0 : Int), (0 : Int)))))) : Option (ByteArray × Int × Int ⊕ _)).bind (orRet fun s2 => (need (0 ≤ (1 : Int) ∧ (1 : Int) < (s2.1.size : Int)) ((f66 n (x.1, (byteAt s2.1 (1 : Int)), x.2.A_, (⟨s2.2.1, s2.2.2⟩ : T_api_Type))).bind fun y6 => bif (!y6) then (some (.inl (s2.1, true, s2.2.1, s2.2.2))) else (need (0 ≤ (2 : Int) ∧ (2 : Int) < (s2.1.size : Int)) ((f66 n (x.1, (byteAt s2.1 (2 : Int)), x.2.B_, (⟨s2.2.1, s2.2.2⟩ : T_api_Type))).bind fun y7 => bif (!y7) then (some (.inl (s2.1, true, s2.2.1, s2.2.2))) else (need (0 ≤ (3 : Int) ∧ (3 : Int) < (s2.1.size : Int)) ((f66 n (x.1, (byteAt s2.1 (3 : Int)), x.2.C_, (⟨s2.2.1, s2.2.2⟩ : T_api_Type))).bind fun y8 => some (.inl (s2.1, (!y8), s2.2.1, s2.2.2))))))) : Option (ByteArray × Bool × Int × Int ⊕ _)).bind (orRet fun s3 => bif s3.2.1 then (some false) else (((need (0 ≤ (0 : Int) ∧ (0 : Int) < (s3.1.size : Int)) (bif ((byteAt s3.1 (0 : Int)) == (45 : Int)) then (need (0 ≤ (1 : Int) ∧ (1 : Int) < (s3.1.size : Int)) (some (.inl (s3.1, ((byteAt s3.1 (1 : Int)) != (45 : Int)), s3.2.2.1, s3.2.2.2)))) else (some (.inl (s3.1, false, s3.2.2.1, s3.2.2.2)))) : Option (ByteArray × Bool × Int × Int ⊕ _)).bind (orRet fun s4 => bif s4.2.1 then ((idx x.1.Regs_ x.2.A_).bind fun y9 => some (.inl (s4.1, y9.Kind_, y9.Param_))) else (some (.inl (s4.1, s4.2.2.1, s4.2.2.2)))) : Option (ByteArray × Int × Int ⊕ _)).bind (orRet fun s5 => need (0 ≤ (4 : Int) ∧ (4 : Int) < (s5.1.size : Int)) (bif ((byteAt s5.1 (4 : Int)) == (105 : Int)) then (bif (decide (x.2.N_ ≥ (0 : Int))) then (some (decide (x.2.N_ ≤ (2147483647 : Int)))) else (some false)) else (bif ((byteAt s5.1 (4 : Int)) == (112 : Int)) then ((f67 n (x.1, x.2.N_, s5.2.2)).bind fun y10 => some y10) else (bif ((byteAt s5.1 (4 : Int)) == (115 : Int)) then (bif (decide (x.2.N_ ≥ (0 : Int))) then (bif (decide (x.2.N_ < (x.1.Slots_.length : Int))) then ((idx x.1.Slots_ x.2.N_).bind fun y11 => some (y11.Type_.Kind_ == s5.2.1 && (y11.Type_.Param_ == s5.2.2 && true))) else (some false)) else (some false)) else (bif ((byteAt s5.1 (4 : Int)) == (113 : Int)) then (bif (decide (x.2.N_ ≥ (0 : Int))) then (some (decide (x.2.N_ < (x.1.Sign_.length : Int)))) else (some false)) else (some (x.2.N_ == (0 : Int))))))))))))) := by kernel_rfl
end Loom
namespace Loom
open Go Go.RowKit
set_option maxRecDepth 100000
noncomputable def f14 (n : Nat) (x : Int) : Option Bool := (g14_t n x).run
theorem f14_eq (n : Nat) (x : Int) : f14 n x = bif (decide (x ≥ (3 : Int))) then (some (decide (x ≤ (15 : Int)))) else (some false) := by kernel_rfl
end Loom
namespace Loom
open Go Go.RowKit
set_option maxRecDepth 100000
noncomputable def f60 (n : Nat) (x : T_api_Code × T_api_Inst) : Option Int := (g60_t n x).run
theorem f60_eq (n : Nat) (x : T_api_Code × T_api_Inst) : f60 n x = (((f14 n x.2.Op_).bind fun y1 => bif y1 then (some (.inl true)) else (bif (x.2.Op_ == (29 : Int)) then (some (.inl true)) else (bif (x.2.Op_ == (30 : Int)) then (some (.inl true)) else (some (.inl (x.2.Op_ == (32 : Int)))))) : Option (Bool ⊕ _)).bind (orRet fun s1 => bif s1 then (some (.inl x.2.D_)) else ((bif (x.2.Op_ == (31 : Int)) then (some (.inl true)) else (some (.inl (x.2.Op_ == (33 : Int)))) : Option (Bool ⊕ _)).bind (orRet fun s2 => bif s2 then (some (.inl x.2.A_)) else (some (.inl (-1 : Int)))))) : Option (Int ⊕ _)).bind (orRet fun s3 => (bif (decide (s3 < (0 : Int))) then (some (.inl (s3, true))) else (bif (decide (s3 ≥ (x.1.Regs_.length : Int))) then (some (.inl (s3, true))) else ((idx x.1.Regs_ s3).bind fun y2 => some (.inl (s3, (y2.Kind_ != (3 : Int)))))) : Option (Int × Bool ⊕ _)).bind (orRet fun s4 => bif s4.2 then (some (-1 : Int)) else ((idx x.1.Regs_ s4.1).bind fun y3 => some y3.Param_))) := by kernel_rfl
end Loom
namespace Loom
open Go Go.RowKit
set_option maxRecDepth 100000
noncomputable def f10_b1 (n : Nat) (x : T_api_Inst) (v1 : ByteArray × Bool) (q1 : Int × (List Int)) : Option (Bo (Int × (List Int)) (Int × (List Int)) Empty) := (g10_t1 n x v1 q1).run
noncomputable def f10 (n : Nat) (x : T_api_Inst) : Option (List Int) := (g10_t n x).run
theorem f10_b1_eq (n : Nat) (x : T_api_Inst) (v1 : ByteArray × Bool) (q1 : Int × (List Int)) : f10_b1 n x v1 q1 = (bif v1.2 then (some (.inl (decide (q1.1 < (3 : Int))))) else (some (.inl false)) : Option (Bool ⊕ _)).bind (orRet fun s1 => bif s1 then (need (0 ≤ (IntKind.i64.wrap (q1.1 + (1 : Int))) ∧ (IntKind.i64.wrap (q1.1 + (1 : Int))) < (v1.1.size : Int)) (bif ((byteAt v1.1 (IntKind.i64.wrap (q1.1 + (1 : Int)))) != (45 : Int)) then (need (0 ≤ q1.1 ∧ q1.1 < (([x.A_, x.B_, x.C_] : List Int).length : Int)) ((([x.A_, x.B_, x.C_] : List Int)[q1.1.toNat]?).bind fun y2 => need ((q1.2.length + ([y2] : List Int).length) * 8 ≤ 140737488355328) (some (.go ((IntKind.i64.wrap (q1.1 + (1 : Int))), (q1.2 ++ ([y2] : List Int))))))) else (some (.go ((IntKind.i64.wrap (q1.1 + (1 : Int))), q1.2))))) else (some (.out (q1.1, q1.2)))) := by kernel_rfl
theorem f10_eq (n : Nat) (x : T_api_Inst) : f10 n x = (f27 n x.Op_).bind fun y1 => (iter (f10_b1 n x (y1.1, y1.2)) n ((0 : Int), ([] : List Int))).bind (Bo.then (fun y3 => some y3.2) (fun _ => none)) := by kernel_rfl
end Loom
namespace Loom
open Go Go.RowKit
set_option maxRecDepth 100000
noncomputable def f41_b1 (n : Nat) (x : T_api_Code × T_api_Inst × (List Bool) × (List T_latheref16_Open)) (v1 : Bool × (List Int)) (q1 : Int) : Option (Bo Int Int Unit) := (g41_t1 n x v1 q1).run
noncomputable def f41 (n : Nat) (x : T_api_Code × T_api_Inst × (List Bool) × (List T_latheref16_Open)) : Option Bool := (g41_t n x).run
theorem f41_b1_eq (n : Nat) (x : T_api_Code × T_api_Inst × (List Bool) × (List T_latheref16_Open)) (v1 : Bool × (List Int)) (q1 : Int) : f41_b1 n x v1 q1 = bif (decide (q1 < (v1.2.length : Int))) then (need (0 ≤ q1 ∧ q1 < (v1.2.length : Int)) ((v1.2[q1.toNat]?).bind fun y6 => (idx x.2.2.1 y6).bind fun y7 => bif (!y7) then (some (.ret ())) else (some (.go (IntKind.i64.wrap (q1 + (1 : Int))))))) else (some (.out q1)) := by kernel_rfl
theorem f41_eq (n : Nat) (x : T_api_Code × T_api_Inst × (List Bool) × (List T_latheref16_Open)) : f41 n x = (bif (decide ((x.2.2.2.length : Int) > (0 : Int))) then ((idx x.2.2.2 (IntKind.i64.wrap ((x.2.2.2.length : Int) - (1 : Int)))).bind fun y1 => some (.inl (y1.Op_ == (36 : Int)))) else (some (.inl false)) : Option (Bool ⊕ _)).bind (orRet fun s1 => ((f59 n (x.1, x.2.1)).bind fun y2 => bif (!y2) then (some (.inl (s1, true))) else (bif s1 then (bif (x.2.1.Op_ != (37 : Int)) then ((f60 n (x.1, x.2.1)).bind fun y3 => (idx x.2.2.2 (IntKind.i64.wrap ((x.2.2.2.length : Int) - (1 : Int)))).bind fun y4 => some (.inl (s1, (y3 != y4.Param_)))) else (some (.inl (s1, false)))) else (some (.inl (s1, false)))) : Option (Bool × Bool ⊕ _)).bind (orRet fun s2 => bif s2.2 then (some false) else ((f10 n x.2.1).bind fun y5 => (iter (f41_b1 n x (s2.1, y5)) n (0 : Int)).bind (Bo.then (fun y8 => let v1 := (s2.1, y5); (bif (x.2.1.Op_ == (34 : Int)) then (some (.inl (v1.1, true))) else (some (.inl (v1.1, (x.2.1.Op_ == (36 : Int))))) : Option (Bool × Bool ⊕ _)).bind (orRet fun s3 => bif s3.2 then (some (decide ((x.2.2.2.length : Int) < (64 : Int)))) else (bif (x.2.1.Op_ == (35 : Int)) then (bif (decide ((x.2.2.2.length : Int) > (0 : Int))) then (some (!s3.1)) else (some false)) else (bif (x.2.1.Op_ == (37 : Int)) then (some s3.1) else (some true))))) (fun z1 => some false))))) := by kernel_rfl
end Loom
namespace Loom
open Go Go.RowKit
set_option maxRecDepth 100000
noncomputable def f42 (n : Nat) (x : (List Bool)) : Option (List Bool) := (g42_t n x).run
theorem f42_eq (n : Nat) (x : (List Bool)) : f42 n x = need (x.length * 1 ≤ 140737488355328) (some x) := by kernel_rfl
end Loom
namespace Loom
open Go Go.RowKit
set_option maxRecDepth 100000
noncomputable def f12 (n : Nat) (x : T_api_Inst) : Option Bool := (g12_t n x).run
theorem f12_eq (n : Nat) (x : T_api_Inst) : f12 n x = (f27 n x.Op_).bind fun y1 => bif y1.2 then (need (0 ≤ (0 : Int) ∧ (0 : Int) < (y1.1.size : Int)) (some ((byteAt y1.1 (0 : Int)) != (45 : Int)))) else (some false) := by kernel_rfl
end Loom
namespace Loom
open Go Go.RowKit
set_option maxRecDepth 100000
noncomputable def f21_b1 (n : Nat) (x : T_api_Code) (v1 : Unit) (q1 : Int) : Option (Bo Int Int Unit) := (g21_t1 n x v1 q1).run
noncomputable def f21_b2 (n : Nat) (x : T_api_Code) (v2 : Unit) (q2 : Int) : Option (Bo Int Int Unit) := (g21_t2 n x v2 q2).run
noncomputable def f21_b3 (n : Nat) (x : T_api_Code) (v3 : Unit) (q3 : Int × (List Bool)) : Option (Bo (Int × (List Bool)) (Int × (List Bool)) Empty) := (g21_t3 n x v3 q3).run
noncomputable def f21_b4 (n : Nat) (x : T_api_Code) (v4 : Unit) (q4 : Int × (List Bool) × (List T_latheref16_Open)) : Option (Bo (Int × (List Bool) × (List T_latheref16_Open)) (Int × (List Bool) × (List T_latheref16_Open)) Int) := (g21_t4 n x v4 q4).run
noncomputable def f21 (n : Nat) (x : T_api_Code) : Option (Int × Int) := (g21_t n x).run
theorem f21_b1_eq (n : Nat) (x : T_api_Code) (v1 : Unit) (q1 : Int) : f21_b1 n x v1 q1 = bif (decide (q1 < (x.Regs_.length : Int))) then ((idx x.Regs_ q1).bind fun y2 => (f39 n (y2, x.Sign_)).bind fun y3 => bif (!y3) then (some (.ret ())) else (some (.go (IntKind.i64.wrap (q1 + (1 : Int)))))) else (some (.out q1)) := by kernel_rfl
theorem f21_b2_eq (n : Nat) (x : T_api_Code) (v2 : Unit) (q2 : Int) : f21_b2 n x v2 q2 = bif (decide (q2 < (x.Slots_.length : Int))) then ((idx x.Slots_ q2).bind fun y5 => (f40 n (y5, x.Sign_)).bind fun y6 => bif (!y6) then (some (.ret ())) else (some (.go (IntKind.i64.wrap (q2 + (1 : Int)))))) else (some (.out q2)) := by kernel_rfl
theorem f21_b3_eq (n : Nat) (x : T_api_Code) (v3 : Unit) (q3 : Int × (List Bool)) : f21_b3 n x v3 q3 = bif (decide (q3.1 < (x.Regs_.length : Int))) then (need ((q3.2.length + ([false] : List Bool).length) * 1 ≤ 140737488355328) (some (.go ((IntKind.i64.wrap (q3.1 + (1 : Int))), (q3.2 ++ ([false] : List Bool)))))) else (some (.out (q3.1, q3.2))) := by kernel_rfl
theorem f21_b4_eq (n : Nat) (x : T_api_Code) (v4 : Unit) (q4 : Int × (List Bool) × (List T_latheref16_Open)) : f21_b4 n x v4 q4 = bif (decide (q4.1 < (x.List_.length : Int))) then ((idx x.List_ q4.1).bind fun y9 => (f41 n (x, y9, q4.2.1, q4.2.2)).bind fun y10 => bif (!y10) then (some (.ret q4.1)) else ((bif (y9.Op_ == (34 : Int)) then (some (.inl (true, y9.Op_, y9.D_, y9.A_, y9.B_, y9.C_, y9.N_, y9.Bits_))) else (some (.inl ((y9.Op_ == (36 : Int)), y9.Op_, y9.D_, y9.A_, y9.B_, y9.C_, y9.N_, y9.Bits_))) : Option (Bool × Int × Int × Int × Int × Int × Int × Int ⊕ _)).bind (orRet fun s2 => bif s2.1 then ((f42 n q4.2.1).bind fun y11 => need ((q4.2.2.length + ([(⟨s2.2.1, s2.2.2.2.2.2.2.1, y11⟩ : T_latheref16_Open)] : List T_latheref16_Open).length) * 40 ≤ 140737488355328) (some (.go ((IntKind.i64.wrap (q4.1 + (1 : Int))), q4.2.1, (q4.2.2 ++ ([(⟨s2.2.1, s2.2.2.2.2.2.2.1, y11⟩ : T_latheref16_Open)] : List T_latheref16_Open)))))) else (bif (s2.2.1 == (35 : Int)) then (need (0 ≤ (IntKind.i64.wrap ((q4.2.2.length : Int) - (1 : Int))) ∧ (IntKind.i64.wrap ((q4.2.2.length : Int) - (1 : Int))) < (q4.2.2.length : Int)) ((q4.2.2[(IntKind.i64.wrap ((q4.2.2.length : Int) - (1 : Int))).toNat]?).bind fun y12 => (q4.2.2[(IntKind.i64.wrap ((q4.2.2.length : Int) - (1 : Int))).toNat]?).bind fun y13 => (f42 n y13.Set_).bind fun y14 => need (0 ≤ (IntKind.i64.wrap ((q4.2.2.length : Int) - (1 : Int))) ∧ (IntKind.i64.wrap ((q4.2.2.length : Int) - (1 : Int))) ≤ (q4.2.2.length : Int)) (need ((IntKind.i64.wrap ((q4.2.2.length : Int) - (1 : Int))).toNat ≤ q4.2.2.length) (some (.go ((IntKind.i64.wrap (q4.1 + (1 : Int))), y14, (q4.2.2.take ((IntKind.i64.wrap ((q4.2.2.length : Int) - (1 : Int))).toNat)))))))) else (bif (s2.2.1 == (37 : Int)) then (need (0 ≤ (IntKind.i64.wrap ((q4.2.2.length : Int) - (1 : Int))) ∧ (IntKind.i64.wrap ((q4.2.2.length : Int) - (1 : Int))) ≤ (q4.2.2.length : Int)) (need ((IntKind.i64.wrap ((q4.2.2.length : Int) - (1 : Int))).toNat ≤ q4.2.2.length) (some (.go ((IntKind.i64.wrap (q4.1 + (1 : Int))), q4.2.1, (q4.2.2.take ((IntKind.i64.wrap ((q4.2.2.length : Int) - (1 : Int))).toNat))))))) else ((f12 n (⟨s2.2.1, s2.2.2.1, s2.2.2.2.1, s2.2.2.2.2.1, s2.2.2.2.2.2.1, s2.2.2.2.2.2.2.1, s2.2.2.2.2.2.2.2⟩ : T_api_Inst)).bind fun y15 => bif y15 then (need (0 ≤ s2.2.2.1 ∧ s2.2.2.1 < (q4.2.1.length : Int)) ((q4.2.1[s2.2.2.1.toNat]?).bind fun y16 => some (.go ((IntKind.i64.wrap (q4.1 + (1 : Int))), (q4.2.1.set s2.2.2.1.toNat true), q4.2.2)))) else (some (.go ((IntKind.i64.wrap (q4.1 + (1 : Int))), q4.2.1, q4.2.2))))))))) else (some (.out (q4.1, q4.2.1, q4.2.2))) := by kernel_rfl
theorem f21_eq (n : Nat) (x : T_api_Code) : f21 n x = (f38 n x.Sign_).bind fun y1 => bif (y1 != (0 : Int)) then (some (y1, (-1 : Int))) else ((bif (decide ((x.Regs_.length : Int) > (16384 : Int))) then (some (.inl true)) else (some (.inl (decide ((x.List_.length : Int) > (32768 : Int))))) : Option (Bool ⊕ _)).bind (orRet fun s1 => bif s1 then (some ((181 : Int), (-1 : Int))) else (bif (decide ((x.Slots_.length : Int) > (4096 : Int))) then (some ((180 : Int), (-1 : Int))) else ((iter (f21_b1 n x ()) n (0 : Int)).bind (Bo.then (fun y4 => (iter (f21_b2 n x ()) n (0 : Int)).bind (Bo.then (fun y7 => (iter (f21_b3 n x ()) n ((0 : Int), ([] : List Bool))).bind (Bo.then (fun y8 => (iter (f21_b4 n x ()) n ((0 : Int), y8.2, ([] : List T_latheref16_Open))).bind (Bo.then (fun y17 => bif (decide ((y17.2.2.length : Int) > (0 : Int))) then (some ((160 : Int), (x.List_.length : Int))) else (some ((0 : Int), (0 : Int)))) (fun z3 => some ((160 : Int), z3)))) (fun _ => none))) (fun z2 => some ((160 : Int), (-1 : Int))))) (fun z1 => some ((160 : Int), (-1 : Int)))))))) := by kernel_rfl
end Loom
namespace Loom
open Go Go.RowKit
set_option maxRecDepth 100000
noncomputable def f24_b1 (n : Nat) (x : T_api_Code) (v1 : Unit) (q1 : Int × Int × Int) : Option (Bo (Int × Int × Int) (Int × Int × Int) Empty) := (g24_t1 n x v1 q1).run
noncomputable def f24 (n : Nat) (x : T_api_Code) : Option (Int × Int) := (g24_t n x).run
theorem f24_b1_eq (n : Nat) (x : T_api_Code) (v1 : Unit) (q1 : Int × Int × Int) : f24_b1 n x v1 q1 = bif (decide (q1.2.2 < (x.Slots_.length : Int))) then ((idx x.Slots_ q1.2.2).bind fun y1 => bif (!y1.Keep_) then (some (.go (q1.1, q1.2.1, (IntKind.i64.wrap (q1.2.2 + (1 : Int)))))) else (bif (y1.Type_.Kind_ != (3 : Int)) then (some (.go ((IntKind.i64.wrap (q1.1 + (1 : Int))), (IntKind.i64.wrap (q1.2.1 + (1 : Int))), (IntKind.i64.wrap (q1.2.2 + (1 : Int)))))) else ((bif (decide (y1.Type_.Param_ ≥ (0 : Int))) then (some (.inl ((decide (y1.Type_.Param_ < (x.Sign_.length : Int))), y1.Type_.Kind_, y1.Type_.Param_, y1.Keep_, y1.Bits_, y1.Int_))) else (some (.inl (false, y1.Type_.Kind_, y1.Type_.Param_, y1.Keep_, y1.Bits_, y1.Int_))) : Option (Bool × Int × Int × Bool × Int × Int ⊕ _)).bind (orRet fun s1 => bif s1.1 then ((idx x.Sign_ s1.2.2.1).bind fun y2 => some (.go ((IntKind.i64.wrap (q1.1 + (1 : Int))), (IntKind.i64.wrap (q1.2.1 + y2.Len_)), (IntKind.i64.wrap (q1.2.2 + (1 : Int)))))) else (some (.go ((IntKind.i64.wrap (q1.1 + (1 : Int))), q1.2.1, (IntKind.i64.wrap (q1.2.2 + (1 : Int)))))))))) else (some (.out (q1.1, q1.2.1, q1.2.2))) := by kernel_rfl
theorem f24_eq (n : Nat) (x : T_api_Code) : f24 n x = (iter (f24_b1 n x ()) n ((0 : Int), (0 : Int), (0 : Int))).bind (Bo.then (fun y3 => some (y3.1, y3.2.1)) (fun _ => none)) := by kernel_rfl
end Loom
namespace Loom
open Go Go.RowKit
set_option maxRecDepth 100000
noncomputable def f47 (n : Nat) (x : T_api_Type × (List T_api_Param)) : Option Int := (g47_t n x).run
theorem f47_eq (n : Nat) (x : T_api_Type × (List T_api_Param)) : f47 n x = bif (x.1.Kind_ != (3 : Int)) then (some (1 : Int)) else ((bif (decide (x.1.Param_ < (0 : Int))) then (some (.inl true)) else (some (.inl (decide (x.1.Param_ ≥ (x.2.length : Int))))) : Option (Bool ⊕ _)).bind (orRet fun s1 => bif s1 then (some (0 : Int)) else ((idx x.2 x.1.Param_).bind fun y1 => some y1.Len_))) := by kernel_rfl
end Loom
namespace Loom
open Go Go.RowKit
set_option maxRecDepth 100000
noncomputable def f25_b1 (n : Nat) (x : T_api_Code) (v1 : Unit) (q1 : Int × Int × Int) : Option (Bo (Int × Int × Int) (Int × Int × Int) Empty) := (g25_t1 n x v1 q1).run
noncomputable def f25 (n : Nat) (x : T_api_Code) : Option (Int × Int) := (g25_t n x).run
theorem f25_b1_eq (n : Nat) (x : T_api_Code) (v1 : Unit) (q1 : Int × Int × Int) : f25_b1 n x v1 q1 = bif (decide (q1.2.2 < (x.Slots_.length : Int))) then ((idx x.Slots_ q1.2.2).bind fun y1 => bif y1.Keep_ then ((idx x.Slots_ q1.2.2).bind fun y2 => (f47 n (y2.Type_, x.Sign_)).bind fun y3 => some (.go ((IntKind.i64.wrap (q1.1 + (1 : Int))), (IntKind.i64.wrap (q1.2.1 + y3)), (IntKind.i64.wrap (q1.2.2 + (1 : Int)))))) else (some (.go (q1.1, q1.2.1, (IntKind.i64.wrap (q1.2.2 + (1 : Int))))))) else (some (.out (q1.1, q1.2.1, q1.2.2))) := by kernel_rfl
theorem f25_eq (n : Nat) (x : T_api_Code) : f25 n x = (iter (f25_b1 n x ()) n ((0 : Int), (0 : Int), (0 : Int))).bind (Bo.then (fun y4 => some (y4.1, y4.2.1)) (fun _ => none)) := by kernel_rfl
end Loom
namespace Loom
open Go Go.RowKit
set_option maxRecDepth 100000
noncomputable def f23_b1 (n : Nat) (x : T_api_Code × T_api_Code) (v1 : Unit) (q1 : Int) : Option (Bo Int Int Unit) := (g23_t1 n x v1 q1).run
noncomputable def f23_b2 (n : Nat) (x : T_api_Code × T_api_Code) (v2 : Unit) (q2 : Int) : Option (Bo Int Int Unit) := (g23_t2 n x v2 q2).run
noncomputable def f23_b3 (n : Nat) (x : T_api_Code × T_api_Code) (v3 : Unit) (q3 : Int) : Option (Bo Int Int Unit) := (g23_t3 n x v3 q3).run
noncomputable def f23_b4 (n : Nat) (x : T_api_Code × T_api_Code) (v4 : Unit) (q4 : Int) : Option (Bo Int Int Unit) := (g23_t4 n x v4 q4).run
noncomputable def f23 (n : Nat) (x : T_api_Code × T_api_Code) : Option Bool := (g23_t n x).run
theorem f23_b1_eq (n : Nat) (x : T_api_Code × T_api_Code) (v1 : Unit) (q1 : Int) : f23_b1 n x v1 q1 = bif (decide (q1 < (x.1.Sign_.length : Int))) then ((idx x.1.Sign_ q1).bind fun y1 => (idx x.2.Sign_ q1).bind fun y2 => bif (!(y1.Name_ == y2.Name_ && (y1.Kind_ == y2.Kind_ && (y1.Len_ == y2.Len_ && true)))) then (some (.ret ())) else (some (.go (IntKind.i64.wrap (q1 + (1 : Int)))))) else (some (.out q1)) := by kernel_rfl
theorem f23_b2_eq (n : Nat) (x : T_api_Code × T_api_Code) (v2 : Unit) (q2 : Int) : f23_b2 n x v2 q2 = bif (decide (q2 < (x.1.Regs_.length : Int))) then ((idx x.1.Regs_ q2).bind fun y4 => (idx x.2.Regs_ q2).bind fun y5 => bif (!(y4.Kind_ == y5.Kind_ && (y4.Param_ == y5.Param_ && true))) then (some (.ret ())) else (some (.go (IntKind.i64.wrap (q2 + (1 : Int)))))) else (some (.out q2)) := by kernel_rfl
theorem f23_b3_eq (n : Nat) (x : T_api_Code × T_api_Code) (v3 : Unit) (q3 : Int) : f23_b3 n x v3 q3 = bif (decide (q3 < (x.1.Slots_.length : Int))) then ((idx x.1.Slots_ q3).bind fun y7 => (idx x.2.Slots_ q3).bind fun y8 => bif (!(y7.Type_.Kind_ == y8.Type_.Kind_ && (y7.Type_.Param_ == y8.Type_.Param_ && (y7.Keep_ == y8.Keep_ && (y7.Bits_ == y8.Bits_ && (y7.Int_ == y8.Int_ && true)))))) then (some (.ret ())) else (some (.go (IntKind.i64.wrap (q3 + (1 : Int)))))) else (some (.out q3)) := by kernel_rfl
theorem f23_b4_eq (n : Nat) (x : T_api_Code × T_api_Code) (v4 : Unit) (q4 : Int) : f23_b4 n x v4 q4 = bif (decide (q4 < (x.1.List_.length : Int))) then ((idx x.1.List_ q4).bind fun y10 => (idx x.2.List_ q4).bind fun y11 => bif (!(y10.Op_ == y11.Op_ && (y10.D_ == y11.D_ && (y10.A_ == y11.A_ && (y10.B_ == y11.B_ && (y10.C_ == y11.C_ && (y10.N_ == y11.N_ && (y10.Bits_ == y11.Bits_ && true)))))))) then (some (.ret ())) else (some (.go (IntKind.i64.wrap (q4 + (1 : Int)))))) else (some (.out q4)) := by kernel_rfl
theorem f23_eq (n : Nat) (x : T_api_Code × T_api_Code) : f23 n x = (bif ((x.1.Sign_.length : Int) != (x.2.Sign_.length : Int)) then (some (.inl true)) else (bif ((x.1.Regs_.length : Int) != (x.2.Regs_.length : Int)) then (some (.inl true)) else (bif ((x.1.Slots_.length : Int) != (x.2.Slots_.length : Int)) then (some (.inl true)) else (some (.inl ((x.1.List_.length : Int) != (x.2.List_.length : Int)))))) : Option (Bool ⊕ _)).bind (orRet fun s1 => bif s1 then (some false) else ((iter (f23_b1 n x ()) n (0 : Int)).bind (Bo.then (fun y3 => (iter (f23_b2 n x ()) n (0 : Int)).bind (Bo.then (fun y6 => (iter (f23_b3 n x ()) n (0 : Int)).bind (Bo.then (fun y9 => (iter (f23_b4 n x ()) n (0 : Int)).bind (Bo.then (fun y12 => some true) (fun z4 => some false))) (fun z3 => some false))) (fun z2 => some false))) (fun z1 => some false)))) := by kernel_rfl
end Loom
namespace Loom
open Go Go.RowKit
set_option maxRecDepth 100000
noncomputable def f20 (n : Nat) (x : (List T_api_Inst)) : Option (List T_api_Inst) := (g20_t n x).run
theorem f20_eq (n : Nat) (x : (List T_api_Inst)) : f20 n x = need (x.length * 56 ≤ 140737488355328) (some x) := by kernel_rfl
end Loom
namespace Loom
open Go Go.RowKit
set_option maxRecDepth 100000
noncomputable def f15 (n : Nat) (x : Unit) : Option Bool := (g15_t n x).run
theorem f15_eq (n : Nat) (x : Unit) : f15 n x = (f20 n ([(⟨(29 : Int), (1 : Int), (0 : Int), (0 : Int), (0 : Int), (0 : Int), (0 : Int)⟩ : T_api_Inst), (⟨(1 : Int), (0 : Int), (0 : Int), (0 : Int), (0 : Int), (0 : Int), (1056964608 : Int)⟩ : T_api_Inst), (⟨(6 : Int), (1 : Int), (1 : Int), (0 : Int), (0 : Int), (0 : Int), (0 : Int)⟩ : T_api_Inst), (⟨(31 : Int), (0 : Int), (1 : Int), (0 : Int), (0 : Int), (0 : Int), (0 : Int)⟩ : T_api_Inst)] : List T_api_Inst)).bind fun y1 => (f16 n (⟨([(⟨⟨#[119]⟩, (1 : Int), (3 : Int)⟩ : T_api_Param)] : List T_api_Param), ([(⟨(1 : Int), (0 : Int)⟩ : T_api_Type), (⟨(3 : Int), (0 : Int)⟩ : T_api_Type), (⟨(2 : Int), (0 : Int)⟩ : T_api_Type)] : List T_api_Type), ([] : List T_api_Slot), y1⟩ : T_api_Code)).bind fun y2 => (f20 n ([(⟨(29 : Int), (1 : Int), (0 : Int), (0 : Int), (0 : Int), (0 : Int), (0 : Int)⟩ : T_api_Inst), (⟨(6 : Int), (1 : Int), (1 : Int), (0 : Int), (0 : Int), (0 : Int), (0 : Int)⟩ : T_api_Inst)] : List T_api_Inst)).bind fun y3 => (f16 n (⟨([(⟨⟨#[119]⟩, (1 : Int), (3 : Int)⟩ : T_api_Param)] : List T_api_Param), ([(⟨(1 : Int), (0 : Int)⟩ : T_api_Type), (⟨(3 : Int), (0 : Int)⟩ : T_api_Type), (⟨(2 : Int), (0 : Int)⟩ : T_api_Type)] : List T_api_Type), ([] : List T_api_Slot), y3⟩ : T_api_Code)).bind fun y4 => (f20 n ([(⟨(36 : Int), (0 : Int), (0 : Int), (0 : Int), (0 : Int), (0 : Int), (0 : Int)⟩ : T_api_Inst), (⟨(29 : Int), (1 : Int), (0 : Int), (0 : Int), (0 : Int), (0 : Int), (0 : Int)⟩ : T_api_Inst), (⟨(37 : Int), (0 : Int), (0 : Int), (0 : Int), (0 : Int), (0 : Int), (0 : Int)⟩ : T_api_Inst)] : List T_api_Inst)).bind fun y5 => (f16 n (⟨([(⟨⟨#[119]⟩, (1 : Int), (3 : Int)⟩ : T_api_Param)] : List T_api_Param), ([(⟨(1 : Int), (0 : Int)⟩ : T_api_Type), (⟨(3 : Int), (0 : Int)⟩ : T_api_Type), (⟨(2 : Int), (0 : Int)⟩ : T_api_Type)] : List T_api_Type), ([] : List T_api_Slot), y5⟩ : T_api_Code)).bind fun y6 => bif (y2.1 == (0 : Int)) then (bif (y2.2 == (0 : Int)) then (bif (y4.1 == (160 : Int)) then (bif (y4.2 == (1 : Int)) then (bif (y6.1 == (0 : Int)) then (bif (y6.2 == (0 : Int)) then ((f11 n (⟨(6 : Int), (1 : Int), (1 : Int), (0 : Int), (0 : Int), (0 : Int), (0 : Int)⟩ : T_api_Inst)).bind fun y7 => bif y7 then ((f9 n (⟨(6 : Int), (1 : Int), (1 : Int), (0 : Int), (0 : Int), (0 : Int), (0 : Int)⟩ : T_api_Inst)).bind fun y8 => some ((y8.length : Int) == (2 : Int))) else (some false)) else (some false)) else (some false)) else (some false)) else (some false)) else (some false)) else (some false) := by kernel_rfl
end Loom
namespace Loom
open Go Go.RowKit
set_option maxRecDepth 100000
noncomputable def f8 (n : Nat) (x : T_api_Code) : Option Bool := (g8_t n x).run
theorem f8_eq (n : Nat) (x : T_api_Code) : f8 n x = (f19 n x).bind fun y1 => (f16 n (⟨y1.1, y1.2.1, y1.2.2.1, y1.2.2.2⟩ : T_api_Code)).bind fun y2 => (f21 n x).bind fun y3 => (f24 n (⟨y1.1, y1.2.1, y1.2.2.1, y1.2.2.2⟩ : T_api_Code)).bind fun y4 => (f25 n x).bind fun y5 => bif (y2.1 == y3.1) then (bif (y2.2 == y3.2) then (bif (y4.1 == y5.1) then (bif (y4.2 == y5.2) then ((f23 n (x, (⟨y1.1, y1.2.1, y1.2.2.1, y1.2.2.2⟩ : T_api_Code))).bind fun y6 => bif y6 then ((f15 n ()).bind fun y7 => some y7) else (some false)) else (some false)) else (some false)) else (some false)) else (some false) := by kernel_rfl
end Loom
