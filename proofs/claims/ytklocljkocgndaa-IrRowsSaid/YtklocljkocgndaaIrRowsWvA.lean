/- What the functions that IrRows reaches answer, and that they do (part 1 of 2). -/
import Derived.Test.YtklocljkocgndaaIrRowsIc
import Derived.WalkKit
import Derived.WalkSpells
import Derived.WalkLawsBesides
import Derived.Lib.Bytealg
set_option linter.unusedVariables false
set_option linter.unusedSimpArgs false
namespace Loom
open Go Go.RowKit
set_option maxRecDepth 100000
structure T_api_Param where
  Name_ : ByteArray
  Kind_ : Int
  Len_ : Int
def c_u8 (x : Int) : List AV := [.sc (.int .u8 x)]
def c_T_api_Param (x : T_api_Param) : List AV := [St x.Name_, I64 x.Kind_, I64 x.Len_]
structure T_api_Inst where
  Op_ : Int
  D_ : Int
  A_ : Int
  B_ : Int
  C_ : Int
  N_ : Int
  Bits_ : Int
structure T_ir_row where
  d_ : Int
  a_ : Int
  b_ : Int
  c_ : Int
  n_ : Int
def c_i64 (x : Int) : List AV := [I64 x]
def c_T_api_Inst (x : T_api_Inst) : List AV := [I64 x.Op_, I64 x.D_, I64 x.A_, I64 x.B_, I64 x.C_, I64 x.N_, .sc (.int .u32 x.Bits_)]
structure T_api_Type where
  Kind_ : Int
  Param_ : Int
def c_T_api_Type (x : T_api_Type) : List AV := [I64 x.Kind_, I64 x.Param_]
structure T_api_Slot where
  Type_ : T_api_Type
  Keep_ : Bool
  Bits_ : Int
  Int_ : Int
structure T_api_Code where
  Sign_ : (List T_api_Param)
  Regs_ : (List T_api_Type)
  Slots_ : (List T_api_Slot)
  List_ : (List T_api_Inst)
def c_T_api_Slot (x : T_api_Slot) : List AV := [I64 x.Type_.Kind_, I64 x.Type_.Param_, Bl x.Keep_, .sc (.int .u32 x.Bits_), I64 x.Int_]
def c_bool (x : Bool) : List AV := [Bl x]
def o_L7 (x : (List Int)) : List AV := [.ow 1 (x.map c_i64)]
set_option maxHeartbeats 1000000 in
theorem walk71 (s : ByteArray) (c : Int) (w : World) :
    Calls Go.Proofs.Try.prog 71 #[.string s, .int .u8 c] w fun e w' => e = .returned (.int .i64 (Lib.indexByte s.data.toList c.toNat.toUInt8)) ∧ w' = w := by
  go_enter Go.Proofs.Try.func71, Go.Proofs.Try.ntmps71
  go_wp2
  rw [run_callFunc_extern Go.Proofs.Try.func72 (by kernel_rfl) (by kernel_rfl) (by kernel_rfl) (e := Extern.BytealgIndexByte.indexByte) (by kernel_rfl), Lib.run_indexByteString]
  simp only [Result.andThen]
  rw [Oper.upon_value]
  go_wp2
  go_ret
  exact ⟨rfl, rfl⟩
def g71 (a0 : ByteArray) (a1 : Int) : Option Int := some (Lib.indexByte a0.data.toList a1.toNat.toUInt8)
theorem g71_ok (a0 : ByteArray) (a1 : Int) (r : Int) (hg : g71 a0 a1 = some r) : CallOk Go.Proofs.Try.prog 71 [St a0, .sc (.int .u8 a1)] [] (I64 r) [] := by
  obtain rfl := Option.some.inj hg
  exact CallOk.quiet (vs := [.string a0, .int .u8 a1]) fun w => walk71 a0 a1 w
def g68 (a0 : ByteArray) (a1 : Int) : Option Int := (g71 a0 a1).bind fun v1 => some v1
theorem g68_ok (a0 : ByteArray) (a1 : Int) (r : Int) (hg : g68 a0 a1 = some r) : CallOk Go.Proofs.Try.prog 68 [St a0, .sc (.int .u8 a1)] [] (I64 r) [] := by
  unfold g68 at hg
  refine CallG.narrow ?_ (by kernel_rfl) (by kernel_rfl)
  refine .of_S [0, 1] (envOf [(0, St a0), (1, .sc (.int .u8 a1))]) fn68 (by kernel_rfl) ?_
  refine W.seq ?_
  refine W.regG ?_
  refine RG.fin 1 [] (envOf [(0, St a0), (1, .sc (.int .u8 a1))]) [] (by kernel_rfl) ?_
  refine W.seq ?_
  refine W.regG ?_
  refine RG.cut 2 [] [5, 6] (envOf [(5, St a0), (6, .sc (.int .u8 a1))]) [] (by kernel_rfl) ?_
  refine RG.callP [] [] [7] false [St a0, .sc (.int .u8 a1)] (fun v1 => I64 v1) (fun v1 => []) (fun v1 => envOf [(7, I64 v1)]) (fun v1 => []) (by kernel_rfl) hg (by kernel_rfl) (fun v1 hv => CallOk.toG (g71_ok a0 a1 v1 hv)) (by kernel_rfl) (fun v1 => by kernel_rfl) (fun h => by cases h) (fun v1 hv hg => ?_)
  refine RG.fin 1 [] (envOf [(4, I64 v1)]) [] (by kernel_rfl) ?_
  obtain rfl := Option.some.inj hg
  exact W.ret (Ends.of [] (by kernel_rfl))
def g61_b1 (n : Nat) (a0 : ByteArray) (s1 : Int) : Option (Bo Int (Int × Bool) Bool) := bif (decide (s1 < (((bytesOf a0).map c_u8).length : Int))) then (idx (bytesOf a0) s1).bind fun y2 => joinJ (fun p4 : Bool => bif p4 then bif p4 then some (.go (IntKind.i64.wrap (s1 + (1)))) else some (.ret false) else joinJ (fun p5 : Bool => bif p5 then bif p5 then some (.go (IntKind.i64.wrap (s1 + (1)))) else some (.ret false) else joinJ (fun p6 : Bool => bif p6 then bif p6 then some (.go (IntKind.i64.wrap (s1 + (1)))) else some (.ret false) else (g68 ⟨#[95, 46, 47, 45]⟩ y2).bind fun v2 => bif (decide (v2 ≥ (0))) then some (.go (IntKind.i64.wrap (s1 + (1)))) else some (.ret false)) fun J6 => bif (decide (y2 ≥ (48))) then J6 (decide (y2 ≤ (57))) else J6 false) fun J5 => bif (decide (y2 ≥ (97))) then J5 (decide (y2 ≤ (122))) else J5 false) fun J4 => bif (decide (y2 ≥ (65))) then J4 (decide (y2 ≤ (90))) else J4 false else some (.out (s1, (decide (s1 < (((bytesOf a0).map c_u8).length : Int)))))
def g61 (n : Nat) (a0 : ByteArray) : Option Bool := bif (a0 == ⟨#[]⟩) then some false else bif (decide ((a0.size : Int) > (64))) then some false else (iter (g61_b1 n a0) n (0)).bind (Bo.then (fun t1 => some true) some)
theorem g61_ok (n : Nat) (a0 : ByteArray) (r : Bool) (hg : g61 n a0 = some r) : CallOk Go.Proofs.Try.prog 61 [St a0] [] (Bl r) [] := by
  unfold g61 at hg
  refine CallG.narrow ?_ (by kernel_rfl) (by kernel_rfl)
  refine .of_S [0] (envOf [(0, St a0)]) fn61 (by kernel_rfl) ?_
  refine W.seq ?_
  refine W.regG ?_
  refine RG.fin 1 [] (envOf [(0, St a0)]) [] (by kernel_rfl) ?_
  refine W.seq ?_
  refine W.seq ?_
  refine W.regG ?_
  refine RG.cut 3 [] [0, 7, 8, 9, 10] (envOf [(0, St a0), (7, Bl (a0 == ⟨#[]⟩)), (8, .un), (9, .un), (10, .un)]) [] (by kernel_rfl) ?_
  refine RG.guard (s := 7) (by kernel_rfl) hg (fun hg => ?_) (fun hg => ?_)
  · refine RG.fin 4 [] (envOf [(0, St a0), (11, Bl true)]) [] (by kernel_rfl) ?_
    refine W.condT (by kernel_rfl) ?_
    refine W.seq ?_
    refine W.regG ?_
    refine RG.fin 1 [] (envOf [(2, Bl false)]) [] (by kernel_rfl) ?_
    obtain rfl := Option.some.inj hg
    exact W.ret (Ends.of [] (by kernel_rfl))
  refine RG.fin 4 [] (envOf [(0, St a0), (11, Bl (decide ((a0.size : Int) > (64))))]) [] (by kernel_rfl) ?_
  refine W.condB (b := (decide ((a0.size : Int) > (64)))) (by kernel_rfl) hg (fun hg => ?_) (fun hg => ?_)
  · refine W.seq ?_
    refine W.regG ?_
    refine RG.fin 1 [] (envOf [(2, Bl false)]) [] (by kernel_rfl) ?_
    obtain rfl := Option.some.inj hg
    exact W.ret (Ends.of [] (by kernel_rfl))
  refine W.skip ?_
  refine W.seq ?_
  refine W.seq ?_
  refine W.regG ?_
  refine RG.fin 4 [] (envOf [(13, .im 1 ((bytesOf a0).map c_u8)), (14, I64 (((bytesOf a0).map c_u8).length : Int)), (15, I64 (0))]) [] (by kernel_rfl) ?_
  refine W.norm [] [13, 14, 15] (envOf [(13, .im 1 ((bytesOf a0).map c_u8)), (14, I64 (((bytesOf a0).map c_u8).length : Int)), (15, I64 (0))]) [] (by kernel_rfl) ?_
  refine W.loopB (fun s1 : Int => envOf [(13, .im 1 ((bytesOf a0).map c_u8)), (14, I64 (((bytesOf a0).map c_u8).length : Int)), (15, I64 s1)]) (fun s1 : Int => []) (fun t1 : Int × Bool => envOf [(13, .im 1 ((bytesOf a0).map c_u8)), (14, I64 (((bytesOf a0).map c_u8).length : Int)), (15, I64 t1.1), (16, Bl t1.2)]) (fun t1 : Int × Bool => []) (fun (r : Bool) e h => Ends [.t 2] [] (Bl r) [] .ret e h) hg (by kernel_rfl) (by kernel_rfl) (fun s1 bb hg => ?_) (fun r' hr e h q => by cases hr; exact q) (fun t1 hg => ?_)
  · unfold g61_b1 at hg
    refine W.seq ?_
    refine W.regG ?_
    refine RG.fin 1 [] (envOf [(13, .im 1 ((bytesOf a0).map c_u8)), (14, I64 (((bytesOf a0).map c_u8).length : Int)), (15, I64 s1), (16, Bl (decide (s1 < (((bytesOf a0).map c_u8).length : Int))))]) [] (by kernel_rfl) ?_
    refine W.seq ?_
    refine W.condB (b := (decide (s1 < (((bytesOf a0).map c_u8).length : Int)))) (by kernel_rfl) hg (fun hg => ?_) (fun hg => ?_)
    · refine W.skip ?_
      refine W.seq ?_
      refine W.block ?_
      refine W.seq ?_
      refine W.regG ?_
      refine RG.iadIm (c := c_u8) (xs := (bytesOf a0)) (i := s1) (k := .i64) (by kernel_rfl) (by kernel_rfl) (by kernel_rfl) hg (fun y2 _ hg => ?_)
      refine RG.fin 2 [] (envOf [(4, .sc (.int .u8 y2)), (13, .im 1 ((bytesOf a0).map c_u8)), (14, I64 (((bytesOf a0).map c_u8).length : Int)), (15, I64 s1)]) [] (by kernel_rfl) ?_
      refine W.block ?_
      refine W.seq ?_
      refine W.seqJ (fun p4 : Bool => envOf [(4, .sc (.int .u8 y2)), (13, .im 1 ((bytesOf a0).map c_u8)), (14, I64 (((bytesOf a0).map c_u8).length : Int)), (15, I64 s1), (19, Bl p4)]) (fun p4 : Bool => []) hg (fun p4 hg => ?_) (fun hg => ?_)
      · refine W.condB (b := p4) (by kernel_rfl) hg (fun hg => ?_) (fun hg => ?_)
        · refine W.skip ?_
          refine W.condB (b := p4) (by kernel_rfl) hg (fun hg => ?_) (fun hg => ?_)
          · refine W.skip ?_
            refine W.regG ?_
            refine RG.fin 2 [] (envOf [(13, .im 1 ((bytesOf a0).map c_u8)), (14, I64 (((bytesOf a0).map c_u8).length : Int)), (15, I64 (IntKind.i64.wrap (s1 + (1))))]) [] (by kernel_rfl) ?_
            obtain rfl := Option.some.inj hg
            exact ⟨rfl, by kernel_rfl, by kernel_rfl⟩
          refine W.seq ?_
          refine W.regG ?_
          refine RG.fin 1 [] (envOf [(2, Bl false)]) [] (by kernel_rfl) ?_
          obtain rfl := Option.some.inj hg
          exact W.ret ⟨rfl, Ends.of [] (by kernel_rfl)⟩
        refine W.seqJ (fun p5 : Bool => envOf [(4, .sc (.int .u8 y2)), (13, .im 1 ((bytesOf a0).map c_u8)), (14, I64 (((bytesOf a0).map c_u8).length : Int)), (15, I64 s1), (19, Bl p5)]) (fun p5 : Bool => []) hg (fun p5 hg => ?_) (fun hg => ?_)
        · refine W.condB (b := p5) (by kernel_rfl) hg (fun hg => ?_) (fun hg => ?_)
          · refine W.skip ?_
            refine W.condB (b := p5) (by kernel_rfl) hg (fun hg => ?_) (fun hg => ?_)
            · refine W.skip ?_
              refine W.regG ?_
              refine RG.fin 2 [] (envOf [(13, .im 1 ((bytesOf a0).map c_u8)), (14, I64 (((bytesOf a0).map c_u8).length : Int)), (15, I64 (IntKind.i64.wrap (s1 + (1))))]) [] (by kernel_rfl) ?_
              obtain rfl := Option.some.inj hg
              exact ⟨rfl, by kernel_rfl, by kernel_rfl⟩
            refine W.seq ?_
            refine W.regG ?_
            refine RG.fin 1 [] (envOf [(2, Bl false)]) [] (by kernel_rfl) ?_
            obtain rfl := Option.some.inj hg
            exact W.ret ⟨rfl, Ends.of [] (by kernel_rfl)⟩
          refine W.seqJ (fun p6 : Bool => envOf [(4, .sc (.int .u8 y2)), (13, .im 1 ((bytesOf a0).map c_u8)), (14, I64 (((bytesOf a0).map c_u8).length : Int)), (15, I64 s1), (19, Bl p6)]) (fun p6 : Bool => []) hg (fun p6 hg => ?_) (fun hg => ?_)
          · refine W.condB (b := p6) (by kernel_rfl) hg (fun hg => ?_) (fun hg => ?_)
            · refine W.skip ?_
              refine W.condB (b := p6) (by kernel_rfl) hg (fun hg => ?_) (fun hg => ?_)
              · refine W.skip ?_
                refine W.regG ?_
                refine RG.fin 2 [] (envOf [(13, .im 1 ((bytesOf a0).map c_u8)), (14, I64 (((bytesOf a0).map c_u8).length : Int)), (15, I64 (IntKind.i64.wrap (s1 + (1))))]) [] (by kernel_rfl) ?_
                obtain rfl := Option.some.inj hg
                exact ⟨rfl, by kernel_rfl, by kernel_rfl⟩
              refine W.seq ?_
              refine W.regG ?_
              refine RG.fin 1 [] (envOf [(2, Bl false)]) [] (by kernel_rfl) ?_
              obtain rfl := Option.some.inj hg
              exact W.ret ⟨rfl, Ends.of [] (by kernel_rfl)⟩
            refine W.regG ?_
            refine RG.cut 1 [] [13, 14, 15, 38] (envOf [(13, .im 1 ((bytesOf a0).map c_u8)), (14, I64 (((bytesOf a0).map c_u8).length : Int)), (15, I64 s1), (38, .sc (.int .u8 y2))]) [] (by kernel_rfl) ?_
            refine RG.callP [] [] [13, 14, 15, 39] false [St ⟨#[95, 46, 47, 45]⟩, .sc (.int .u8 y2)] (fun v2 => I64 v2) (fun v2 => []) (fun v2 => envOf [(13, .im 1 ((bytesOf a0).map c_u8)), (14, I64 (((bytesOf a0).map c_u8).length : Int)), (15, I64 s1), (39, I64 v2)]) (fun v2 => []) (by kernel_rfl) hg (by kernel_rfl) (fun v2 hv => CallOk.toG (g68_ok ⟨#[95, 46, 47, 45]⟩ y2 v2 hv)) (by kernel_rfl) (fun v2 => by kernel_rfl) (fun h => by cases h) (fun v2 hv hg => ?_)
            refine RG.fin 2 [] (envOf [(13, .im 1 ((bytesOf a0).map c_u8)), (14, I64 (((bytesOf a0).map c_u8).length : Int)), (15, I64 s1), (19, Bl (decide (v2 ≥ (0))))]) [] (by kernel_rfl) ?_
            refine W.condB (b := (decide (v2 ≥ (0)))) (by kernel_rfl) hg (fun hg => ?_) (fun hg => ?_)
            · refine W.skip ?_
              refine W.regG ?_
              refine RG.fin 2 [] (envOf [(13, .im 1 ((bytesOf a0).map c_u8)), (14, I64 (((bytesOf a0).map c_u8).length : Int)), (15, I64 (IntKind.i64.wrap (s1 + (1))))]) [] (by kernel_rfl) ?_
              obtain rfl := Option.some.inj hg
              exact ⟨rfl, by kernel_rfl, by kernel_rfl⟩
            refine W.seq ?_
            refine W.regG ?_
            refine RG.fin 1 [] (envOf [(2, Bl false)]) [] (by kernel_rfl) ?_
            obtain rfl := Option.some.inj hg
            exact W.ret ⟨rfl, Ends.of [] (by kernel_rfl)⟩
          refine W.regG ?_
          refine RG.cut 3 [] [4, 13, 14, 15, 34, 35, 36] (envOf [(4, .sc (.int .u8 y2)), (13, .im 1 ((bytesOf a0).map c_u8)), (14, I64 (((bytesOf a0).map c_u8).length : Int)), (15, I64 s1), (34, Bl (decide (y2 ≥ (48)))), (35, .un), (36, .un)]) [] (by kernel_rfl) ?_
          refine RG.guard (s := 34) (by kernel_rfl) hg (fun hg => ?_) (fun hg => ?_)
          · refine RG.fin 4 [] (envOf [(4, .sc (.int .u8 y2)), (13, .im 1 ((bytesOf a0).map c_u8)), (14, I64 (((bytesOf a0).map c_u8).length : Int)), (15, I64 s1), (19, Bl (decide (y2 ≤ (57))))]) [] (by kernel_rfl) ?_
            exact W.toJ (decide (y2 ≤ (57))) hg (by kernel_rfl) (by kernel_rfl)
          refine RG.fin 4 [] (envOf [(4, .sc (.int .u8 y2)), (13, .im 1 ((bytesOf a0).map c_u8)), (14, I64 (((bytesOf a0).map c_u8).length : Int)), (15, I64 s1), (19, Bl false)]) [] (by kernel_rfl) ?_
          exact W.toJ false hg (by kernel_rfl) (by kernel_rfl)
        refine W.regG ?_
        refine RG.cut 3 [] [4, 13, 14, 15, 28, 29, 30] (envOf [(4, .sc (.int .u8 y2)), (13, .im 1 ((bytesOf a0).map c_u8)), (14, I64 (((bytesOf a0).map c_u8).length : Int)), (15, I64 s1), (28, Bl (decide (y2 ≥ (97)))), (29, .un), (30, .un)]) [] (by kernel_rfl) ?_
        refine RG.guard (s := 28) (by kernel_rfl) hg (fun hg => ?_) (fun hg => ?_)
        · refine RG.fin 4 [] (envOf [(4, .sc (.int .u8 y2)), (13, .im 1 ((bytesOf a0).map c_u8)), (14, I64 (((bytesOf a0).map c_u8).length : Int)), (15, I64 s1), (19, Bl (decide (y2 ≤ (122))))]) [] (by kernel_rfl) ?_
          exact W.toJ (decide (y2 ≤ (122))) hg (by kernel_rfl) (by kernel_rfl)
        refine RG.fin 4 [] (envOf [(4, .sc (.int .u8 y2)), (13, .im 1 ((bytesOf a0).map c_u8)), (14, I64 (((bytesOf a0).map c_u8).length : Int)), (15, I64 s1), (19, Bl false)]) [] (by kernel_rfl) ?_
        exact W.toJ false hg (by kernel_rfl) (by kernel_rfl)
      refine W.regG ?_
      refine RG.cut 3 [] [4, 13, 14, 15, 22, 23, 24] (envOf [(4, .sc (.int .u8 y2)), (13, .im 1 ((bytesOf a0).map c_u8)), (14, I64 (((bytesOf a0).map c_u8).length : Int)), (15, I64 s1), (22, Bl (decide (y2 ≥ (65)))), (23, .un), (24, .un)]) [] (by kernel_rfl) ?_
      refine RG.guard (s := 22) (by kernel_rfl) hg (fun hg => ?_) (fun hg => ?_)
      · refine RG.fin 4 [] (envOf [(4, .sc (.int .u8 y2)), (13, .im 1 ((bytesOf a0).map c_u8)), (14, I64 (((bytesOf a0).map c_u8).length : Int)), (15, I64 s1), (19, Bl (decide (y2 ≤ (90))))]) [] (by kernel_rfl) ?_
        exact W.toJ (decide (y2 ≤ (90))) hg (by kernel_rfl) (by kernel_rfl)
      refine RG.fin 4 [] (envOf [(4, .sc (.int .u8 y2)), (13, .im 1 ((bytesOf a0).map c_u8)), (14, I64 (((bytesOf a0).map c_u8).length : Int)), (15, I64 s1), (19, Bl false)]) [] (by kernel_rfl) ?_
      exact W.toJ false hg (by kernel_rfl) (by kernel_rfl)
    refine W.norm [] [13, 14, 15, 16] (envOf [(13, .im 1 ((bytesOf a0).map c_u8)), (14, I64 (((bytesOf a0).map c_u8).length : Int)), (15, I64 s1), (16, Bl (decide (s1 < (((bytesOf a0).map c_u8).length : Int))))]) [] (by kernel_rfl) ?_
    refine W.exit ?_
    obtain rfl := Option.some.inj hg
    exact ⟨rfl, by kernel_rfl, by kernel_rfl⟩
  refine W.seq ?_
  refine W.regG ?_
  refine RG.fin 1 [] (envOf [(2, Bl true)]) [] (by kernel_rfl) ?_
  obtain rfl := Option.some.inj hg
  exact W.ret (Ends.of [] (by kernel_rfl))
def g48 (n : Nat) (a0 : T_api_Param) : Option Bool := (g61 n a0.Name_).bind fun v1 => bif v1 then bif (a0.Kind_ == (1)) then bif (decide (a0.Len_ ≥ (1))) then some (decide (a0.Len_ ≤ (4096))) else some false else bif (a0.Kind_ == (2)) then bif (decide (a0.Len_ ≥ (1))) then some (decide (a0.Len_ ≤ (4096))) else some false else some false else some false
theorem g48_ok (n : Nat) (a0 : T_api_Param) (r : Bool) (hg : g48 n a0 = some r) : CallOk Go.Proofs.Try.prog 48 [.ag [St a0.Name_, I64 a0.Kind_, I64 a0.Len_]] [] (Bl r) [] := by
  unfold g48 at hg
  refine CallG.narrow ?_ (by kernel_rfl) (by kernel_rfl)
  refine .of_S [0] (envOf [(0, .ag [St a0.Name_, I64 a0.Kind_, I64 a0.Len_])]) fn48 (by kernel_rfl) ?_
  refine W.seq ?_
  refine W.regG ?_
  refine RG.fin 2 [(1, 1)] (envOf [(1, .pt 1 [] 0 0)]) [(1, ⟨3, [[St a0.Name_, I64 a0.Kind_, I64 a0.Len_]]⟩)] (by kernel_rfl) ?_
  refine W.seq ?_
  refine W.regG ?_
  refine RG.cut 2 [(1, 1)] [1, 4, 7, 8, 9, 10, 11, 12, 13, 14, 17, 18, 19, 22, 23, 24] (envOf [(1, .pt 1 [] 0 0), (4, St a0.Name_), (7, .un), (8, .un), (9, .un), (10, .un), (11, .un), (12, .un), (13, .un), (14, .un), (17, .un), (18, .un), (19, .un), (22, .un), (23, .un), (24, .un)]) [(1, ⟨3, [[St a0.Name_, I64 a0.Kind_, I64 a0.Len_]]⟩)] (by kernel_rfl) ?_
  refine RG.callP [] [(1, 1)] [1, 5, 7, 8, 9, 10, 11, 12, 13, 14, 17, 18, 19, 22, 23, 24] false [St a0.Name_] (fun v1 => Bl v1) (fun v1 => []) (fun v1 => envOf [(1, .pt 1 [] 0 0), (5, Bl v1), (7, .un), (8, .un), (9, .un), (10, .un), (11, .un), (12, .un), (13, .un), (14, .un), (17, .un), (18, .un), (19, .un), (22, .un), (23, .un), (24, .un)]) (fun v1 => [(1, ⟨3, [[St a0.Name_, I64 a0.Kind_, I64 a0.Len_]]⟩)]) (by kernel_rfl) hg (by kernel_rfl) (fun v1 hv => CallOk.toG (g61_ok n a0.Name_ v1 hv)) (by kernel_rfl) (fun v1 => by kernel_rfl) (fun h => by cases h) (fun v1 hv hg => ?_)
  refine RG.cut 1 [(1, 1)] [1, 6, 7, 8, 9, 10, 11, 12, 13, 14, 17, 18, 19, 22, 23, 24] (envOf [(1, .pt 1 [] 0 0), (6, Bl v1), (7, .un), (8, .un), (9, .un), (10, .un), (11, .un), (12, .un), (13, .un), (14, .un), (17, .un), (18, .un), (19, .un), (22, .un), (23, .un), (24, .un)]) [(1, ⟨3, [[St a0.Name_, I64 a0.Kind_, I64 a0.Len_]]⟩)] (by kernel_rfl) ?_
  refine RG.guard (s := 6) (by kernel_rfl) hg (fun hg => ?_) (fun hg => ?_)
  · refine RG.cut 4 [(1, 1)] [1, 6, 10, 11, 12, 13, 14, 17, 18, 19, 22, 23, 24] (envOf [(1, .pt 1 [] 0 0), (6, Bl true), (10, Bl (a0.Kind_ == (1))), (11, .un), (12, .un), (13, .un), (14, .un), (17, .un), (18, .un), (19, .un), (22, .un), (23, .un), (24, .un)]) [(1, ⟨3, [[St a0.Name_, I64 a0.Kind_, I64 a0.Len_]]⟩)] (by kernel_rfl) ?_
    refine RG.guard (s := 10) (by kernel_rfl) hg (fun hg => ?_) (fun hg => ?_)
    · refine RG.cut 11 [(1, 1)] [1, 21, 22, 23, 24] (envOf [(1, .pt 1 [] 0 0), (21, Bl (decide (a0.Len_ ≥ (1)))), (22, .un), (23, .un), (24, .un)]) [(1, ⟨3, [[St a0.Name_, I64 a0.Kind_, I64 a0.Len_]]⟩)] (by kernel_rfl) ?_
      refine RG.guard (s := 21) (by kernel_rfl) hg (fun hg => ?_) (fun hg => ?_)
      · refine RG.fin 5 [] (envOf [(2, Bl (decide (a0.Len_ ≤ (4096))))]) [] (by kernel_rfl) ?_
        obtain rfl := Option.some.inj hg
        exact W.ret (Ends.of [] (by kernel_rfl))
      refine RG.fin 5 [] (envOf [(2, Bl false)]) [] (by kernel_rfl) ?_
      obtain rfl := Option.some.inj hg
      exact W.ret (Ends.of [] (by kernel_rfl))
    refine RG.cut 6 [(1, 1)] [1, 16, 17, 18, 19, 22, 23, 24] (envOf [(1, .pt 1 [] 0 0), (16, Bl (a0.Kind_ == (2))), (17, .un), (18, .un), (19, .un), (22, .un), (23, .un), (24, .un)]) [(1, ⟨3, [[St a0.Name_, I64 a0.Kind_, I64 a0.Len_]]⟩)] (by kernel_rfl) ?_
    refine RG.guard (s := 16) (by kernel_rfl) hg (fun hg => ?_) (fun hg => ?_)
    · refine RG.cut 5 [(1, 1)] [1, 21, 22, 23, 24] (envOf [(1, .pt 1 [] 0 0), (21, Bl (decide (a0.Len_ ≥ (1)))), (22, .un), (23, .un), (24, .un)]) [(1, ⟨3, [[St a0.Name_, I64 a0.Kind_, I64 a0.Len_]]⟩)] (by kernel_rfl) ?_
      refine RG.guard (s := 21) (by kernel_rfl) hg (fun hg => ?_) (fun hg => ?_)
      · refine RG.fin 5 [] (envOf [(2, Bl (decide (a0.Len_ ≤ (4096))))]) [] (by kernel_rfl) ?_
        obtain rfl := Option.some.inj hg
        exact W.ret (Ends.of [] (by kernel_rfl))
      refine RG.fin 5 [] (envOf [(2, Bl false)]) [] (by kernel_rfl) ?_
      obtain rfl := Option.some.inj hg
      exact W.ret (Ends.of [] (by kernel_rfl))
    refine RG.fin 10 [] (envOf [(2, Bl false)]) [] (by kernel_rfl) ?_
    obtain rfl := Option.some.inj hg
    exact W.ret (Ends.of [] (by kernel_rfl))
  refine RG.fin 20 [] (envOf [(2, Bl false)]) [] (by kernel_rfl) ?_
  obtain rfl := Option.some.inj hg
  exact W.ret (Ends.of [] (by kernel_rfl))
def g62 (n : Nat) (a0 : T_api_Param) : Option Int := (g48 n a0).bind fun v1 => bif (!v1) then some (0) else bif (a0.Kind_ == (2)) then some (IntKind.i64.wrap ((2) * a0.Len_)) else some a0.Len_
theorem g62_ok (n : Nat) (a0 : T_api_Param) (r : Int) (hg : g62 n a0 = some r) : CallOk Go.Proofs.Try.prog 62 [.ag [St a0.Name_, I64 a0.Kind_, I64 a0.Len_]] [] (I64 r) [] := by
  unfold g62 at hg
  refine CallG.narrow ?_ (by kernel_rfl) (by kernel_rfl)
  refine .of_S [0] (envOf [(0, .ag [St a0.Name_, I64 a0.Kind_, I64 a0.Len_])]) fn62 (by kernel_rfl) ?_
  refine W.seq ?_
  refine W.regG ?_
  refine RG.fin 2 [(1, 1)] (envOf [(1, .pt 1 [] 0 0)]) [(1, ⟨3, [[St a0.Name_, I64 a0.Kind_, I64 a0.Len_]]⟩)] (by kernel_rfl) ?_
  refine W.seq ?_
  refine W.block ?_
  refine W.seq ?_
  refine W.regG ?_
  refine RG.cut 1 [(1, 1)] [1, 4] (envOf [(1, .pt 1 [] 0 0), (4, .ag [St a0.Name_, I64 a0.Kind_, I64 a0.Len_])]) [(1, ⟨3, [[St a0.Name_, I64 a0.Kind_, I64 a0.Len_]]⟩)] (by kernel_rfl) ?_
  refine RG.callP [] [(1, 1)] [1, 5] false [.ag [St a0.Name_, I64 a0.Kind_, I64 a0.Len_]] (fun v1 => Bl v1) (fun v1 => []) (fun v1 => envOf [(1, .pt 1 [] 0 0), (5, Bl v1)]) (fun v1 => [(1, ⟨3, [[St a0.Name_, I64 a0.Kind_, I64 a0.Len_]]⟩)]) (by kernel_rfl) hg (by kernel_rfl) (fun v1 hv => CallOk.toG (g48_ok n a0 v1 hv)) (by kernel_rfl) (fun v1 => by kernel_rfl) (fun h => by cases h) (fun v1 hv hg => ?_)
  refine RG.fin 2 [(1, 1)] (envOf [(1, .pt 1 [] 0 0), (3, Bl (!v1))]) [(1, ⟨3, [[St a0.Name_, I64 a0.Kind_, I64 a0.Len_]]⟩)] (by kernel_rfl) ?_
  refine W.condB (b := (!v1)) (by kernel_rfl) hg (fun hg => ?_) (fun hg => ?_)
  · refine W.seq ?_
    refine W.regG ?_
    refine RG.fin 1 [] (envOf [(2, I64 (0))]) [] (by kernel_rfl) ?_
    obtain rfl := Option.some.inj hg
    exact W.ret (Ends.of [] (by kernel_rfl))
  refine W.seq ?_
  refine W.regG ?_
  refine RG.fin 4 [(1, 1)] (envOf [(1, .pt 1 [] 0 0), (7, Bl (a0.Kind_ == (2)))]) [(1, ⟨3, [[St a0.Name_, I64 a0.Kind_, I64 a0.Len_]]⟩)] (by kernel_rfl) ?_
  refine W.condB (b := (a0.Kind_ == (2))) (by kernel_rfl) hg (fun hg => ?_) (fun hg => ?_)
  · refine W.seq ?_
    refine W.regG ?_
    refine RG.fin 4 [] (envOf [(2, I64 (IntKind.i64.wrap ((2) * a0.Len_)))]) [] (by kernel_rfl) ?_
    obtain rfl := Option.some.inj hg
    exact W.ret (Ends.of [] (by kernel_rfl))
  refine W.skip ?_
  refine W.seq ?_
  refine W.regG ?_
  refine RG.fin 3 [] (envOf [(2, I64 a0.Len_)]) [] (by kernel_rfl) ?_
  obtain rfl := Option.some.inj hg
  exact W.ret (Ends.of [] (by kernel_rfl))
def g49_b1 (n : Nat) (a0 : (List T_api_Param)) (s1 : Int × Int) : Option (Bo (Int × Int) (Int × Int × Bool) Empty) := bif (decide (s1.2 < ((a0.map c_T_api_Param).length : Int))) then (idx a0 s1.2).bind fun y2 => (g62 n y2).bind fun v2 => some (.go ((IntKind.i64.wrap (s1.1 + v2)), (IntKind.i64.wrap (s1.2 + (1))))) else some (.out (s1.1, s1.2, (decide (s1.2 < ((a0.map c_T_api_Param).length : Int)))))
def g49 (n : Nat) (a0 : (List T_api_Param)) : Option Int := (iter (g49_b1 n a0) n ((0), (0))).bind (Bo.then (fun t1 => some t1.1) (fun r => r.elim))
theorem g49_ok (n : Nat) (a0 : (List T_api_Param)) (r : Int) (hg : g49 n a0 = some r) : CallOk Go.Proofs.Try.prog 49 [.im 3 (a0.map c_T_api_Param)] [] (I64 r) [] := by
  unfold g49 at hg
  refine CallG.narrow ?_ (by kernel_rfl) (by kernel_rfl)
  refine .of_S [0] (envOf [(0, .im 3 (a0.map c_T_api_Param))]) fn49 (by kernel_rfl) ?_
  refine W.seq ?_
  refine W.regG ?_
  refine RG.fin 1 [] (envOf [(0, .im 3 (a0.map c_T_api_Param))]) [] (by kernel_rfl) ?_
  refine W.seq ?_
  refine W.regG ?_
  refine RG.fin 1 [] (envOf [(0, .im 3 (a0.map c_T_api_Param)), (3, I64 (0))]) [] (by kernel_rfl) ?_
  refine W.seq ?_
  refine W.seq ?_
  refine W.regG ?_
  refine RG.fin 3 [] (envOf [(3, I64 (0)), (6, .im 3 (a0.map c_T_api_Param)), (7, I64 ((a0.map c_T_api_Param).length : Int)), (8, I64 (0))]) [] (by kernel_rfl) ?_
  refine W.norm [] [3, 6, 7, 8] (envOf [(3, I64 (0)), (6, .im 3 (a0.map c_T_api_Param)), (7, I64 ((a0.map c_T_api_Param).length : Int)), (8, I64 (0))]) [] (by kernel_rfl) ?_
  refine W.loopB (fun s1 : Int × Int => envOf [(3, I64 s1.1), (6, .im 3 (a0.map c_T_api_Param)), (7, I64 ((a0.map c_T_api_Param).length : Int)), (8, I64 s1.2)]) (fun s1 : Int × Int => []) (fun t1 : Int × Int × Bool => envOf [(3, I64 t1.1), (6, .im 3 (a0.map c_T_api_Param)), (7, I64 ((a0.map c_T_api_Param).length : Int)), (8, I64 t1.2.1), (9, Bl t1.2.2)]) (fun t1 : Int × Int × Bool => []) (fun (_ : Empty) _ _ => False) hg (by kernel_rfl) (by kernel_rfl) (fun s1 bb hg => ?_) (fun _ _ _ _ q => q.elim) (fun t1 hg => ?_)
  · unfold g49_b1 at hg
    refine W.seq ?_
    refine W.regG ?_
    refine RG.fin 1 [] (envOf [(3, I64 s1.1), (6, .im 3 (a0.map c_T_api_Param)), (7, I64 ((a0.map c_T_api_Param).length : Int)), (8, I64 s1.2), (9, Bl (decide (s1.2 < ((a0.map c_T_api_Param).length : Int))))]) [] (by kernel_rfl) ?_
    refine W.seq ?_
    refine W.condB (b := (decide (s1.2 < ((a0.map c_T_api_Param).length : Int)))) (by kernel_rfl) hg (fun hg => ?_) (fun hg => ?_)
    · refine W.skip ?_
      refine W.seq ?_
      refine W.block ?_
      refine W.seq ?_
      refine W.regG ?_
      refine RG.iadIm (c := c_T_api_Param) (xs := a0) (i := s1.2) (k := .i64) (by kernel_rfl) (by kernel_rfl) (by kernel_rfl) hg (fun y2 _ hg => ?_)
      refine RG.fin 3 [(5, 5)] (envOf [(3, I64 s1.1), (5, .pt 5 [] 0 0), (6, .im 3 (a0.map c_T_api_Param)), (7, I64 ((a0.map c_T_api_Param).length : Int)), (8, I64 s1.2)]) [(5, ⟨3, [[St y2.Name_, I64 y2.Kind_, I64 y2.Len_]]⟩)] (by kernel_rfl) ?_
      refine W.regG ?_
      refine RG.cut 2 [] [6, 7, 8, 12, 13] (envOf [(6, .im 3 (a0.map c_T_api_Param)), (7, I64 ((a0.map c_T_api_Param).length : Int)), (8, I64 s1.2), (12, I64 s1.1), (13, .ag [St y2.Name_, I64 y2.Kind_, I64 y2.Len_])]) [] (by kernel_rfl) ?_
      refine RG.callP [] [] [6, 7, 8, 12, 14] false [.ag [St y2.Name_, I64 y2.Kind_, I64 y2.Len_]] (fun v2 => I64 v2) (fun v2 => []) (fun v2 => envOf [(6, .im 3 (a0.map c_T_api_Param)), (7, I64 ((a0.map c_T_api_Param).length : Int)), (8, I64 s1.2), (12, I64 s1.1), (14, I64 v2)]) (fun v2 => []) (by kernel_rfl) hg (by kernel_rfl) (fun v2 hv => CallOk.toG (g62_ok n y2 v2 hv)) (by kernel_rfl) (fun v2 => by kernel_rfl) (fun h => by cases h) (fun v2 hv hg => ?_)
      refine RG.fin 2 [] (envOf [(3, I64 (IntKind.i64.wrap (s1.1 + v2))), (6, .im 3 (a0.map c_T_api_Param)), (7, I64 ((a0.map c_T_api_Param).length : Int)), (8, I64 s1.2)]) [] (by kernel_rfl) ?_
      refine W.regG ?_
      refine RG.fin 2 [] (envOf [(3, I64 (IntKind.i64.wrap (s1.1 + v2))), (6, .im 3 (a0.map c_T_api_Param)), (7, I64 ((a0.map c_T_api_Param).length : Int)), (8, I64 (IntKind.i64.wrap (s1.2 + (1))))]) [] (by kernel_rfl) ?_
      obtain rfl := Option.some.inj hg
      exact ⟨rfl, by kernel_rfl, by kernel_rfl⟩
    refine W.norm [] [3, 6, 7, 8, 9] (envOf [(3, I64 s1.1), (6, .im 3 (a0.map c_T_api_Param)), (7, I64 ((a0.map c_T_api_Param).length : Int)), (8, I64 s1.2), (9, Bl (decide (s1.2 < ((a0.map c_T_api_Param).length : Int))))]) [] (by kernel_rfl) ?_
    refine W.exit ?_
    obtain rfl := Option.some.inj hg
    exact ⟨rfl, by kernel_rfl, by kernel_rfl⟩
  refine W.seq ?_
  refine W.regG ?_
  refine RG.fin 2 [] (envOf [(2, I64 t1.1)]) [] (by kernel_rfl) ?_
  obtain rfl := Option.some.inj hg
  exact W.ret (Ends.of [] (by kernel_rfl))
def g26 (a0 : Int) : Option (T_ir_row × Bool) := bif (a0 == (1)) then some ((⟨(1), (0), (0), (0), (0)⟩ : T_ir_row), true) else bif (a0 == (2)) then some ((⟨(2), (0), (0), (0), (1)⟩ : T_ir_row), true) else bif (a0 == (3)) then some ((⟨(8), (7), (0), (0), (0)⟩ : T_ir_row), true) else joinJ (fun p1 : Bool => bif p1 then some ((⟨(4), (5), (5), (0), (0)⟩ : T_ir_row), true) else joinJ (fun p2 : Bool => bif p2 then some ((⟨(4), (5), (0), (0), (0)⟩ : T_ir_row), true) else bif (a0 == (15)) then some ((⟨(4), (5), (5), (5), (0)⟩ : T_ir_row), true) else bif (a0 == (16)) then some ((⟨(1), (1), (2), (0), (0)⟩ : T_ir_row), true) else bif (a0 == (17)) then some ((⟨(1), (2), (0), (0), (0)⟩ : T_ir_row), true) else bif (a0 == (18)) then some ((⟨(2), (1), (0), (0), (0)⟩ : T_ir_row), true) else joinJ (fun p3 : Bool => bif p3 then some ((⟨(1), (3), (0), (0), (0)⟩ : T_ir_row), true) else joinJ (fun p4 : Bool => bif p4 then some ((⟨(2), (2), (0), (0), (0)⟩ : T_ir_row), true) else joinJ (fun p5 : Bool => bif p5 then some ((⟨(2), (2), (2), (0), (0)⟩ : T_ir_row), true) else bif (a0 == (26)) then some ((⟨(2), (2), (2), (2), (0)⟩ : T_ir_row), true) else joinJ (fun p6 : Bool => bif p6 then some ((⟨(3), (0), (0), (0), (2)⟩ : T_ir_row), true) else bif (a0 == (31)) then some ((⟨(0), (3), (0), (0), (2)⟩ : T_ir_row), true) else bif (a0 == (32)) then some ((⟨(8), (0), (0), (0), (3)⟩ : T_ir_row), true) else bif (a0 == (33)) then some ((⟨(0), (8), (0), (0), (3)⟩ : T_ir_row), true) else bif (a0 == (34)) then some ((⟨(0), (2), (0), (0), (0)⟩ : T_ir_row), true) else bif (a0 == (36)) then some ((⟨(0), (0), (0), (0), (4)⟩ : T_ir_row), true) else bif (a0 == (35)) then bif (a0 == (35)) then some ((⟨(0), (0), (0), (0), (0)⟩ : T_ir_row), true) else some ((⟨(0), (0), (0), (0), (0)⟩ : T_ir_row), false) else bif (a0 == (37)) then some ((⟨(0), (0), (0), (0), (0)⟩ : T_ir_row), true) else some ((⟨(0), (0), (0), (0), (0)⟩ : T_ir_row), false)) fun J6 => bif (a0 == (29)) then J6 (a0 == (29)) else J6 (a0 == (30))) fun J5 => bif (a0 == (22)) then J5 (a0 == (22)) else bif (a0 == (23)) then J5 (a0 == (23)) else bif (a0 == (24)) then J5 (a0 == (24)) else bif (a0 == (27)) then J5 (a0 == (27)) else J5 (a0 == (28))) fun J4 => bif (a0 == (21)) then J4 (a0 == (21)) else J4 (a0 == (25))) fun J3 => bif (a0 == (19)) then J3 (a0 == (19)) else J3 (a0 == (20))) fun J2 => bif (a0 == (11)) then J2 (a0 == (11)) else bif (a0 == (12)) then J2 (a0 == (12)) else bif (a0 == (13)) then J2 (a0 == (13)) else J2 (a0 == (14))) fun J1 => bif (a0 == (4)) then J1 (a0 == (4)) else bif (a0 == (5)) then J1 (a0 == (5)) else bif (a0 == (6)) then J1 (a0 == (6)) else bif (a0 == (7)) then J1 (a0 == (7)) else bif (a0 == (8)) then J1 (a0 == (8)) else bif (a0 == (9)) then J1 (a0 == (9)) else J1 (a0 == (10))
theorem g26_ok (a0 : Int) (r : T_ir_row × Bool) (hg : g26 a0 = some r) : CallOk Go.Proofs.Try.prog 26 [I64 a0] [] (.tu [.ag [I64 r.1.d_, I64 r.1.a_, I64 r.1.b_, I64 r.1.c_, I64 r.1.n_], Bl r.2]) [] := by
  unfold g26 at hg
  refine CallG.narrow ?_ (by kernel_rfl) (by kernel_rfl)
  refine .of_S [0] (envOf [(0, I64 a0)]) fn26 (by kernel_rfl) ?_
  refine W.seq ?_
  refine W.regG ?_
  refine RG.fin 2 [(2, 2)] (envOf [(0, I64 a0), (2, .pt 2 [] 0 0)]) [(2, ⟨5, [[I64 (0), I64 (0), I64 (0), I64 (0), I64 (0)]]⟩)] (by kernel_rfl) ?_
  refine W.seq ?_
  refine W.seq ?_
  refine W.regG ?_
  refine RG.fin 1 [(2, 2)] (envOf [(2, .pt 2 [] 0 0), (4, I64 a0)]) [(2, ⟨5, [[I64 (0), I64 (0), I64 (0), I64 (0), I64 (0)]]⟩)] (by kernel_rfl) ?_
  refine W.block ?_
  refine W.seq ?_
  refine W.regG ?_
  refine RG.fin 2 [(2, 2)] (envOf [(2, .pt 2 [] 0 0), (4, I64 a0), (5, Bl (a0 == (1)))]) [(2, ⟨5, [[I64 (0), I64 (0), I64 (0), I64 (0), I64 (0)]]⟩)] (by kernel_rfl) ?_
  refine W.condB (b := (a0 == (1))) (by kernel_rfl) hg (fun hg => ?_) (fun hg => ?_)
  · refine W.seq ?_
    refine W.regG ?_
    refine RG.fin 3 [(2, 2)] (envOf [(2, .pt 2 [] 0 0), (3, Bl true)]) [(2, ⟨5, [[I64 (1), I64 (0), I64 (0), I64 (0), I64 (0)]]⟩)] (by kernel_rfl) ?_
    obtain rfl := Option.some.inj hg
    exact W.ret (Ends.of [] (by kernel_rfl))
  refine W.seq ?_
  refine W.regG ?_
  refine RG.fin 2 [(2, 2)] (envOf [(2, .pt 2 [] 0 0), (4, I64 a0), (8, Bl (a0 == (2)))]) [(2, ⟨5, [[I64 (0), I64 (0), I64 (0), I64 (0), I64 (0)]]⟩)] (by kernel_rfl) ?_
  refine W.condB (b := (a0 == (2))) (by kernel_rfl) hg (fun hg => ?_) (fun hg => ?_)
  · refine W.seq ?_
    refine W.regG ?_
    refine RG.fin 3 [(2, 2)] (envOf [(2, .pt 2 [] 0 0), (3, Bl true)]) [(2, ⟨5, [[I64 (2), I64 (0), I64 (0), I64 (0), I64 (1)]]⟩)] (by kernel_rfl) ?_
    obtain rfl := Option.some.inj hg
    exact W.ret (Ends.of [] (by kernel_rfl))
  refine W.seq ?_
  refine W.regG ?_
  refine RG.fin 2 [(2, 2)] (envOf [(2, .pt 2 [] 0 0), (4, I64 a0), (11, Bl (a0 == (3)))]) [(2, ⟨5, [[I64 (0), I64 (0), I64 (0), I64 (0), I64 (0)]]⟩)] (by kernel_rfl) ?_
  refine W.condB (b := (a0 == (3))) (by kernel_rfl) hg (fun hg => ?_) (fun hg => ?_)
  · refine W.seq ?_
    refine W.regG ?_
    refine RG.fin 3 [(2, 2)] (envOf [(2, .pt 2 [] 0 0), (3, Bl true)]) [(2, ⟨5, [[I64 (8), I64 (7), I64 (0), I64 (0), I64 (0)]]⟩)] (by kernel_rfl) ?_
    obtain rfl := Option.some.inj hg
    exact W.ret (Ends.of [] (by kernel_rfl))
  refine W.seqJ (fun p1 : Bool => envOf [(2, .pt 2 [] 0 0), (4, I64 a0), (14, Bl p1)]) (fun p1 : Bool => [(2, ⟨5, [[I64 (0), I64 (0), I64 (0), I64 (0), I64 (0)]]⟩)]) hg (fun p1 hg => ?_) (fun hg => ?_)
  · refine W.condB (b := p1) (by kernel_rfl) hg (fun hg => ?_) (fun hg => ?_)
    · refine W.seq ?_
      refine W.regG ?_
      refine RG.fin 3 [(2, 2)] (envOf [(2, .pt 2 [] 0 0), (3, Bl true)]) [(2, ⟨5, [[I64 (4), I64 (5), I64 (5), I64 (0), I64 (0)]]⟩)] (by kernel_rfl) ?_
      obtain rfl := Option.some.inj hg
      exact W.ret (Ends.of [] (by kernel_rfl))
    refine W.seqJ (fun p2 : Bool => envOf [(2, .pt 2 [] 0 0), (4, I64 a0), (23, Bl p2)]) (fun p2 : Bool => [(2, ⟨5, [[I64 (0), I64 (0), I64 (0), I64 (0), I64 (0)]]⟩)]) hg (fun p2 hg => ?_) (fun hg => ?_)
    · refine W.condB (b := p2) (by kernel_rfl) hg (fun hg => ?_) (fun hg => ?_)
      · refine W.seq ?_
        refine W.regG ?_
        refine RG.fin 3 [(2, 2)] (envOf [(2, .pt 2 [] 0 0), (3, Bl true)]) [(2, ⟨5, [[I64 (4), I64 (5), I64 (0), I64 (0), I64 (0)]]⟩)] (by kernel_rfl) ?_
        obtain rfl := Option.some.inj hg
        exact W.ret (Ends.of [] (by kernel_rfl))
      refine W.seq ?_
      refine W.regG ?_
      refine RG.fin 2 [(2, 2)] (envOf [(2, .pt 2 [] 0 0), (4, I64 a0), (29, Bl (a0 == (15)))]) [(2, ⟨5, [[I64 (0), I64 (0), I64 (0), I64 (0), I64 (0)]]⟩)] (by kernel_rfl) ?_
      refine W.condB (b := (a0 == (15))) (by kernel_rfl) hg (fun hg => ?_) (fun hg => ?_)
      · refine W.seq ?_
        refine W.regG ?_
        refine RG.fin 3 [(2, 2)] (envOf [(2, .pt 2 [] 0 0), (3, Bl true)]) [(2, ⟨5, [[I64 (4), I64 (5), I64 (5), I64 (5), I64 (0)]]⟩)] (by kernel_rfl) ?_
        obtain rfl := Option.some.inj hg
        exact W.ret (Ends.of [] (by kernel_rfl))
      refine W.seq ?_
      refine W.regG ?_
      refine RG.fin 2 [(2, 2)] (envOf [(2, .pt 2 [] 0 0), (4, I64 a0), (32, Bl (a0 == (16)))]) [(2, ⟨5, [[I64 (0), I64 (0), I64 (0), I64 (0), I64 (0)]]⟩)] (by kernel_rfl) ?_
      refine W.condB (b := (a0 == (16))) (by kernel_rfl) hg (fun hg => ?_) (fun hg => ?_)
      · refine W.seq ?_
        refine W.regG ?_
        refine RG.fin 3 [(2, 2)] (envOf [(2, .pt 2 [] 0 0), (3, Bl true)]) [(2, ⟨5, [[I64 (1), I64 (1), I64 (2), I64 (0), I64 (0)]]⟩)] (by kernel_rfl) ?_
        obtain rfl := Option.some.inj hg
        exact W.ret (Ends.of [] (by kernel_rfl))
      refine W.seq ?_
      refine W.regG ?_
      refine RG.fin 2 [(2, 2)] (envOf [(2, .pt 2 [] 0 0), (4, I64 a0), (35, Bl (a0 == (17)))]) [(2, ⟨5, [[I64 (0), I64 (0), I64 (0), I64 (0), I64 (0)]]⟩)] (by kernel_rfl) ?_
      refine W.condB (b := (a0 == (17))) (by kernel_rfl) hg (fun hg => ?_) (fun hg => ?_)
      · refine W.seq ?_
        refine W.regG ?_
        refine RG.fin 3 [(2, 2)] (envOf [(2, .pt 2 [] 0 0), (3, Bl true)]) [(2, ⟨5, [[I64 (1), I64 (2), I64 (0), I64 (0), I64 (0)]]⟩)] (by kernel_rfl) ?_
        obtain rfl := Option.some.inj hg
        exact W.ret (Ends.of [] (by kernel_rfl))
      refine W.seq ?_
      refine W.regG ?_
      refine RG.fin 2 [(2, 2)] (envOf [(2, .pt 2 [] 0 0), (4, I64 a0), (38, Bl (a0 == (18)))]) [(2, ⟨5, [[I64 (0), I64 (0), I64 (0), I64 (0), I64 (0)]]⟩)] (by kernel_rfl) ?_
      refine W.condB (b := (a0 == (18))) (by kernel_rfl) hg (fun hg => ?_) (fun hg => ?_)
      · refine W.seq ?_
        refine W.regG ?_
        refine RG.fin 3 [(2, 2)] (envOf [(2, .pt 2 [] 0 0), (3, Bl true)]) [(2, ⟨5, [[I64 (2), I64 (1), I64 (0), I64 (0), I64 (0)]]⟩)] (by kernel_rfl) ?_
        obtain rfl := Option.some.inj hg
        exact W.ret (Ends.of [] (by kernel_rfl))
      refine W.seqJ (fun p3 : Bool => envOf [(2, .pt 2 [] 0 0), (4, I64 a0), (41, Bl p3)]) (fun p3 : Bool => [(2, ⟨5, [[I64 (0), I64 (0), I64 (0), I64 (0), I64 (0)]]⟩)]) hg (fun p3 hg => ?_) (fun hg => ?_)
      · refine W.condB (b := p3) (by kernel_rfl) hg (fun hg => ?_) (fun hg => ?_)
        · refine W.seq ?_
          refine W.regG ?_
          refine RG.fin 3 [(2, 2)] (envOf [(2, .pt 2 [] 0 0), (3, Bl true)]) [(2, ⟨5, [[I64 (1), I64 (3), I64 (0), I64 (0), I64 (0)]]⟩)] (by kernel_rfl) ?_
          obtain rfl := Option.some.inj hg
          exact W.ret (Ends.of [] (by kernel_rfl))
        refine W.seqJ (fun p4 : Bool => envOf [(2, .pt 2 [] 0 0), (4, I64 a0), (45, Bl p4)]) (fun p4 : Bool => [(2, ⟨5, [[I64 (0), I64 (0), I64 (0), I64 (0), I64 (0)]]⟩)]) hg (fun p4 hg => ?_) (fun hg => ?_)
        · refine W.condB (b := p4) (by kernel_rfl) hg (fun hg => ?_) (fun hg => ?_)
          · refine W.seq ?_
            refine W.regG ?_
            refine RG.fin 3 [(2, 2)] (envOf [(2, .pt 2 [] 0 0), (3, Bl true)]) [(2, ⟨5, [[I64 (2), I64 (2), I64 (0), I64 (0), I64 (0)]]⟩)] (by kernel_rfl) ?_
            obtain rfl := Option.some.inj hg
            exact W.ret (Ends.of [] (by kernel_rfl))
          refine W.seqJ (fun p5 : Bool => envOf [(2, .pt 2 [] 0 0), (4, I64 a0), (49, Bl p5)]) (fun p5 : Bool => [(2, ⟨5, [[I64 (0), I64 (0), I64 (0), I64 (0), I64 (0)]]⟩)]) hg (fun p5 hg => ?_) (fun hg => ?_)
          · refine W.condB (b := p5) (by kernel_rfl) hg (fun hg => ?_) (fun hg => ?_)
            · refine W.seq ?_
              refine W.regG ?_
              refine RG.fin 3 [(2, 2)] (envOf [(2, .pt 2 [] 0 0), (3, Bl true)]) [(2, ⟨5, [[I64 (2), I64 (2), I64 (2), I64 (0), I64 (0)]]⟩)] (by kernel_rfl) ?_
              obtain rfl := Option.some.inj hg
              exact W.ret (Ends.of [] (by kernel_rfl))
            refine W.seq ?_
            refine W.regG ?_
            refine RG.fin 2 [(2, 2)] (envOf [(2, .pt 2 [] 0 0), (4, I64 a0), (56, Bl (a0 == (26)))]) [(2, ⟨5, [[I64 (0), I64 (0), I64 (0), I64 (0), I64 (0)]]⟩)] (by kernel_rfl) ?_
            refine W.condB (b := (a0 == (26))) (by kernel_rfl) hg (fun hg => ?_) (fun hg => ?_)
            · refine W.seq ?_
              refine W.regG ?_
              refine RG.fin 3 [(2, 2)] (envOf [(2, .pt 2 [] 0 0), (3, Bl true)]) [(2, ⟨5, [[I64 (2), I64 (2), I64 (2), I64 (2), I64 (0)]]⟩)] (by kernel_rfl) ?_
              obtain rfl := Option.some.inj hg
              exact W.ret (Ends.of [] (by kernel_rfl))
            refine W.seqJ (fun p6 : Bool => envOf [(2, .pt 2 [] 0 0), (4, I64 a0), (59, Bl p6)]) (fun p6 : Bool => [(2, ⟨5, [[I64 (0), I64 (0), I64 (0), I64 (0), I64 (0)]]⟩)]) hg (fun p6 hg => ?_) (fun hg => ?_)
            · refine W.condB (b := p6) (by kernel_rfl) hg (fun hg => ?_) (fun hg => ?_)
              · refine W.seq ?_
                refine W.regG ?_
                refine RG.fin 3 [(2, 2)] (envOf [(2, .pt 2 [] 0 0), (3, Bl true)]) [(2, ⟨5, [[I64 (3), I64 (0), I64 (0), I64 (0), I64 (2)]]⟩)] (by kernel_rfl) ?_
                obtain rfl := Option.some.inj hg
                exact W.ret (Ends.of [] (by kernel_rfl))
              refine W.seq ?_
              refine W.regG ?_
              refine RG.fin 2 [(2, 2)] (envOf [(2, .pt 2 [] 0 0), (4, I64 a0), (63, Bl (a0 == (31)))]) [(2, ⟨5, [[I64 (0), I64 (0), I64 (0), I64 (0), I64 (0)]]⟩)] (by kernel_rfl) ?_
              refine W.condB (b := (a0 == (31))) (by kernel_rfl) hg (fun hg => ?_) (fun hg => ?_)
              · refine W.seq ?_
                refine W.regG ?_
                refine RG.fin 3 [(2, 2)] (envOf [(2, .pt 2 [] 0 0), (3, Bl true)]) [(2, ⟨5, [[I64 (0), I64 (3), I64 (0), I64 (0), I64 (2)]]⟩)] (by kernel_rfl) ?_
                obtain rfl := Option.some.inj hg
                exact W.ret (Ends.of [] (by kernel_rfl))
              refine W.seq ?_
              refine W.regG ?_
              refine RG.fin 2 [(2, 2)] (envOf [(2, .pt 2 [] 0 0), (4, I64 a0), (66, Bl (a0 == (32)))]) [(2, ⟨5, [[I64 (0), I64 (0), I64 (0), I64 (0), I64 (0)]]⟩)] (by kernel_rfl) ?_
              refine W.condB (b := (a0 == (32))) (by kernel_rfl) hg (fun hg => ?_) (fun hg => ?_)
              · refine W.seq ?_
                refine W.regG ?_
                refine RG.fin 3 [(2, 2)] (envOf [(2, .pt 2 [] 0 0), (3, Bl true)]) [(2, ⟨5, [[I64 (8), I64 (0), I64 (0), I64 (0), I64 (3)]]⟩)] (by kernel_rfl) ?_
                obtain rfl := Option.some.inj hg
                exact W.ret (Ends.of [] (by kernel_rfl))
              refine W.seq ?_
              refine W.regG ?_
              refine RG.fin 2 [(2, 2)] (envOf [(2, .pt 2 [] 0 0), (4, I64 a0), (69, Bl (a0 == (33)))]) [(2, ⟨5, [[I64 (0), I64 (0), I64 (0), I64 (0), I64 (0)]]⟩)] (by kernel_rfl) ?_
              refine W.condB (b := (a0 == (33))) (by kernel_rfl) hg (fun hg => ?_) (fun hg => ?_)
              · refine W.seq ?_
                refine W.regG ?_
                refine RG.fin 3 [(2, 2)] (envOf [(2, .pt 2 [] 0 0), (3, Bl true)]) [(2, ⟨5, [[I64 (0), I64 (8), I64 (0), I64 (0), I64 (3)]]⟩)] (by kernel_rfl) ?_
                obtain rfl := Option.some.inj hg
                exact W.ret (Ends.of [] (by kernel_rfl))
              refine W.seq ?_
              refine W.regG ?_
              refine RG.fin 2 [(2, 2)] (envOf [(2, .pt 2 [] 0 0), (4, I64 a0), (72, Bl (a0 == (34)))]) [(2, ⟨5, [[I64 (0), I64 (0), I64 (0), I64 (0), I64 (0)]]⟩)] (by kernel_rfl) ?_
              refine W.condB (b := (a0 == (34))) (by kernel_rfl) hg (fun hg => ?_) (fun hg => ?_)
              · refine W.seq ?_
                refine W.regG ?_
                refine RG.fin 3 [(2, 2)] (envOf [(2, .pt 2 [] 0 0), (3, Bl true)]) [(2, ⟨5, [[I64 (0), I64 (2), I64 (0), I64 (0), I64 (0)]]⟩)] (by kernel_rfl) ?_
                obtain rfl := Option.some.inj hg
                exact W.ret (Ends.of [] (by kernel_rfl))
              refine W.seq ?_
              refine W.regG ?_
              refine RG.fin 2 [(2, 2)] (envOf [(2, .pt 2 [] 0 0), (4, I64 a0), (75, Bl (a0 == (36)))]) [(2, ⟨5, [[I64 (0), I64 (0), I64 (0), I64 (0), I64 (0)]]⟩)] (by kernel_rfl) ?_
              refine W.condB (b := (a0 == (36))) (by kernel_rfl) hg (fun hg => ?_) (fun hg => ?_)
              · refine W.seq ?_
                refine W.regG ?_
                refine RG.fin 3 [(2, 2)] (envOf [(2, .pt 2 [] 0 0), (3, Bl true)]) [(2, ⟨5, [[I64 (0), I64 (0), I64 (0), I64 (0), I64 (4)]]⟩)] (by kernel_rfl) ?_
                obtain rfl := Option.some.inj hg
                exact W.ret (Ends.of [] (by kernel_rfl))
              refine W.seq ?_
              refine W.seq ?_
              refine W.regG ?_
              refine RG.fin 2 [(2, 2)] (envOf [(2, .pt 2 [] 0 0), (4, I64 a0), (78, Bl (a0 == (35)))]) [(2, ⟨5, [[I64 (0), I64 (0), I64 (0), I64 (0), I64 (0)]]⟩)] (by kernel_rfl) ?_
              refine W.condB (b := (a0 == (35))) (by kernel_rfl) hg (fun hg => ?_) (fun hg => ?_)
              · refine W.skip ?_
                refine W.condB (b := (a0 == (35))) (by kernel_rfl) hg (fun hg => ?_) (fun hg => ?_)
                · refine W.seq ?_
                  refine W.regG ?_
                  refine RG.fin 3 [(2, 2)] (envOf [(2, .pt 2 [] 0 0), (3, Bl true)]) [(2, ⟨5, [[I64 (0), I64 (0), I64 (0), I64 (0), I64 (0)]]⟩)] (by kernel_rfl) ?_
                  obtain rfl := Option.some.inj hg
                  exact W.ret (Ends.of [] (by kernel_rfl))
                refine W.skip ?_
                refine W.seq ?_
                refine W.regG ?_
                refine RG.fin 3 [(2, 2)] (envOf [(2, .pt 2 [] 0 0), (3, Bl false)]) [(2, ⟨5, [[I64 (0), I64 (0), I64 (0), I64 (0), I64 (0)]]⟩)] (by kernel_rfl) ?_
                obtain rfl := Option.some.inj hg
                exact W.ret (Ends.of [] (by kernel_rfl))
              refine W.regG ?_
              refine RG.fin 2 [(2, 2)] (envOf [(2, .pt 2 [] 0 0), (78, Bl (a0 == (37)))]) [(2, ⟨5, [[I64 (0), I64 (0), I64 (0), I64 (0), I64 (0)]]⟩)] (by kernel_rfl) ?_
              refine W.condB (b := (a0 == (37))) (by kernel_rfl) hg (fun hg => ?_) (fun hg => ?_)
              · refine W.seq ?_
                refine W.regG ?_
                refine RG.fin 3 [(2, 2)] (envOf [(2, .pt 2 [] 0 0), (3, Bl true)]) [(2, ⟨5, [[I64 (0), I64 (0), I64 (0), I64 (0), I64 (0)]]⟩)] (by kernel_rfl) ?_
                obtain rfl := Option.some.inj hg
                exact W.ret (Ends.of [] (by kernel_rfl))
              refine W.skip ?_
              refine W.seq ?_
              refine W.regG ?_
              refine RG.fin 3 [(2, 2)] (envOf [(2, .pt 2 [] 0 0), (3, Bl false)]) [(2, ⟨5, [[I64 (0), I64 (0), I64 (0), I64 (0), I64 (0)]]⟩)] (by kernel_rfl) ?_
              obtain rfl := Option.some.inj hg
              exact W.ret (Ends.of [] (by kernel_rfl))
            refine W.seq ?_
            refine W.regG ?_
            refine RG.fin 2 [(2, 2)] (envOf [(2, .pt 2 [] 0 0), (4, I64 a0), (59, Bl (a0 == (29)))]) [(2, ⟨5, [[I64 (0), I64 (0), I64 (0), I64 (0), I64 (0)]]⟩)] (by kernel_rfl) ?_
            refine W.condB (b := (a0 == (29))) (by kernel_rfl) hg (fun hg => ?_) (fun hg => ?_)
            · refine W.norm [(2, 2)] [2, 4, 59] (envOf [(2, .pt 2 [] 0 0), (4, I64 a0), (59, Bl (a0 == (29)))]) [(2, ⟨5, [[I64 (0), I64 (0), I64 (0), I64 (0), I64 (0)]]⟩)] (by kernel_rfl) ?_
              refine W.skip ?_
              exact W.toJ (a0 == (29)) hg (by kernel_rfl) (by kernel_rfl)
            refine W.regG ?_
            refine RG.fin 2 [(2, 2)] (envOf [(2, .pt 2 [] 0 0), (4, I64 a0), (59, Bl (a0 == (30)))]) [(2, ⟨5, [[I64 (0), I64 (0), I64 (0), I64 (0), I64 (0)]]⟩)] (by kernel_rfl) ?_
            exact W.toJ (a0 == (30)) hg (by kernel_rfl) (by kernel_rfl)
          refine W.seq ?_
          refine W.regG ?_
          refine RG.fin 2 [(2, 2)] (envOf [(2, .pt 2 [] 0 0), (4, I64 a0), (49, Bl (a0 == (22)))]) [(2, ⟨5, [[I64 (0), I64 (0), I64 (0), I64 (0), I64 (0)]]⟩)] (by kernel_rfl) ?_
          refine W.condB (b := (a0 == (22))) (by kernel_rfl) hg (fun hg => ?_) (fun hg => ?_)
          · refine W.norm [(2, 2)] [2, 4, 49] (envOf [(2, .pt 2 [] 0 0), (4, I64 a0), (49, Bl (a0 == (22)))]) [(2, ⟨5, [[I64 (0), I64 (0), I64 (0), I64 (0), I64 (0)]]⟩)] (by kernel_rfl) ?_
            refine W.skip ?_
            exact W.toJ (a0 == (22)) hg (by kernel_rfl) (by kernel_rfl)
          refine W.seq ?_
          refine W.regG ?_
          refine RG.fin 2 [(2, 2)] (envOf [(2, .pt 2 [] 0 0), (4, I64 a0), (49, Bl (a0 == (23)))]) [(2, ⟨5, [[I64 (0), I64 (0), I64 (0), I64 (0), I64 (0)]]⟩)] (by kernel_rfl) ?_
          refine W.condB (b := (a0 == (23))) (by kernel_rfl) hg (fun hg => ?_) (fun hg => ?_)
          · refine W.norm [(2, 2)] [2, 4, 49] (envOf [(2, .pt 2 [] 0 0), (4, I64 a0), (49, Bl (a0 == (23)))]) [(2, ⟨5, [[I64 (0), I64 (0), I64 (0), I64 (0), I64 (0)]]⟩)] (by kernel_rfl) ?_
            refine W.skip ?_
            exact W.toJ (a0 == (23)) hg (by kernel_rfl) (by kernel_rfl)
          refine W.seq ?_
          refine W.regG ?_
          refine RG.fin 2 [(2, 2)] (envOf [(2, .pt 2 [] 0 0), (4, I64 a0), (49, Bl (a0 == (24)))]) [(2, ⟨5, [[I64 (0), I64 (0), I64 (0), I64 (0), I64 (0)]]⟩)] (by kernel_rfl) ?_
          refine W.condB (b := (a0 == (24))) (by kernel_rfl) hg (fun hg => ?_) (fun hg => ?_)
          · refine W.norm [(2, 2)] [2, 4, 49] (envOf [(2, .pt 2 [] 0 0), (4, I64 a0), (49, Bl (a0 == (24)))]) [(2, ⟨5, [[I64 (0), I64 (0), I64 (0), I64 (0), I64 (0)]]⟩)] (by kernel_rfl) ?_
            refine W.skip ?_
            exact W.toJ (a0 == (24)) hg (by kernel_rfl) (by kernel_rfl)
          refine W.seq ?_
          refine W.regG ?_
          refine RG.fin 2 [(2, 2)] (envOf [(2, .pt 2 [] 0 0), (4, I64 a0), (49, Bl (a0 == (27)))]) [(2, ⟨5, [[I64 (0), I64 (0), I64 (0), I64 (0), I64 (0)]]⟩)] (by kernel_rfl) ?_
          refine W.condB (b := (a0 == (27))) (by kernel_rfl) hg (fun hg => ?_) (fun hg => ?_)
          · refine W.norm [(2, 2)] [2, 4, 49] (envOf [(2, .pt 2 [] 0 0), (4, I64 a0), (49, Bl (a0 == (27)))]) [(2, ⟨5, [[I64 (0), I64 (0), I64 (0), I64 (0), I64 (0)]]⟩)] (by kernel_rfl) ?_
            refine W.skip ?_
            exact W.toJ (a0 == (27)) hg (by kernel_rfl) (by kernel_rfl)
          refine W.regG ?_
          refine RG.fin 2 [(2, 2)] (envOf [(2, .pt 2 [] 0 0), (4, I64 a0), (49, Bl (a0 == (28)))]) [(2, ⟨5, [[I64 (0), I64 (0), I64 (0), I64 (0), I64 (0)]]⟩)] (by kernel_rfl) ?_
          exact W.toJ (a0 == (28)) hg (by kernel_rfl) (by kernel_rfl)
        refine W.seq ?_
        refine W.regG ?_
        refine RG.fin 2 [(2, 2)] (envOf [(2, .pt 2 [] 0 0), (4, I64 a0), (45, Bl (a0 == (21)))]) [(2, ⟨5, [[I64 (0), I64 (0), I64 (0), I64 (0), I64 (0)]]⟩)] (by kernel_rfl) ?_
        refine W.condB (b := (a0 == (21))) (by kernel_rfl) hg (fun hg => ?_) (fun hg => ?_)
        · refine W.norm [(2, 2)] [2, 4, 45] (envOf [(2, .pt 2 [] 0 0), (4, I64 a0), (45, Bl (a0 == (21)))]) [(2, ⟨5, [[I64 (0), I64 (0), I64 (0), I64 (0), I64 (0)]]⟩)] (by kernel_rfl) ?_
          refine W.skip ?_
          exact W.toJ (a0 == (21)) hg (by kernel_rfl) (by kernel_rfl)
        refine W.regG ?_
        refine RG.fin 2 [(2, 2)] (envOf [(2, .pt 2 [] 0 0), (4, I64 a0), (45, Bl (a0 == (25)))]) [(2, ⟨5, [[I64 (0), I64 (0), I64 (0), I64 (0), I64 (0)]]⟩)] (by kernel_rfl) ?_
        exact W.toJ (a0 == (25)) hg (by kernel_rfl) (by kernel_rfl)
      refine W.seq ?_
      refine W.regG ?_
      refine RG.fin 2 [(2, 2)] (envOf [(2, .pt 2 [] 0 0), (4, I64 a0), (41, Bl (a0 == (19)))]) [(2, ⟨5, [[I64 (0), I64 (0), I64 (0), I64 (0), I64 (0)]]⟩)] (by kernel_rfl) ?_
      refine W.condB (b := (a0 == (19))) (by kernel_rfl) hg (fun hg => ?_) (fun hg => ?_)
      · refine W.norm [(2, 2)] [2, 4, 41] (envOf [(2, .pt 2 [] 0 0), (4, I64 a0), (41, Bl (a0 == (19)))]) [(2, ⟨5, [[I64 (0), I64 (0), I64 (0), I64 (0), I64 (0)]]⟩)] (by kernel_rfl) ?_
        refine W.skip ?_
        exact W.toJ (a0 == (19)) hg (by kernel_rfl) (by kernel_rfl)
      refine W.regG ?_
      refine RG.fin 2 [(2, 2)] (envOf [(2, .pt 2 [] 0 0), (4, I64 a0), (41, Bl (a0 == (20)))]) [(2, ⟨5, [[I64 (0), I64 (0), I64 (0), I64 (0), I64 (0)]]⟩)] (by kernel_rfl) ?_
      exact W.toJ (a0 == (20)) hg (by kernel_rfl) (by kernel_rfl)
    refine W.seq ?_
    refine W.regG ?_
    refine RG.fin 2 [(2, 2)] (envOf [(2, .pt 2 [] 0 0), (4, I64 a0), (23, Bl (a0 == (11)))]) [(2, ⟨5, [[I64 (0), I64 (0), I64 (0), I64 (0), I64 (0)]]⟩)] (by kernel_rfl) ?_
    refine W.condB (b := (a0 == (11))) (by kernel_rfl) hg (fun hg => ?_) (fun hg => ?_)
    · refine W.norm [(2, 2)] [2, 4, 23] (envOf [(2, .pt 2 [] 0 0), (4, I64 a0), (23, Bl (a0 == (11)))]) [(2, ⟨5, [[I64 (0), I64 (0), I64 (0), I64 (0), I64 (0)]]⟩)] (by kernel_rfl) ?_
      refine W.skip ?_
      exact W.toJ (a0 == (11)) hg (by kernel_rfl) (by kernel_rfl)
    refine W.seq ?_
    refine W.regG ?_
    refine RG.fin 2 [(2, 2)] (envOf [(2, .pt 2 [] 0 0), (4, I64 a0), (23, Bl (a0 == (12)))]) [(2, ⟨5, [[I64 (0), I64 (0), I64 (0), I64 (0), I64 (0)]]⟩)] (by kernel_rfl) ?_
    refine W.condB (b := (a0 == (12))) (by kernel_rfl) hg (fun hg => ?_) (fun hg => ?_)
    · refine W.norm [(2, 2)] [2, 4, 23] (envOf [(2, .pt 2 [] 0 0), (4, I64 a0), (23, Bl (a0 == (12)))]) [(2, ⟨5, [[I64 (0), I64 (0), I64 (0), I64 (0), I64 (0)]]⟩)] (by kernel_rfl) ?_
      refine W.skip ?_
      exact W.toJ (a0 == (12)) hg (by kernel_rfl) (by kernel_rfl)
    refine W.seq ?_
    refine W.regG ?_
    refine RG.fin 2 [(2, 2)] (envOf [(2, .pt 2 [] 0 0), (4, I64 a0), (23, Bl (a0 == (13)))]) [(2, ⟨5, [[I64 (0), I64 (0), I64 (0), I64 (0), I64 (0)]]⟩)] (by kernel_rfl) ?_
    refine W.condB (b := (a0 == (13))) (by kernel_rfl) hg (fun hg => ?_) (fun hg => ?_)
    · refine W.norm [(2, 2)] [2, 4, 23] (envOf [(2, .pt 2 [] 0 0), (4, I64 a0), (23, Bl (a0 == (13)))]) [(2, ⟨5, [[I64 (0), I64 (0), I64 (0), I64 (0), I64 (0)]]⟩)] (by kernel_rfl) ?_
      refine W.skip ?_
      exact W.toJ (a0 == (13)) hg (by kernel_rfl) (by kernel_rfl)
    refine W.regG ?_
    refine RG.fin 2 [(2, 2)] (envOf [(2, .pt 2 [] 0 0), (4, I64 a0), (23, Bl (a0 == (14)))]) [(2, ⟨5, [[I64 (0), I64 (0), I64 (0), I64 (0), I64 (0)]]⟩)] (by kernel_rfl) ?_
    exact W.toJ (a0 == (14)) hg (by kernel_rfl) (by kernel_rfl)
  refine W.seq ?_
  refine W.regG ?_
  refine RG.fin 2 [(2, 2)] (envOf [(2, .pt 2 [] 0 0), (4, I64 a0), (14, Bl (a0 == (4)))]) [(2, ⟨5, [[I64 (0), I64 (0), I64 (0), I64 (0), I64 (0)]]⟩)] (by kernel_rfl) ?_
  refine W.condB (b := (a0 == (4))) (by kernel_rfl) hg (fun hg => ?_) (fun hg => ?_)
  · refine W.norm [(2, 2)] [2, 4, 14] (envOf [(2, .pt 2 [] 0 0), (4, I64 a0), (14, Bl (a0 == (4)))]) [(2, ⟨5, [[I64 (0), I64 (0), I64 (0), I64 (0), I64 (0)]]⟩)] (by kernel_rfl) ?_
    refine W.skip ?_
    exact W.toJ (a0 == (4)) hg (by kernel_rfl) (by kernel_rfl)
  refine W.seq ?_
  refine W.regG ?_
  refine RG.fin 2 [(2, 2)] (envOf [(2, .pt 2 [] 0 0), (4, I64 a0), (14, Bl (a0 == (5)))]) [(2, ⟨5, [[I64 (0), I64 (0), I64 (0), I64 (0), I64 (0)]]⟩)] (by kernel_rfl) ?_
  refine W.condB (b := (a0 == (5))) (by kernel_rfl) hg (fun hg => ?_) (fun hg => ?_)
  · refine W.norm [(2, 2)] [2, 4, 14] (envOf [(2, .pt 2 [] 0 0), (4, I64 a0), (14, Bl (a0 == (5)))]) [(2, ⟨5, [[I64 (0), I64 (0), I64 (0), I64 (0), I64 (0)]]⟩)] (by kernel_rfl) ?_
    refine W.skip ?_
    exact W.toJ (a0 == (5)) hg (by kernel_rfl) (by kernel_rfl)
  refine W.seq ?_
  refine W.regG ?_
  refine RG.fin 2 [(2, 2)] (envOf [(2, .pt 2 [] 0 0), (4, I64 a0), (14, Bl (a0 == (6)))]) [(2, ⟨5, [[I64 (0), I64 (0), I64 (0), I64 (0), I64 (0)]]⟩)] (by kernel_rfl) ?_
  refine W.condB (b := (a0 == (6))) (by kernel_rfl) hg (fun hg => ?_) (fun hg => ?_)
  · refine W.norm [(2, 2)] [2, 4, 14] (envOf [(2, .pt 2 [] 0 0), (4, I64 a0), (14, Bl (a0 == (6)))]) [(2, ⟨5, [[I64 (0), I64 (0), I64 (0), I64 (0), I64 (0)]]⟩)] (by kernel_rfl) ?_
    refine W.skip ?_
    exact W.toJ (a0 == (6)) hg (by kernel_rfl) (by kernel_rfl)
  refine W.seq ?_
  refine W.regG ?_
  refine RG.fin 2 [(2, 2)] (envOf [(2, .pt 2 [] 0 0), (4, I64 a0), (14, Bl (a0 == (7)))]) [(2, ⟨5, [[I64 (0), I64 (0), I64 (0), I64 (0), I64 (0)]]⟩)] (by kernel_rfl) ?_
  refine W.condB (b := (a0 == (7))) (by kernel_rfl) hg (fun hg => ?_) (fun hg => ?_)
  · refine W.norm [(2, 2)] [2, 4, 14] (envOf [(2, .pt 2 [] 0 0), (4, I64 a0), (14, Bl (a0 == (7)))]) [(2, ⟨5, [[I64 (0), I64 (0), I64 (0), I64 (0), I64 (0)]]⟩)] (by kernel_rfl) ?_
    refine W.skip ?_
    exact W.toJ (a0 == (7)) hg (by kernel_rfl) (by kernel_rfl)
  refine W.seq ?_
  refine W.regG ?_
  refine RG.fin 2 [(2, 2)] (envOf [(2, .pt 2 [] 0 0), (4, I64 a0), (14, Bl (a0 == (8)))]) [(2, ⟨5, [[I64 (0), I64 (0), I64 (0), I64 (0), I64 (0)]]⟩)] (by kernel_rfl) ?_
  refine W.condB (b := (a0 == (8))) (by kernel_rfl) hg (fun hg => ?_) (fun hg => ?_)
  · refine W.norm [(2, 2)] [2, 4, 14] (envOf [(2, .pt 2 [] 0 0), (4, I64 a0), (14, Bl (a0 == (8)))]) [(2, ⟨5, [[I64 (0), I64 (0), I64 (0), I64 (0), I64 (0)]]⟩)] (by kernel_rfl) ?_
    refine W.skip ?_
    exact W.toJ (a0 == (8)) hg (by kernel_rfl) (by kernel_rfl)
  refine W.seq ?_
  refine W.regG ?_
  refine RG.fin 2 [(2, 2)] (envOf [(2, .pt 2 [] 0 0), (4, I64 a0), (14, Bl (a0 == (9)))]) [(2, ⟨5, [[I64 (0), I64 (0), I64 (0), I64 (0), I64 (0)]]⟩)] (by kernel_rfl) ?_
  refine W.condB (b := (a0 == (9))) (by kernel_rfl) hg (fun hg => ?_) (fun hg => ?_)
  · refine W.norm [(2, 2)] [2, 4, 14] (envOf [(2, .pt 2 [] 0 0), (4, I64 a0), (14, Bl (a0 == (9)))]) [(2, ⟨5, [[I64 (0), I64 (0), I64 (0), I64 (0), I64 (0)]]⟩)] (by kernel_rfl) ?_
    refine W.skip ?_
    exact W.toJ (a0 == (9)) hg (by kernel_rfl) (by kernel_rfl)
  refine W.regG ?_
  refine RG.fin 2 [(2, 2)] (envOf [(2, .pt 2 [] 0 0), (4, I64 a0), (14, Bl (a0 == (10)))]) [(2, ⟨5, [[I64 (0), I64 (0), I64 (0), I64 (0), I64 (0)]]⟩)] (by kernel_rfl) ?_
  exact W.toJ (a0 == (10)) hg (by kernel_rfl) (by kernel_rfl)
def g9_b1 (n : Nat) (a0 : T_api_Inst) (v1 : T_ir_row × Bool) (s1 : Int × (List Int)) : Option (Bo (Int × (List Int)) (Int × Bool × (List Int)) Empty) := bif (decide (s1.1 < (3))) then (idx [v1.1.a_, v1.1.b_, v1.1.c_] s1.1).bind fun y1 => bif (y1 != (0)) then (idx [a0.A_, a0.B_, a0.C_] s1.1).bind fun y2 => need ((s1.2.length + ([y2] : List Int).length) * 8 ≤ 140737488355328) (some (.go ((IntKind.i64.wrap (s1.1 + (1))), (s1.2 ++ ([y2] : List Int))))) else some (.go ((IntKind.i64.wrap (s1.1 + (1))), s1.2)) else some (.out (s1.1, (decide (s1.1 < (3))), s1.2))
def g9 (n : Nat) (a0 : T_api_Inst) : Option (List Int) := (g26 a0.Op_).bind fun v1 => (iter (g9_b1 n a0 v1) n ((0), ([] : List Int))).bind (Bo.then (fun t1 => some t1.2.2) (fun r => r.elim))
theorem g9_ok (n : Nat) (a0 : T_api_Inst) (r : (List Int)) (hg : g9 n a0 = some r) : CallOk Go.Proofs.Try.prog 9 [.ag [I64 a0.Op_, I64 a0.D_, I64 a0.A_, I64 a0.B_, I64 a0.C_, I64 a0.N_, .sc (.int .u32 a0.Bits_)]] [] (.sl 100000 [] 0 ((r.map c_i64).length)) [(100000, ⟨1, (r.map c_i64)⟩)] := by
  unfold g9 at hg
  refine CallG.narrow ?_ (by kernel_rfl) (by simp [noImH, noImE, noImC, noIm, noImE_map, c_T_api_Param, c_i64, c_u8])
  refine .of_S [0] (envOf [(0, .ag [I64 a0.Op_, I64 a0.D_, I64 a0.A_, I64 a0.B_, I64 a0.C_, I64 a0.N_, .sc (.int .u32 a0.Bits_)])]) fn9 (by kernel_rfl) ?_
  refine W.seq ?_
  refine W.regG ?_
  refine RG.fin 2 [(1, 1)] (envOf [(1, .pt 1 [] 0 0)]) [(1, ⟨7, [[I64 a0.Op_, I64 a0.D_, I64 a0.A_, I64 a0.B_, I64 a0.C_, I64 a0.N_, .sc (.int .u32 a0.Bits_)]]⟩)] (by kernel_rfl) ?_
  refine W.seq ?_
  refine W.regG ?_
  refine RG.cut 2 [(1, 1)] [1, 10] (envOf [(1, .pt 1 [] 0 0), (10, I64 a0.Op_)]) [(1, ⟨7, [[I64 a0.Op_, I64 a0.D_, I64 a0.A_, I64 a0.B_, I64 a0.C_, I64 a0.N_, .sc (.int .u32 a0.Bits_)]]⟩)] (by kernel_rfl) ?_
  refine RG.callP [] [(1, 1)] [1, 11] false [I64 a0.Op_] (fun v1 => .tu [.ag [I64 v1.1.d_, I64 v1.1.a_, I64 v1.1.b_, I64 v1.1.c_, I64 v1.1.n_], Bl v1.2]) (fun v1 => []) (fun v1 => envOf [(1, .pt 1 [] 0 0), (11, .tu [.ag [I64 v1.1.d_, I64 v1.1.a_, I64 v1.1.b_, I64 v1.1.c_, I64 v1.1.n_], Bl v1.2])]) (fun v1 => [(1, ⟨7, [[I64 a0.Op_, I64 a0.D_, I64 a0.A_, I64 a0.B_, I64 a0.C_, I64 a0.N_, .sc (.int .u32 a0.Bits_)]]⟩)]) (by kernel_rfl) hg (by kernel_rfl) (fun v1 hv => CallOk.toG (g26_ok a0.Op_ v1 hv)) (by kernel_rfl) (fun v1 => by kernel_rfl) (fun h => by cases h) (fun v1 hv hg => ?_)
  refine RG.fin 6 [(1, 1), (3, 3)] (envOf [(1, .pt 1 [] 0 0), (3, .pt 3 [] 0 0)]) [(1, ⟨7, [[I64 a0.Op_, I64 a0.D_, I64 a0.A_, I64 a0.B_, I64 a0.C_, I64 a0.N_, .sc (.int .u32 a0.Bits_)]]⟩), (3, ⟨5, [[I64 v1.1.d_, I64 v1.1.a_, I64 v1.1.b_, I64 v1.1.c_, I64 v1.1.n_]]⟩)] (by kernel_rfl) ?_
  refine W.seq ?_
  refine W.regG ?_
  refine RG.fin 1 [(1, 1), (3, 3)] (envOf [(1, .pt 1 [] 0 0), (3, .pt 3 [] 0 0), (5, .zs)]) [(1, ⟨7, [[I64 a0.Op_, I64 a0.D_, I64 a0.A_, I64 a0.B_, I64 a0.C_, I64 a0.N_, .sc (.int .u32 a0.Bits_)]]⟩), (3, ⟨5, [[I64 v1.1.d_, I64 v1.1.a_, I64 v1.1.b_, I64 v1.1.c_, I64 v1.1.n_]]⟩)] (by kernel_rfl) ?_
  refine W.seq ?_
  refine W.seq ?_
  refine W.regG ?_
  refine RG.fin 8 [(1, 1)] (envOf [(1, .pt 1 [] 0 0), (5, .zs), (20, .ag [I64 v1.1.a_, I64 v1.1.b_, I64 v1.1.c_]), (21, I64 (0))]) [(1, ⟨7, [[I64 a0.Op_, I64 a0.D_, I64 a0.A_, I64 a0.B_, I64 a0.C_, I64 a0.N_, .sc (.int .u32 a0.Bits_)]]⟩)] (by kernel_rfl) ?_
  refine W.ghost (Ghost.nil (t := 5) (d := 300005) (s := 1) (by kernel_rfl) (by simp) (by kernel_rfl)) ?_
  refine W.norm [(1, 1), (300005, 300005)] [1, 5, 20, 21] (envOf [(1, .pt 1 [] 0 0), (5, .sl 300005 [] 0 ((([] : List Int).map c_i64).length)), (20, .ag [I64 v1.1.a_, I64 v1.1.b_, I64 v1.1.c_]), (21, I64 (0))]) [(1, ⟨7, [[I64 a0.Op_, I64 a0.D_, I64 a0.A_, I64 a0.B_, I64 a0.C_, I64 a0.N_, .sc (.int .u32 a0.Bits_)]]⟩), (300005, ⟨1, (([] : List Int).map c_i64)⟩)] (by kernel_rfl) ?_
  refine W.loopB (fun s1 : Int × (List Int) => envOf [(1, .pt 1 [] 0 0), (5, .sl 300005 [] 0 ((s1.2.map c_i64).length)), (20, .ag [I64 v1.1.a_, I64 v1.1.b_, I64 v1.1.c_]), (21, I64 s1.1)]) (fun s1 : Int × (List Int) => [(1, ⟨7, [[I64 a0.Op_, I64 a0.D_, I64 a0.A_, I64 a0.B_, I64 a0.C_, I64 a0.N_, .sc (.int .u32 a0.Bits_)]]⟩), (300005, ⟨1, (s1.2.map c_i64)⟩)]) (fun t1 : Int × Bool × (List Int) => envOf [(1, .pt 1 [] 0 0), (5, .sl 300005 [] 0 ((t1.2.2.map c_i64).length)), (20, .ag [I64 v1.1.a_, I64 v1.1.b_, I64 v1.1.c_]), (21, I64 t1.1), (22, Bl t1.2.1)]) (fun t1 : Int × Bool × (List Int) => [(1, ⟨7, [[I64 a0.Op_, I64 a0.D_, I64 a0.A_, I64 a0.B_, I64 a0.C_, I64 a0.N_, .sc (.int .u32 a0.Bits_)]]⟩), (300005, ⟨1, (t1.2.2.map c_i64)⟩)]) (fun (_ : Empty) _ _ => False) hg (by kernel_rfl) (by kernel_rfl) (fun s1 bb hg => ?_) (fun _ _ _ _ q => q.elim) (fun t1 hg => ?_)
  · unfold g9_b1 at hg
    refine W.seq ?_
    refine W.regG ?_
    refine RG.fin 1 [(1, 1), (300005, 300005)] (envOf [(1, .pt 1 [] 0 0), (5, .sl 300005 [] 0 ((s1.2.map c_i64).length)), (20, .ag [I64 v1.1.a_, I64 v1.1.b_, I64 v1.1.c_]), (21, I64 s1.1), (22, Bl (decide (s1.1 < (3))))]) [(1, ⟨7, [[I64 a0.Op_, I64 a0.D_, I64 a0.A_, I64 a0.B_, I64 a0.C_, I64 a0.N_, .sc (.int .u32 a0.Bits_)]]⟩), (300005, ⟨1, (s1.2.map c_i64)⟩)] (by kernel_rfl) ?_
    refine W.seq ?_
    refine W.condB (b := (decide (s1.1 < (3)))) (by kernel_rfl) hg (fun hg => ?_) (fun hg => ?_)
    · refine W.skip ?_
      refine W.seq ?_
      refine W.block ?_
      refine W.seq ?_
      refine W.regG ?_
      refine RG.cut 1 [(1, 1), (300005, 300005)] [1, 5, 20, 21, 23] (envOf [(1, .pt 1 [] 0 0), (5, .sl 300005 [] 0 ((s1.2.map c_i64).length)), (20, .ag [I64 v1.1.a_, I64 v1.1.b_, I64 v1.1.c_]), (21, I64 s1.1), (23, I64 s1.1)]) [(1, ⟨7, [[I64 a0.Op_, I64 a0.D_, I64 a0.A_, I64 a0.B_, I64 a0.C_, I64 a0.N_, .sc (.int .u32 a0.Bits_)]]⟩), (300005, ⟨1, (s1.2.map c_i64)⟩)] (by kernel_rfl) ?_
      refine RG.ida (c := c_i64) (ys := [v1.1.a_, v1.1.b_, v1.1.c_]) (i := s1.1) (k := .i64) (cs := [I64 v1.1.a_, I64 v1.1.b_, I64 v1.1.c_]) (fun y1 => I64 y1) (by kernel_rfl) (by kernel_rfl) (by kernel_rfl) (by kernel_rfl) (fun _ => by kernel_rfl) (by kernel_rfl) (fun _ => by kernel_rfl) hg (fun y1 _ hg => ?_)
      refine RG.fin 2 [(1, 1), (300005, 300005)] (envOf [(1, .pt 1 [] 0 0), (5, .sl 300005 [] 0 ((s1.2.map c_i64).length)), (6, I64 s1.1), (7, I64 y1), (20, .ag [I64 v1.1.a_, I64 v1.1.b_, I64 v1.1.c_]), (21, I64 s1.1)]) [(1, ⟨7, [[I64 a0.Op_, I64 a0.D_, I64 a0.A_, I64 a0.B_, I64 a0.C_, I64 a0.N_, .sc (.int .u32 a0.Bits_)]]⟩), (300005, ⟨1, (s1.2.map c_i64)⟩)] (by kernel_rfl) ?_
      refine W.seq ?_
      refine W.regG ?_
      refine RG.fin 2 [(1, 1), (300005, 300005)] (envOf [(1, .pt 1 [] 0 0), (5, .sl 300005 [] 0 ((s1.2.map c_i64).length)), (6, I64 s1.1), (20, .ag [I64 v1.1.a_, I64 v1.1.b_, I64 v1.1.c_]), (21, I64 s1.1), (26, Bl (y1 != (0)))]) [(1, ⟨7, [[I64 a0.Op_, I64 a0.D_, I64 a0.A_, I64 a0.B_, I64 a0.C_, I64 a0.N_, .sc (.int .u32 a0.Bits_)]]⟩), (300005, ⟨1, (s1.2.map c_i64)⟩)] (by kernel_rfl) ?_
      refine W.condB (b := (y1 != (0))) (by kernel_rfl) hg (fun hg => ?_) (fun hg => ?_)
      · refine W.regG ?_
        refine RG.cut 9 [(1, 1), (300005, 300005)] [1, 20, 21, 27, 34, 35] (envOf [(1, .pt 1 [] 0 0), (20, .ag [I64 v1.1.a_, I64 v1.1.b_, I64 v1.1.c_]), (21, I64 s1.1), (27, .sl 300005 [] 0 ((s1.2.map c_i64).length)), (34, .ag [I64 a0.A_, I64 a0.B_, I64 a0.C_]), (35, I64 s1.1)]) [(1, ⟨7, [[I64 a0.Op_, I64 a0.D_, I64 a0.A_, I64 a0.B_, I64 a0.C_, I64 a0.N_, .sc (.int .u32 a0.Bits_)]]⟩), (300005, ⟨1, (s1.2.map c_i64)⟩)] (by kernel_rfl) ?_
        refine RG.ida (c := c_i64) (ys := [a0.A_, a0.B_, a0.C_]) (i := s1.1) (k := .i64) (cs := [I64 a0.A_, I64 a0.B_, I64 a0.C_]) (fun y2 => I64 y2) (by kernel_rfl) (by kernel_rfl) (by kernel_rfl) (by kernel_rfl) (fun _ => by kernel_rfl) (by kernel_rfl) (fun _ => by kernel_rfl) hg (fun y2 _ hg => ?_)
        refine RG.cut 1 [(1, 1), (37, 37), (300005, 300005)] [1, 20, 21, 27, 37] (envOf [(1, .pt 1 [] 0 0), (20, .ag [I64 v1.1.a_, I64 v1.1.b_, I64 v1.1.c_]), (21, I64 s1.1), (27, .sl 300005 [] 0 ((s1.2.map c_i64).length)), (37, .sl 37 [] 0 ((([y2] : List Int).map c_i64).length))]) [(1, ⟨7, [[I64 a0.Op_, I64 a0.D_, I64 a0.A_, I64 a0.B_, I64 a0.C_, I64 a0.N_, .sc (.int .u32 a0.Bits_)]]⟩), (37, ⟨1, (([y2] : List Int).map c_i64)⟩), (300005, ⟨1, (s1.2.map c_i64)⟩)] (by kernel_rfl) ?_
        refine RG.appSl (o := c_i64) (xs := s1.2) (ws := ([y2] : List Int)) (k := 300005) (mv := none) (by kernel_rfl) (by kernel_rfl) (srcE_row (by kernel_rfl) (fun _ => by kernel_rfl)) (by kernel_rfl) (by kernel_rfl) hg (fun hg => ?_)
        refine RG.fin 1 [(1, 1), (300005, 300005)] (envOf [(1, .pt 1 [] 0 0), (5, .sl 300005 [] 0 (((s1.2 ++ ([y2] : List Int)).map c_i64).length)), (20, .ag [I64 v1.1.a_, I64 v1.1.b_, I64 v1.1.c_]), (21, I64 s1.1)]) [(1, ⟨7, [[I64 a0.Op_, I64 a0.D_, I64 a0.A_, I64 a0.B_, I64 a0.C_, I64 a0.N_, .sc (.int .u32 a0.Bits_)]]⟩), (300005, ⟨1, ((s1.2 ++ ([y2] : List Int)).map c_i64)⟩)] (by kernel_rfl) ?_
        refine W.regG ?_
        refine RG.fin 2 [(1, 1), (300005, 300005)] (envOf [(1, .pt 1 [] 0 0), (5, .sl 300005 [] 0 (((s1.2 ++ ([y2] : List Int)).map c_i64).length)), (20, .ag [I64 v1.1.a_, I64 v1.1.b_, I64 v1.1.c_]), (21, I64 (IntKind.i64.wrap (s1.1 + (1))))]) [(1, ⟨7, [[I64 a0.Op_, I64 a0.D_, I64 a0.A_, I64 a0.B_, I64 a0.C_, I64 a0.N_, .sc (.int .u32 a0.Bits_)]]⟩), (300005, ⟨1, ((s1.2 ++ ([y2] : List Int)).map c_i64)⟩)] (by kernel_rfl) ?_
        obtain rfl := Option.some.inj hg
        exact ⟨rfl, by kernel_rfl, by kernel_rfl⟩
      refine W.skip ?_
      refine W.regG ?_
      refine RG.fin 2 [(1, 1), (300005, 300005)] (envOf [(1, .pt 1 [] 0 0), (5, .sl 300005 [] 0 ((s1.2.map c_i64).length)), (20, .ag [I64 v1.1.a_, I64 v1.1.b_, I64 v1.1.c_]), (21, I64 (IntKind.i64.wrap (s1.1 + (1))))]) [(1, ⟨7, [[I64 a0.Op_, I64 a0.D_, I64 a0.A_, I64 a0.B_, I64 a0.C_, I64 a0.N_, .sc (.int .u32 a0.Bits_)]]⟩), (300005, ⟨1, (s1.2.map c_i64)⟩)] (by kernel_rfl) ?_
      obtain rfl := Option.some.inj hg
      exact ⟨rfl, by kernel_rfl, by kernel_rfl⟩
    refine W.norm [(1, 1), (300005, 300005)] [1, 5, 20, 21, 22] (envOf [(1, .pt 1 [] 0 0), (5, .sl 300005 [] 0 ((s1.2.map c_i64).length)), (20, .ag [I64 v1.1.a_, I64 v1.1.b_, I64 v1.1.c_]), (21, I64 s1.1), (22, Bl (decide (s1.1 < (3))))]) [(1, ⟨7, [[I64 a0.Op_, I64 a0.D_, I64 a0.A_, I64 a0.B_, I64 a0.C_, I64 a0.N_, .sc (.int .u32 a0.Bits_)]]⟩), (300005, ⟨1, (s1.2.map c_i64)⟩)] (by kernel_rfl) ?_
    refine W.exit ?_
    obtain rfl := Option.some.inj hg
    exact ⟨rfl, by kernel_rfl, by kernel_rfl⟩
  refine W.seq ?_
  refine W.regG ?_
  refine RG.fin 2 [(300005, 300005)] (envOf [(2, .sl 300005 [] 0 ((t1.2.2.map c_i64).length))]) [(300005, ⟨1, (t1.2.2.map c_i64)⟩)] (by kernel_rfl) ?_
  obtain rfl := Option.some.inj hg
  exact W.ret (Ends.of [(100000, 300005)] (by kernel_rfl))
def g27 (a0 : Int) : Option (ByteArray × Bool) := bif (a0 == (1)) then some (⟨#[110, 45, 45, 45, 45]⟩, true) else bif (a0 == (2)) then some (⟨#[119, 45, 45, 45, 105]⟩, true) else bif (a0 == (3)) then some (⟨#[97, 99, 45, 45, 45]⟩, true) else joinJ (fun p1 : Bool => bif p1 then some (⟨#[100, 120, 120, 45, 45]⟩, true) else joinJ (fun p2 : Bool => bif p2 then some (⟨#[100, 120, 45, 45, 45]⟩, true) else bif (a0 == (15)) then some (⟨#[100, 120, 120, 120, 45]⟩, true) else bif (a0 == (16)) then some (⟨#[110, 110, 119, 45, 45]⟩, true) else bif (a0 == (17)) then some (⟨#[110, 119, 45, 45, 45]⟩, true) else bif (a0 == (18)) then some (⟨#[119, 110, 45, 45, 45]⟩, true) else joinJ (fun p3 : Bool => bif p3 then some (⟨#[110, 118, 45, 45, 45]⟩, true) else joinJ (fun p4 : Bool => bif p4 then some (⟨#[119, 119, 45, 45, 45]⟩, true) else joinJ (fun p5 : Bool => bif p5 then some (⟨#[119, 119, 119, 45, 45]⟩, true) else bif (a0 == (26)) then some (⟨#[119, 119, 119, 119, 45]⟩, true) else joinJ (fun p6 : Bool => bif p6 then some (⟨#[118, 45, 45, 45, 112]⟩, true) else bif (a0 == (31)) then some (⟨#[45, 118, 45, 45, 112]⟩, true) else bif (a0 == (32)) then some (⟨#[97, 45, 45, 45, 115]⟩, true) else bif (a0 == (33)) then some (⟨#[45, 97, 45, 45, 115]⟩, true) else bif (a0 == (34)) then some (⟨#[45, 119, 45, 45, 45]⟩, true) else joinJ (fun p7 : Bool => bif p7 then some (⟨#[45, 45, 45, 45, 45]⟩, true) else bif (a0 == (36)) then some (⟨#[45, 45, 45, 45, 113]⟩, true) else some (⟨#[]⟩, false)) fun J7 => bif (a0 == (35)) then J7 (a0 == (35)) else J7 (a0 == (37))) fun J6 => bif (a0 == (29)) then J6 (a0 == (29)) else J6 (a0 == (30))) fun J5 => bif (a0 == (22)) then J5 (a0 == (22)) else bif (a0 == (23)) then J5 (a0 == (23)) else bif (a0 == (24)) then J5 (a0 == (24)) else bif (a0 == (27)) then J5 (a0 == (27)) else J5 (a0 == (28))) fun J4 => bif (a0 == (21)) then J4 (a0 == (21)) else J4 (a0 == (25))) fun J3 => bif (a0 == (19)) then J3 (a0 == (19)) else J3 (a0 == (20))) fun J2 => bif (a0 == (11)) then J2 (a0 == (11)) else bif (a0 == (12)) then J2 (a0 == (12)) else bif (a0 == (13)) then J2 (a0 == (13)) else J2 (a0 == (14))) fun J1 => bif (a0 == (4)) then J1 (a0 == (4)) else bif (a0 == (5)) then J1 (a0 == (5)) else bif (a0 == (6)) then J1 (a0 == (6)) else bif (a0 == (7)) then J1 (a0 == (7)) else bif (a0 == (8)) then J1 (a0 == (8)) else bif (a0 == (9)) then J1 (a0 == (9)) else J1 (a0 == (10))
theorem g27_ok (a0 : Int) (r : ByteArray × Bool) (hg : g27 a0 = some r) : CallOk Go.Proofs.Try.prog 27 [I64 a0] [] (.tu [St r.1, Bl r.2]) [] := by
  unfold g27 at hg
  refine CallG.narrow ?_ (by kernel_rfl) (by kernel_rfl)
  refine .of_S [0] (envOf [(0, I64 a0)]) fn27 (by kernel_rfl) ?_
  refine W.seq ?_
  refine W.regG ?_
  refine RG.fin 2 [] (envOf [(0, I64 a0)]) [] (by kernel_rfl) ?_
  refine W.seq ?_
  refine W.seq ?_
  refine W.regG ?_
  refine RG.fin 1 [] (envOf [(4, I64 a0)]) [] (by kernel_rfl) ?_
  refine W.block ?_
  refine W.seq ?_
  refine W.regG ?_
  refine RG.fin 2 [] (envOf [(4, I64 a0), (5, Bl (a0 == (1)))]) [] (by kernel_rfl) ?_
  refine W.condB (b := (a0 == (1))) (by kernel_rfl) hg (fun hg => ?_) (fun hg => ?_)
  · refine W.seq ?_
    refine W.regG ?_
    refine RG.fin 2 [] (envOf [(2, St ⟨#[110, 45, 45, 45, 45]⟩), (3, Bl true)]) [] (by kernel_rfl) ?_
    obtain rfl := Option.some.inj hg
    exact W.ret (Ends.of [] (by kernel_rfl))
  refine W.seq ?_
  refine W.regG ?_
  refine RG.fin 2 [] (envOf [(4, I64 a0), (7, Bl (a0 == (2)))]) [] (by kernel_rfl) ?_
  refine W.condB (b := (a0 == (2))) (by kernel_rfl) hg (fun hg => ?_) (fun hg => ?_)
  · refine W.seq ?_
    refine W.regG ?_
    refine RG.fin 2 [] (envOf [(2, St ⟨#[119, 45, 45, 45, 105]⟩), (3, Bl true)]) [] (by kernel_rfl) ?_
    obtain rfl := Option.some.inj hg
    exact W.ret (Ends.of [] (by kernel_rfl))
  refine W.seq ?_
  refine W.regG ?_
  refine RG.fin 2 [] (envOf [(4, I64 a0), (9, Bl (a0 == (3)))]) [] (by kernel_rfl) ?_
  refine W.condB (b := (a0 == (3))) (by kernel_rfl) hg (fun hg => ?_) (fun hg => ?_)
  · refine W.seq ?_
    refine W.regG ?_
    refine RG.fin 2 [] (envOf [(2, St ⟨#[97, 99, 45, 45, 45]⟩), (3, Bl true)]) [] (by kernel_rfl) ?_
    obtain rfl := Option.some.inj hg
    exact W.ret (Ends.of [] (by kernel_rfl))
  refine W.seqJ (fun p1 : Bool => envOf [(4, I64 a0), (11, Bl p1)]) (fun p1 : Bool => []) hg (fun p1 hg => ?_) (fun hg => ?_)
  · refine W.condB (b := p1) (by kernel_rfl) hg (fun hg => ?_) (fun hg => ?_)
    · refine W.seq ?_
      refine W.regG ?_
      refine RG.fin 2 [] (envOf [(2, St ⟨#[100, 120, 120, 45, 45]⟩), (3, Bl true)]) [] (by kernel_rfl) ?_
      obtain rfl := Option.some.inj hg
      exact W.ret (Ends.of [] (by kernel_rfl))
    refine W.seqJ (fun p2 : Bool => envOf [(4, I64 a0), (19, Bl p2)]) (fun p2 : Bool => []) hg (fun p2 hg => ?_) (fun hg => ?_)
    · refine W.condB (b := p2) (by kernel_rfl) hg (fun hg => ?_) (fun hg => ?_)
      · refine W.seq ?_
        refine W.regG ?_
        refine RG.fin 2 [] (envOf [(2, St ⟨#[100, 120, 45, 45, 45]⟩), (3, Bl true)]) [] (by kernel_rfl) ?_
        obtain rfl := Option.some.inj hg
        exact W.ret (Ends.of [] (by kernel_rfl))
      refine W.seq ?_
      refine W.regG ?_
      refine RG.fin 2 [] (envOf [(4, I64 a0), (24, Bl (a0 == (15)))]) [] (by kernel_rfl) ?_
      refine W.condB (b := (a0 == (15))) (by kernel_rfl) hg (fun hg => ?_) (fun hg => ?_)
      · refine W.seq ?_
        refine W.regG ?_
        refine RG.fin 2 [] (envOf [(2, St ⟨#[100, 120, 120, 120, 45]⟩), (3, Bl true)]) [] (by kernel_rfl) ?_
        obtain rfl := Option.some.inj hg
        exact W.ret (Ends.of [] (by kernel_rfl))
      refine W.seq ?_
      refine W.regG ?_
      refine RG.fin 2 [] (envOf [(4, I64 a0), (26, Bl (a0 == (16)))]) [] (by kernel_rfl) ?_
      refine W.condB (b := (a0 == (16))) (by kernel_rfl) hg (fun hg => ?_) (fun hg => ?_)
      · refine W.seq ?_
        refine W.regG ?_
        refine RG.fin 2 [] (envOf [(2, St ⟨#[110, 110, 119, 45, 45]⟩), (3, Bl true)]) [] (by kernel_rfl) ?_
        obtain rfl := Option.some.inj hg
        exact W.ret (Ends.of [] (by kernel_rfl))
      refine W.seq ?_
      refine W.regG ?_
      refine RG.fin 2 [] (envOf [(4, I64 a0), (28, Bl (a0 == (17)))]) [] (by kernel_rfl) ?_
      refine W.condB (b := (a0 == (17))) (by kernel_rfl) hg (fun hg => ?_) (fun hg => ?_)
      · refine W.seq ?_
        refine W.regG ?_
        refine RG.fin 2 [] (envOf [(2, St ⟨#[110, 119, 45, 45, 45]⟩), (3, Bl true)]) [] (by kernel_rfl) ?_
        obtain rfl := Option.some.inj hg
        exact W.ret (Ends.of [] (by kernel_rfl))
      refine W.seq ?_
      refine W.regG ?_
      refine RG.fin 2 [] (envOf [(4, I64 a0), (30, Bl (a0 == (18)))]) [] (by kernel_rfl) ?_
      refine W.condB (b := (a0 == (18))) (by kernel_rfl) hg (fun hg => ?_) (fun hg => ?_)
      · refine W.seq ?_
        refine W.regG ?_
        refine RG.fin 2 [] (envOf [(2, St ⟨#[119, 110, 45, 45, 45]⟩), (3, Bl true)]) [] (by kernel_rfl) ?_
        obtain rfl := Option.some.inj hg
        exact W.ret (Ends.of [] (by kernel_rfl))
      refine W.seqJ (fun p3 : Bool => envOf [(4, I64 a0), (32, Bl p3)]) (fun p3 : Bool => []) hg (fun p3 hg => ?_) (fun hg => ?_)
      · refine W.condB (b := p3) (by kernel_rfl) hg (fun hg => ?_) (fun hg => ?_)
        · refine W.seq ?_
          refine W.regG ?_
          refine RG.fin 2 [] (envOf [(2, St ⟨#[110, 118, 45, 45, 45]⟩), (3, Bl true)]) [] (by kernel_rfl) ?_
          obtain rfl := Option.some.inj hg
          exact W.ret (Ends.of [] (by kernel_rfl))
        refine W.seqJ (fun p4 : Bool => envOf [(4, I64 a0), (35, Bl p4)]) (fun p4 : Bool => []) hg (fun p4 hg => ?_) (fun hg => ?_)
        · refine W.condB (b := p4) (by kernel_rfl) hg (fun hg => ?_) (fun hg => ?_)
          · refine W.seq ?_
            refine W.regG ?_
            refine RG.fin 2 [] (envOf [(2, St ⟨#[119, 119, 45, 45, 45]⟩), (3, Bl true)]) [] (by kernel_rfl) ?_
            obtain rfl := Option.some.inj hg
            exact W.ret (Ends.of [] (by kernel_rfl))
          refine W.seqJ (fun p5 : Bool => envOf [(4, I64 a0), (38, Bl p5)]) (fun p5 : Bool => []) hg (fun p5 hg => ?_) (fun hg => ?_)
          · refine W.condB (b := p5) (by kernel_rfl) hg (fun hg => ?_) (fun hg => ?_)
            · refine W.seq ?_
              refine W.regG ?_
              refine RG.fin 2 [] (envOf [(2, St ⟨#[119, 119, 119, 45, 45]⟩), (3, Bl true)]) [] (by kernel_rfl) ?_
              obtain rfl := Option.some.inj hg
              exact W.ret (Ends.of [] (by kernel_rfl))
            refine W.seq ?_
            refine W.regG ?_
            refine RG.fin 2 [] (envOf [(4, I64 a0), (44, Bl (a0 == (26)))]) [] (by kernel_rfl) ?_
            refine W.condB (b := (a0 == (26))) (by kernel_rfl) hg (fun hg => ?_) (fun hg => ?_)
            · refine W.seq ?_
              refine W.regG ?_
              refine RG.fin 2 [] (envOf [(2, St ⟨#[119, 119, 119, 119, 45]⟩), (3, Bl true)]) [] (by kernel_rfl) ?_
              obtain rfl := Option.some.inj hg
              exact W.ret (Ends.of [] (by kernel_rfl))
            refine W.seqJ (fun p6 : Bool => envOf [(4, I64 a0), (46, Bl p6)]) (fun p6 : Bool => []) hg (fun p6 hg => ?_) (fun hg => ?_)
            · refine W.condB (b := p6) (by kernel_rfl) hg (fun hg => ?_) (fun hg => ?_)
              · refine W.seq ?_
                refine W.regG ?_
                refine RG.fin 2 [] (envOf [(2, St ⟨#[118, 45, 45, 45, 112]⟩), (3, Bl true)]) [] (by kernel_rfl) ?_
                obtain rfl := Option.some.inj hg
                exact W.ret (Ends.of [] (by kernel_rfl))
              refine W.seq ?_
              refine W.regG ?_
              refine RG.fin 2 [] (envOf [(4, I64 a0), (49, Bl (a0 == (31)))]) [] (by kernel_rfl) ?_
              refine W.condB (b := (a0 == (31))) (by kernel_rfl) hg (fun hg => ?_) (fun hg => ?_)
              · refine W.seq ?_
                refine W.regG ?_
                refine RG.fin 2 [] (envOf [(2, St ⟨#[45, 118, 45, 45, 112]⟩), (3, Bl true)]) [] (by kernel_rfl) ?_
                obtain rfl := Option.some.inj hg
                exact W.ret (Ends.of [] (by kernel_rfl))
              refine W.seq ?_
              refine W.regG ?_
              refine RG.fin 2 [] (envOf [(4, I64 a0), (51, Bl (a0 == (32)))]) [] (by kernel_rfl) ?_
              refine W.condB (b := (a0 == (32))) (by kernel_rfl) hg (fun hg => ?_) (fun hg => ?_)
              · refine W.seq ?_
                refine W.regG ?_
                refine RG.fin 2 [] (envOf [(2, St ⟨#[97, 45, 45, 45, 115]⟩), (3, Bl true)]) [] (by kernel_rfl) ?_
                obtain rfl := Option.some.inj hg
                exact W.ret (Ends.of [] (by kernel_rfl))
              refine W.seq ?_
              refine W.regG ?_
              refine RG.fin 2 [] (envOf [(4, I64 a0), (53, Bl (a0 == (33)))]) [] (by kernel_rfl) ?_
              refine W.condB (b := (a0 == (33))) (by kernel_rfl) hg (fun hg => ?_) (fun hg => ?_)
              · refine W.seq ?_
                refine W.regG ?_
                refine RG.fin 2 [] (envOf [(2, St ⟨#[45, 97, 45, 45, 115]⟩), (3, Bl true)]) [] (by kernel_rfl) ?_
                obtain rfl := Option.some.inj hg
                exact W.ret (Ends.of [] (by kernel_rfl))
              refine W.seq ?_
              refine W.regG ?_
              refine RG.fin 2 [] (envOf [(4, I64 a0), (55, Bl (a0 == (34)))]) [] (by kernel_rfl) ?_
              refine W.condB (b := (a0 == (34))) (by kernel_rfl) hg (fun hg => ?_) (fun hg => ?_)
              · refine W.seq ?_
                refine W.regG ?_
                refine RG.fin 2 [] (envOf [(2, St ⟨#[45, 119, 45, 45, 45]⟩), (3, Bl true)]) [] (by kernel_rfl) ?_
                obtain rfl := Option.some.inj hg
                exact W.ret (Ends.of [] (by kernel_rfl))
              refine W.seqJ (fun p7 : Bool => envOf [(4, I64 a0), (57, Bl p7)]) (fun p7 : Bool => []) hg (fun p7 hg => ?_) (fun hg => ?_)
              · refine W.condB (b := p7) (by kernel_rfl) hg (fun hg => ?_) (fun hg => ?_)
                · refine W.seq ?_
                  refine W.regG ?_
                  refine RG.fin 2 [] (envOf [(2, St ⟨#[45, 45, 45, 45, 45]⟩), (3, Bl true)]) [] (by kernel_rfl) ?_
                  obtain rfl := Option.some.inj hg
                  exact W.ret (Ends.of [] (by kernel_rfl))
                refine W.seq ?_
                refine W.regG ?_
                refine RG.fin 2 [] (envOf [(60, Bl (a0 == (36)))]) [] (by kernel_rfl) ?_
                refine W.condB (b := (a0 == (36))) (by kernel_rfl) hg (fun hg => ?_) (fun hg => ?_)
                · refine W.seq ?_
                  refine W.regG ?_
                  refine RG.fin 2 [] (envOf [(2, St ⟨#[45, 45, 45, 45, 113]⟩), (3, Bl true)]) [] (by kernel_rfl) ?_
                  obtain rfl := Option.some.inj hg
                  exact W.ret (Ends.of [] (by kernel_rfl))
                refine W.skip ?_
                refine W.seq ?_
                refine W.regG ?_
                refine RG.fin 2 [] (envOf [(2, St ⟨#[]⟩), (3, Bl false)]) [] (by kernel_rfl) ?_
                obtain rfl := Option.some.inj hg
                exact W.ret (Ends.of [] (by kernel_rfl))
              refine W.seq ?_
              refine W.regG ?_
              refine RG.fin 2 [] (envOf [(4, I64 a0), (57, Bl (a0 == (35)))]) [] (by kernel_rfl) ?_
              refine W.condB (b := (a0 == (35))) (by kernel_rfl) hg (fun hg => ?_) (fun hg => ?_)
              · refine W.norm [] [4, 57] (envOf [(4, I64 a0), (57, Bl (a0 == (35)))]) [] (by kernel_rfl) ?_
                refine W.skip ?_
                exact W.toJ (a0 == (35)) hg (by kernel_rfl) (by kernel_rfl)
              refine W.regG ?_
              refine RG.fin 2 [] (envOf [(4, I64 a0), (57, Bl (a0 == (37)))]) [] (by kernel_rfl) ?_
              exact W.toJ (a0 == (37)) hg (by kernel_rfl) (by kernel_rfl)
            refine W.seq ?_
            refine W.regG ?_
            refine RG.fin 2 [] (envOf [(4, I64 a0), (46, Bl (a0 == (29)))]) [] (by kernel_rfl) ?_
            refine W.condB (b := (a0 == (29))) (by kernel_rfl) hg (fun hg => ?_) (fun hg => ?_)
            · refine W.norm [] [4, 46] (envOf [(4, I64 a0), (46, Bl (a0 == (29)))]) [] (by kernel_rfl) ?_
              refine W.skip ?_
              exact W.toJ (a0 == (29)) hg (by kernel_rfl) (by kernel_rfl)
            refine W.regG ?_
            refine RG.fin 2 [] (envOf [(4, I64 a0), (46, Bl (a0 == (30)))]) [] (by kernel_rfl) ?_
            exact W.toJ (a0 == (30)) hg (by kernel_rfl) (by kernel_rfl)
          refine W.seq ?_
          refine W.regG ?_
          refine RG.fin 2 [] (envOf [(4, I64 a0), (38, Bl (a0 == (22)))]) [] (by kernel_rfl) ?_
          refine W.condB (b := (a0 == (22))) (by kernel_rfl) hg (fun hg => ?_) (fun hg => ?_)
          · refine W.norm [] [4, 38] (envOf [(4, I64 a0), (38, Bl (a0 == (22)))]) [] (by kernel_rfl) ?_
            refine W.skip ?_
            exact W.toJ (a0 == (22)) hg (by kernel_rfl) (by kernel_rfl)
          refine W.seq ?_
          refine W.regG ?_
          refine RG.fin 2 [] (envOf [(4, I64 a0), (38, Bl (a0 == (23)))]) [] (by kernel_rfl) ?_
          refine W.condB (b := (a0 == (23))) (by kernel_rfl) hg (fun hg => ?_) (fun hg => ?_)
          · refine W.norm [] [4, 38] (envOf [(4, I64 a0), (38, Bl (a0 == (23)))]) [] (by kernel_rfl) ?_
            refine W.skip ?_
            exact W.toJ (a0 == (23)) hg (by kernel_rfl) (by kernel_rfl)
          refine W.seq ?_
          refine W.regG ?_
          refine RG.fin 2 [] (envOf [(4, I64 a0), (38, Bl (a0 == (24)))]) [] (by kernel_rfl) ?_
          refine W.condB (b := (a0 == (24))) (by kernel_rfl) hg (fun hg => ?_) (fun hg => ?_)
          · refine W.norm [] [4, 38] (envOf [(4, I64 a0), (38, Bl (a0 == (24)))]) [] (by kernel_rfl) ?_
            refine W.skip ?_
            exact W.toJ (a0 == (24)) hg (by kernel_rfl) (by kernel_rfl)
          refine W.seq ?_
          refine W.regG ?_
          refine RG.fin 2 [] (envOf [(4, I64 a0), (38, Bl (a0 == (27)))]) [] (by kernel_rfl) ?_
          refine W.condB (b := (a0 == (27))) (by kernel_rfl) hg (fun hg => ?_) (fun hg => ?_)
          · refine W.norm [] [4, 38] (envOf [(4, I64 a0), (38, Bl (a0 == (27)))]) [] (by kernel_rfl) ?_
            refine W.skip ?_
            exact W.toJ (a0 == (27)) hg (by kernel_rfl) (by kernel_rfl)
          refine W.regG ?_
          refine RG.fin 2 [] (envOf [(4, I64 a0), (38, Bl (a0 == (28)))]) [] (by kernel_rfl) ?_
          exact W.toJ (a0 == (28)) hg (by kernel_rfl) (by kernel_rfl)
        refine W.seq ?_
        refine W.regG ?_
        refine RG.fin 2 [] (envOf [(4, I64 a0), (35, Bl (a0 == (21)))]) [] (by kernel_rfl) ?_
        refine W.condB (b := (a0 == (21))) (by kernel_rfl) hg (fun hg => ?_) (fun hg => ?_)
        · refine W.norm [] [4, 35] (envOf [(4, I64 a0), (35, Bl (a0 == (21)))]) [] (by kernel_rfl) ?_
          refine W.skip ?_
          exact W.toJ (a0 == (21)) hg (by kernel_rfl) (by kernel_rfl)
        refine W.regG ?_
        refine RG.fin 2 [] (envOf [(4, I64 a0), (35, Bl (a0 == (25)))]) [] (by kernel_rfl) ?_
        exact W.toJ (a0 == (25)) hg (by kernel_rfl) (by kernel_rfl)
      refine W.seq ?_
      refine W.regG ?_
      refine RG.fin 2 [] (envOf [(4, I64 a0), (32, Bl (a0 == (19)))]) [] (by kernel_rfl) ?_
      refine W.condB (b := (a0 == (19))) (by kernel_rfl) hg (fun hg => ?_) (fun hg => ?_)
      · refine W.norm [] [4, 32] (envOf [(4, I64 a0), (32, Bl (a0 == (19)))]) [] (by kernel_rfl) ?_
        refine W.skip ?_
        exact W.toJ (a0 == (19)) hg (by kernel_rfl) (by kernel_rfl)
      refine W.regG ?_
      refine RG.fin 2 [] (envOf [(4, I64 a0), (32, Bl (a0 == (20)))]) [] (by kernel_rfl) ?_
      exact W.toJ (a0 == (20)) hg (by kernel_rfl) (by kernel_rfl)
    refine W.seq ?_
    refine W.regG ?_
    refine RG.fin 2 [] (envOf [(4, I64 a0), (19, Bl (a0 == (11)))]) [] (by kernel_rfl) ?_
    refine W.condB (b := (a0 == (11))) (by kernel_rfl) hg (fun hg => ?_) (fun hg => ?_)
    · refine W.norm [] [4, 19] (envOf [(4, I64 a0), (19, Bl (a0 == (11)))]) [] (by kernel_rfl) ?_
      refine W.skip ?_
      exact W.toJ (a0 == (11)) hg (by kernel_rfl) (by kernel_rfl)
    refine W.seq ?_
    refine W.regG ?_
    refine RG.fin 2 [] (envOf [(4, I64 a0), (19, Bl (a0 == (12)))]) [] (by kernel_rfl) ?_
    refine W.condB (b := (a0 == (12))) (by kernel_rfl) hg (fun hg => ?_) (fun hg => ?_)
    · refine W.norm [] [4, 19] (envOf [(4, I64 a0), (19, Bl (a0 == (12)))]) [] (by kernel_rfl) ?_
      refine W.skip ?_
      exact W.toJ (a0 == (12)) hg (by kernel_rfl) (by kernel_rfl)
    refine W.seq ?_
    refine W.regG ?_
    refine RG.fin 2 [] (envOf [(4, I64 a0), (19, Bl (a0 == (13)))]) [] (by kernel_rfl) ?_
    refine W.condB (b := (a0 == (13))) (by kernel_rfl) hg (fun hg => ?_) (fun hg => ?_)
    · refine W.norm [] [4, 19] (envOf [(4, I64 a0), (19, Bl (a0 == (13)))]) [] (by kernel_rfl) ?_
      refine W.skip ?_
      exact W.toJ (a0 == (13)) hg (by kernel_rfl) (by kernel_rfl)
    refine W.regG ?_
    refine RG.fin 2 [] (envOf [(4, I64 a0), (19, Bl (a0 == (14)))]) [] (by kernel_rfl) ?_
    exact W.toJ (a0 == (14)) hg (by kernel_rfl) (by kernel_rfl)
  refine W.seq ?_
  refine W.regG ?_
  refine RG.fin 2 [] (envOf [(4, I64 a0), (11, Bl (a0 == (4)))]) [] (by kernel_rfl) ?_
  refine W.condB (b := (a0 == (4))) (by kernel_rfl) hg (fun hg => ?_) (fun hg => ?_)
  · refine W.norm [] [4, 11] (envOf [(4, I64 a0), (11, Bl (a0 == (4)))]) [] (by kernel_rfl) ?_
    refine W.skip ?_
    exact W.toJ (a0 == (4)) hg (by kernel_rfl) (by kernel_rfl)
  refine W.seq ?_
  refine W.regG ?_
  refine RG.fin 2 [] (envOf [(4, I64 a0), (11, Bl (a0 == (5)))]) [] (by kernel_rfl) ?_
  refine W.condB (b := (a0 == (5))) (by kernel_rfl) hg (fun hg => ?_) (fun hg => ?_)
  · refine W.norm [] [4, 11] (envOf [(4, I64 a0), (11, Bl (a0 == (5)))]) [] (by kernel_rfl) ?_
    refine W.skip ?_
    exact W.toJ (a0 == (5)) hg (by kernel_rfl) (by kernel_rfl)
  refine W.seq ?_
  refine W.regG ?_
  refine RG.fin 2 [] (envOf [(4, I64 a0), (11, Bl (a0 == (6)))]) [] (by kernel_rfl) ?_
  refine W.condB (b := (a0 == (6))) (by kernel_rfl) hg (fun hg => ?_) (fun hg => ?_)
  · refine W.norm [] [4, 11] (envOf [(4, I64 a0), (11, Bl (a0 == (6)))]) [] (by kernel_rfl) ?_
    refine W.skip ?_
    exact W.toJ (a0 == (6)) hg (by kernel_rfl) (by kernel_rfl)
  refine W.seq ?_
  refine W.regG ?_
  refine RG.fin 2 [] (envOf [(4, I64 a0), (11, Bl (a0 == (7)))]) [] (by kernel_rfl) ?_
  refine W.condB (b := (a0 == (7))) (by kernel_rfl) hg (fun hg => ?_) (fun hg => ?_)
  · refine W.norm [] [4, 11] (envOf [(4, I64 a0), (11, Bl (a0 == (7)))]) [] (by kernel_rfl) ?_
    refine W.skip ?_
    exact W.toJ (a0 == (7)) hg (by kernel_rfl) (by kernel_rfl)
  refine W.seq ?_
  refine W.regG ?_
  refine RG.fin 2 [] (envOf [(4, I64 a0), (11, Bl (a0 == (8)))]) [] (by kernel_rfl) ?_
  refine W.condB (b := (a0 == (8))) (by kernel_rfl) hg (fun hg => ?_) (fun hg => ?_)
  · refine W.norm [] [4, 11] (envOf [(4, I64 a0), (11, Bl (a0 == (8)))]) [] (by kernel_rfl) ?_
    refine W.skip ?_
    exact W.toJ (a0 == (8)) hg (by kernel_rfl) (by kernel_rfl)
  refine W.seq ?_
  refine W.regG ?_
  refine RG.fin 2 [] (envOf [(4, I64 a0), (11, Bl (a0 == (9)))]) [] (by kernel_rfl) ?_
  refine W.condB (b := (a0 == (9))) (by kernel_rfl) hg (fun hg => ?_) (fun hg => ?_)
  · refine W.norm [] [4, 11] (envOf [(4, I64 a0), (11, Bl (a0 == (9)))]) [] (by kernel_rfl) ?_
    refine W.skip ?_
    exact W.toJ (a0 == (9)) hg (by kernel_rfl) (by kernel_rfl)
  refine W.regG ?_
  refine RG.fin 2 [] (envOf [(4, I64 a0), (11, Bl (a0 == (10)))]) [] (by kernel_rfl) ?_
  exact W.toJ (a0 == (10)) hg (by kernel_rfl) (by kernel_rfl)
def g10_b1 (n : Nat) (a0 : T_api_Inst) (v1 : ByteArray × Bool) (s1 : Int × (List Int)) : Option (Bo (Int × (List Int)) (Int × Bool × (List Int)) Empty) := bif v1.2 then bif (decide (s1.1 < (3))) then need ((0 : Int) ≤ (IntKind.i64.wrap (s1.1 + (1))) ∧ (IntKind.i64.wrap (s1.1 + (1))) < (v1.1.size : Nat)) (bif ((byteAt v1.1 (IntKind.i64.wrap (s1.1 + (1)))) != (45)) then need ((0 : Int) ≤ s1.1 ∧ s1.1 < ((([a0.A_, a0.B_, a0.C_] : List Int).map c_i64).length : Nat)) ((([a0.A_, a0.B_, a0.C_] : List Int)[s1.1.toNat]?).bind fun y2 => need ((s1.2.length + ([y2] : List Int).length) * 8 ≤ 140737488355328) (some (.go ((IntKind.i64.wrap (s1.1 + (1))), (s1.2 ++ ([y2] : List Int)))))) else some (.go ((IntKind.i64.wrap (s1.1 + (1))), s1.2))) else some (.out (s1.1, (decide (s1.1 < (3))), s1.2)) else some (.out (s1.1, false, s1.2))
def g10 (n : Nat) (a0 : T_api_Inst) : Option (List Int) := (g27 a0.Op_).bind fun v1 => (iter (g10_b1 n a0 v1) n ((0), ([] : List Int))).bind (Bo.then (fun t1 => some t1.2.2) (fun r => r.elim))
theorem g10_ok (n : Nat) (a0 : T_api_Inst) (r : (List Int)) (hg : g10 n a0 = some r) : CallOk Go.Proofs.Try.prog 10 [.ag [I64 a0.Op_, I64 a0.D_, I64 a0.A_, I64 a0.B_, I64 a0.C_, I64 a0.N_, .sc (.int .u32 a0.Bits_)]] [] (.sl 100000 [] 0 ((r.map c_i64).length)) [(100000, ⟨1, (r.map c_i64)⟩)] := by
  unfold g10 at hg
  refine CallG.narrow ?_ (by kernel_rfl) (by simp [noImH, noImE, noImC, noIm, noImE_map, c_T_api_Param, c_i64, c_u8])
  refine .of_S [0] (envOf [(0, .ag [I64 a0.Op_, I64 a0.D_, I64 a0.A_, I64 a0.B_, I64 a0.C_, I64 a0.N_, .sc (.int .u32 a0.Bits_)])]) fn10 (by kernel_rfl) ?_
  refine W.seq ?_
  refine W.regG ?_
  refine RG.fin 2 [(1, 1)] (envOf [(1, .pt 1 [] 0 0)]) [(1, ⟨7, [[I64 a0.Op_, I64 a0.D_, I64 a0.A_, I64 a0.B_, I64 a0.C_, I64 a0.N_, .sc (.int .u32 a0.Bits_)]]⟩)] (by kernel_rfl) ?_
  refine W.seq ?_
  refine W.regG ?_
  refine RG.fin 1 [(1, 1)] (envOf [(1, .pt 1 [] 0 0), (3, .zs)]) [(1, ⟨7, [[I64 a0.Op_, I64 a0.D_, I64 a0.A_, I64 a0.B_, I64 a0.C_, I64 a0.N_, .sc (.int .u32 a0.Bits_)]]⟩)] (by kernel_rfl) ?_
  refine W.seq ?_
  refine W.regG ?_
  refine RG.cut 2 [(1, 1)] [1, 3, 10] (envOf [(1, .pt 1 [] 0 0), (3, .zs), (10, I64 a0.Op_)]) [(1, ⟨7, [[I64 a0.Op_, I64 a0.D_, I64 a0.A_, I64 a0.B_, I64 a0.C_, I64 a0.N_, .sc (.int .u32 a0.Bits_)]]⟩)] (by kernel_rfl) ?_
  refine RG.callP [] [(1, 1)] [1, 3, 11] false [I64 a0.Op_] (fun v1 => .tu [St v1.1, Bl v1.2]) (fun v1 => []) (fun v1 => envOf [(1, .pt 1 [] 0 0), (3, .zs), (11, .tu [St v1.1, Bl v1.2])]) (fun v1 => [(1, ⟨7, [[I64 a0.Op_, I64 a0.D_, I64 a0.A_, I64 a0.B_, I64 a0.C_, I64 a0.N_, .sc (.int .u32 a0.Bits_)]]⟩)]) (by kernel_rfl) hg (by kernel_rfl) (fun v1 hv => CallOk.toG (g27_ok a0.Op_ v1 hv)) (by kernel_rfl) (fun v1 => by kernel_rfl) (fun h => by cases h) (fun v1 hv hg => ?_)
  refine RG.fin 5 [(1, 1)] (envOf [(1, .pt 1 [] 0 0), (3, .zs), (4, St v1.1), (5, Bl v1.2)]) [(1, ⟨7, [[I64 a0.Op_, I64 a0.D_, I64 a0.A_, I64 a0.B_, I64 a0.C_, I64 a0.N_, .sc (.int .u32 a0.Bits_)]]⟩)] (by kernel_rfl) ?_
  refine W.seq ?_
  refine W.regG ?_
  refine RG.fin 8 [(20, 20)] (envOf [(3, .zs), (4, St v1.1), (5, Bl v1.2), (6, .sl 20 [] 0 ((([a0.A_, a0.B_, a0.C_] : List Int).map c_i64).length))]) [(20, ⟨1, (([a0.A_, a0.B_, a0.C_] : List Int).map c_i64)⟩)] (by kernel_rfl) ?_
  refine W.seq ?_
  refine W.seq ?_
  refine W.regG ?_
  refine RG.fin 1 [(20, 20)] (envOf [(3, .zs), (4, St v1.1), (5, Bl v1.2), (6, .sl 20 [] 0 ((([a0.A_, a0.B_, a0.C_] : List Int).map c_i64).length)), (7, I64 (0))]) [(20, ⟨1, (([a0.A_, a0.B_, a0.C_] : List Int).map c_i64)⟩)] (by kernel_rfl) ?_
  refine W.ghost (Ghost.nil (t := 3) (d := 300003) (s := 1) (by kernel_rfl) (by simp) (by kernel_rfl)) ?_
  refine W.norm [(20, 20), (300003, 300003)] [3, 4, 5, 6, 7] (envOf [(3, .sl 300003 [] 0 ((([] : List Int).map c_i64).length)), (4, St v1.1), (5, Bl v1.2), (6, .sl 20 [] 0 ((([a0.A_, a0.B_, a0.C_] : List Int).map c_i64).length)), (7, I64 (0))]) [(20, ⟨1, (([a0.A_, a0.B_, a0.C_] : List Int).map c_i64)⟩), (300003, ⟨1, (([] : List Int).map c_i64)⟩)] (by kernel_rfl) ?_
  refine W.loopB (fun s1 : Int × (List Int) => envOf [(3, .sl 300003 [] 0 ((s1.2.map c_i64).length)), (4, St v1.1), (5, Bl v1.2), (6, .sl 20 [] 0 ((([a0.A_, a0.B_, a0.C_] : List Int).map c_i64).length)), (7, I64 s1.1)]) (fun s1 : Int × (List Int) => [(20, ⟨1, (([a0.A_, a0.B_, a0.C_] : List Int).map c_i64)⟩), (300003, ⟨1, (s1.2.map c_i64)⟩)]) (fun t1 : Int × Bool × (List Int) => envOf [(3, .sl 300003 [] 0 ((t1.2.2.map c_i64).length)), (4, St v1.1), (5, Bl v1.2), (6, .sl 20 [] 0 ((([a0.A_, a0.B_, a0.C_] : List Int).map c_i64).length)), (7, I64 t1.1), (25, Bl t1.2.1)]) (fun t1 : Int × Bool × (List Int) => [(20, ⟨1, (([a0.A_, a0.B_, a0.C_] : List Int).map c_i64)⟩), (300003, ⟨1, (t1.2.2.map c_i64)⟩)]) (fun (_ : Empty) _ _ => False) hg (by kernel_rfl) (by kernel_rfl) (fun s1 bb hg => ?_) (fun _ _ _ _ q => q.elim) (fun t1 hg => ?_)
  · unfold g10_b1 at hg
    refine W.seq ?_
    refine W.seq ?_
    refine W.regG ?_
    refine RG.cut 2 [(20, 20), (300003, 300003)] [3, 4, 5, 6, 7, 22, 23, 24] (envOf [(3, .sl 300003 [] 0 ((s1.2.map c_i64).length)), (4, St v1.1), (5, Bl v1.2), (6, .sl 20 [] 0 ((([a0.A_, a0.B_, a0.C_] : List Int).map c_i64).length)), (7, I64 s1.1), (22, Bl v1.2), (23, .un), (24, .un)]) [(20, ⟨1, (([a0.A_, a0.B_, a0.C_] : List Int).map c_i64)⟩), (300003, ⟨1, (s1.2.map c_i64)⟩)] (by kernel_rfl) ?_
    refine RG.guard (s := 22) (by kernel_rfl) hg (fun hg => ?_) (fun hg => ?_)
    · refine RG.fin 3 [(20, 20), (300003, 300003)] (envOf [(3, .sl 300003 [] 0 ((s1.2.map c_i64).length)), (4, St v1.1), (5, Bl v1.2), (6, .sl 20 [] 0 ((([a0.A_, a0.B_, a0.C_] : List Int).map c_i64).length)), (7, I64 s1.1), (25, Bl (decide (s1.1 < (3))))]) [(20, ⟨1, (([a0.A_, a0.B_, a0.C_] : List Int).map c_i64)⟩), (300003, ⟨1, (s1.2.map c_i64)⟩)] (by kernel_rfl) ?_
      refine W.condB (b := (decide (s1.1 < (3)))) (by kernel_rfl) hg (fun hg => ?_) (fun hg => ?_)
      · refine W.skip ?_
        refine W.seq ?_
        refine W.block ?_
        refine W.seq ?_
        refine W.regG ?_
        refine RG.cut 3 [(20, 20), (300003, 300003)] [3, 4, 5, 6, 7, 28, 30] (envOf [(3, .sl 300003 [] 0 ((s1.2.map c_i64).length)), (4, St v1.1), (5, Bl v1.2), (6, .sl 20 [] 0 ((([a0.A_, a0.B_, a0.C_] : List Int).map c_i64).length)), (7, I64 s1.1), (28, St v1.1), (30, I64 (IntKind.i64.wrap (s1.1 + (1))))]) [(20, ⟨1, (([a0.A_, a0.B_, a0.C_] : List Int).map c_i64)⟩), (300003, ⟨1, (s1.2.map c_i64)⟩)] (by kernel_rfl) ?_
        refine RG.ids (s := v1.1) (m := (IntKind.i64.wrap (s1.1 + (1)))) (k := .i64) (by kernel_rfl) (by kernel_rfl) (by kernel_rfl) hg (fun hg => ?_)
        refine RG.fin 1 [(20, 20), (300003, 300003)] (envOf [(3, .sl 300003 [] 0 ((s1.2.map c_i64).length)), (4, St v1.1), (5, Bl v1.2), (6, .sl 20 [] 0 ((([a0.A_, a0.B_, a0.C_] : List Int).map c_i64).length)), (7, I64 s1.1), (32, Bl ((byteAt v1.1 (IntKind.i64.wrap (s1.1 + (1)))) != (45)))]) [(20, ⟨1, (([a0.A_, a0.B_, a0.C_] : List Int).map c_i64)⟩), (300003, ⟨1, (s1.2.map c_i64)⟩)] (by kernel_rfl) ?_
        refine W.condB (b := ((byteAt v1.1 (IntKind.i64.wrap (s1.1 + (1)))) != (45))) (by kernel_rfl) hg (fun hg => ?_) (fun hg => ?_)
        · refine W.regG ?_
          refine RG.cut 3 [(20, 20), (300003, 300003)] [4, 5, 6, 7, 33, 34, 35] (envOf [(4, St v1.1), (5, Bl v1.2), (6, .sl 20 [] 0 ((([a0.A_, a0.B_, a0.C_] : List Int).map c_i64).length)), (7, I64 s1.1), (33, .sl 300003 [] 0 ((s1.2.map c_i64).length)), (34, .sl 20 [] 0 ((([a0.A_, a0.B_, a0.C_] : List Int).map c_i64).length)), (35, I64 s1.1)]) [(20, ⟨1, (([a0.A_, a0.B_, a0.C_] : List Int).map c_i64)⟩), (300003, ⟨1, (s1.2.map c_i64)⟩)] (by kernel_rfl) ?_
          refine RG.iadSl0 (n := 20) (p := []) (len := ((([a0.A_, a0.B_, a0.C_] : List Int).map c_i64).length)) (ys := (([a0.A_, a0.B_, a0.C_] : List Int).map c_i64)) (i := s1.1) (k := .i64) (by kernel_rfl) (by kernel_rfl) (by kernel_rfl) (by kernel_rfl) hg (fun _ _ hg => ?_)
          refine RG.loadPt (s := 1) (o := c_i64) (xs := ([a0.A_, a0.B_, a0.C_] : List Int)) (p := []) (i := s1.1.toNat) (c := 0) (k := 20) (fun y2 => I64 y2) (by kernel_rfl) (by kernel_rfl) (by kernel_rfl) hg (fun y2 => by kernel_rfl) (fun y2 hy2 hg => ?_)
          refine RG.cut 1 [(20, 20), (38, 38), (300003, 300003)] [4, 5, 6, 7, 33, 38] (envOf [(4, St v1.1), (5, Bl v1.2), (6, .sl 20 [] 0 ((([a0.A_, a0.B_, a0.C_] : List Int).map c_i64).length)), (7, I64 s1.1), (33, .sl 300003 [] 0 ((s1.2.map c_i64).length)), (38, .sl 38 [] 0 ((([y2] : List Int).map c_i64).length))]) [(20, ⟨1, (([a0.A_, a0.B_, a0.C_] : List Int).map c_i64)⟩), (38, ⟨1, (([y2] : List Int).map c_i64)⟩), (300003, ⟨1, (s1.2.map c_i64)⟩)] (by kernel_rfl) ?_
          refine RG.appSl (o := c_i64) (xs := s1.2) (ws := ([y2] : List Int)) (k := 300003) (mv := none) (by kernel_rfl) (by kernel_rfl) (srcE_row (by kernel_rfl) (fun _ => by kernel_rfl)) (by kernel_rfl) (by kernel_rfl) hg (fun hg => ?_)
          refine RG.fin 1 [(20, 20), (300003, 300003)] (envOf [(3, .sl 300003 [] 0 (((s1.2 ++ ([y2] : List Int)).map c_i64).length)), (4, St v1.1), (5, Bl v1.2), (6, .sl 20 [] 0 ((([a0.A_, a0.B_, a0.C_] : List Int).map c_i64).length)), (7, I64 s1.1)]) [(20, ⟨1, (([a0.A_, a0.B_, a0.C_] : List Int).map c_i64)⟩), (300003, ⟨1, ((s1.2 ++ ([y2] : List Int)).map c_i64)⟩)] (by kernel_rfl) ?_
          refine W.regG ?_
          refine RG.fin 3 [(20, 20), (300003, 300003)] (envOf [(3, .sl 300003 [] 0 (((s1.2 ++ ([y2] : List Int)).map c_i64).length)), (4, St v1.1), (5, Bl v1.2), (6, .sl 20 [] 0 ((([a0.A_, a0.B_, a0.C_] : List Int).map c_i64).length)), (7, I64 (IntKind.i64.wrap (s1.1 + (1))))]) [(20, ⟨1, (([a0.A_, a0.B_, a0.C_] : List Int).map c_i64)⟩), (300003, ⟨1, ((s1.2 ++ ([y2] : List Int)).map c_i64)⟩)] (by kernel_rfl) ?_
          obtain rfl := Option.some.inj hg
          exact ⟨rfl, by kernel_rfl, by kernel_rfl⟩
        refine W.skip ?_
        refine W.regG ?_
        refine RG.fin 3 [(20, 20), (300003, 300003)] (envOf [(3, .sl 300003 [] 0 ((s1.2.map c_i64).length)), (4, St v1.1), (5, Bl v1.2), (6, .sl 20 [] 0 ((([a0.A_, a0.B_, a0.C_] : List Int).map c_i64).length)), (7, I64 (IntKind.i64.wrap (s1.1 + (1))))]) [(20, ⟨1, (([a0.A_, a0.B_, a0.C_] : List Int).map c_i64)⟩), (300003, ⟨1, (s1.2.map c_i64)⟩)] (by kernel_rfl) ?_
        obtain rfl := Option.some.inj hg
        exact ⟨rfl, by kernel_rfl, by kernel_rfl⟩
      refine W.norm [(20, 20), (300003, 300003)] [3, 4, 5, 6, 7, 25] (envOf [(3, .sl 300003 [] 0 ((s1.2.map c_i64).length)), (4, St v1.1), (5, Bl v1.2), (6, .sl 20 [] 0 ((([a0.A_, a0.B_, a0.C_] : List Int).map c_i64).length)), (7, I64 s1.1), (25, Bl (decide (s1.1 < (3))))]) [(20, ⟨1, (([a0.A_, a0.B_, a0.C_] : List Int).map c_i64)⟩), (300003, ⟨1, (s1.2.map c_i64)⟩)] (by kernel_rfl) ?_
      refine W.exit ?_
      obtain rfl := Option.some.inj hg
      exact ⟨rfl, by kernel_rfl, by kernel_rfl⟩
    refine RG.fin 3 [(20, 20), (300003, 300003)] (envOf [(3, .sl 300003 [] 0 ((s1.2.map c_i64).length)), (4, St v1.1), (5, Bl v1.2), (6, .sl 20 [] 0 ((([a0.A_, a0.B_, a0.C_] : List Int).map c_i64).length)), (7, I64 s1.1), (25, Bl false)]) [(20, ⟨1, (([a0.A_, a0.B_, a0.C_] : List Int).map c_i64)⟩), (300003, ⟨1, (s1.2.map c_i64)⟩)] (by kernel_rfl) ?_
    refine W.condF (by kernel_rfl) ?_
    refine W.norm [(20, 20), (300003, 300003)] [3, 4, 5, 6, 7, 25] (envOf [(3, .sl 300003 [] 0 ((s1.2.map c_i64).length)), (4, St v1.1), (5, Bl v1.2), (6, .sl 20 [] 0 ((([a0.A_, a0.B_, a0.C_] : List Int).map c_i64).length)), (7, I64 s1.1), (25, Bl false)]) [(20, ⟨1, (([a0.A_, a0.B_, a0.C_] : List Int).map c_i64)⟩), (300003, ⟨1, (s1.2.map c_i64)⟩)] (by kernel_rfl) ?_
    refine W.exit ?_
    obtain rfl := Option.some.inj hg
    exact ⟨rfl, by kernel_rfl, by kernel_rfl⟩
  refine W.seq ?_
  refine W.regG ?_
  refine RG.fin 2 [(300003, 300003)] (envOf [(2, .sl 300003 [] 0 ((t1.2.2.map c_i64).length))]) [(300003, ⟨1, (t1.2.2.map c_i64)⟩)] (by kernel_rfl) ?_
  obtain rfl := Option.some.inj hg
  exact W.ret (Ends.of [(100000, 300003)] (by kernel_rfl))
def g11 (a0 : T_api_Inst) : Option Bool := (g26 a0.Op_).bind fun v1 => some (v1.1.d_ != (0))
theorem g11_ok (a0 : T_api_Inst) (r : Bool) (hg : g11 a0 = some r) : CallOk Go.Proofs.Try.prog 11 [.ag [I64 a0.Op_, I64 a0.D_, I64 a0.A_, I64 a0.B_, I64 a0.C_, I64 a0.N_, .sc (.int .u32 a0.Bits_)]] [] (Bl r) [] := by
  unfold g11 at hg
  refine CallG.narrow ?_ (by kernel_rfl) (by kernel_rfl)
  refine .of_S [0] (envOf [(0, .ag [I64 a0.Op_, I64 a0.D_, I64 a0.A_, I64 a0.B_, I64 a0.C_, I64 a0.N_, .sc (.int .u32 a0.Bits_)])]) fn11 (by kernel_rfl) ?_
  refine W.seq ?_
  refine W.regG ?_
  refine RG.fin 2 [(1, 1)] (envOf [(1, .pt 1 [] 0 0)]) [(1, ⟨7, [[I64 a0.Op_, I64 a0.D_, I64 a0.A_, I64 a0.B_, I64 a0.C_, I64 a0.N_, .sc (.int .u32 a0.Bits_)]]⟩)] (by kernel_rfl) ?_
  refine W.seq ?_
  refine W.regG ?_
  refine RG.cut 2 [] [7] (envOf [(7, I64 a0.Op_)]) [] (by kernel_rfl) ?_
  refine RG.callP [] [] [8] false [I64 a0.Op_] (fun v1 => .tu [.ag [I64 v1.1.d_, I64 v1.1.a_, I64 v1.1.b_, I64 v1.1.c_, I64 v1.1.n_], Bl v1.2]) (fun v1 => []) (fun v1 => envOf [(8, .tu [.ag [I64 v1.1.d_, I64 v1.1.a_, I64 v1.1.b_, I64 v1.1.c_, I64 v1.1.n_], Bl v1.2])]) (fun v1 => []) (by kernel_rfl) hg (by kernel_rfl) (fun v1 hv => CallOk.toG (g26_ok a0.Op_ v1 hv)) (by kernel_rfl) (fun v1 => by kernel_rfl) (fun h => by cases h) (fun v1 hv hg => ?_)
  refine RG.fin 6 [(3, 3)] (envOf [(3, .pt 3 [] 0 0)]) [(3, ⟨5, [[I64 v1.1.d_, I64 v1.1.a_, I64 v1.1.b_, I64 v1.1.c_, I64 v1.1.n_]]⟩)] (by kernel_rfl) ?_
  refine W.seq ?_
  refine W.regG ?_
  refine RG.fin 4 [] (envOf [(2, Bl (v1.1.d_ != (0)))]) [] (by kernel_rfl) ?_
  obtain rfl := Option.some.inj hg
  exact W.ret (Ends.of [] (by kernel_rfl))
def g12 (a0 : T_api_Inst) : Option Bool := (g27 a0.Op_).bind fun v1 => bif v1.2 then need ((0 : Int) ≤ (0 : Int) ∧ (0 : Int) < (v1.1.size : Nat)) (some ((byteAt v1.1 (0)) != (45))) else some false
theorem g12_ok (a0 : T_api_Inst) (r : Bool) (hg : g12 a0 = some r) : CallOk Go.Proofs.Try.prog 12 [.ag [I64 a0.Op_, I64 a0.D_, I64 a0.A_, I64 a0.B_, I64 a0.C_, I64 a0.N_, .sc (.int .u32 a0.Bits_)]] [] (Bl r) [] := by
  unfold g12 at hg
  refine CallG.narrow ?_ (by kernel_rfl) (by kernel_rfl)
  refine .of_S [0] (envOf [(0, .ag [I64 a0.Op_, I64 a0.D_, I64 a0.A_, I64 a0.B_, I64 a0.C_, I64 a0.N_, .sc (.int .u32 a0.Bits_)])]) fn12 (by kernel_rfl) ?_
  refine W.seq ?_
  refine W.regG ?_
  refine RG.fin 2 [(1, 1)] (envOf [(1, .pt 1 [] 0 0)]) [(1, ⟨7, [[I64 a0.Op_, I64 a0.D_, I64 a0.A_, I64 a0.B_, I64 a0.C_, I64 a0.N_, .sc (.int .u32 a0.Bits_)]]⟩)] (by kernel_rfl) ?_
  refine W.seq ?_
  refine W.regG ?_
  refine RG.cut 2 [] [7] (envOf [(7, I64 a0.Op_)]) [] (by kernel_rfl) ?_
  refine RG.callP [] [] [8] false [I64 a0.Op_] (fun v1 => .tu [St v1.1, Bl v1.2]) (fun v1 => []) (fun v1 => envOf [(8, .tu [St v1.1, Bl v1.2])]) (fun v1 => []) (by kernel_rfl) hg (by kernel_rfl) (fun v1 hv => CallOk.toG (g27_ok a0.Op_ v1 hv)) (by kernel_rfl) (fun v1 => by kernel_rfl) (fun h => by cases h) (fun v1 hv hg => ?_)
  refine RG.fin 5 [] (envOf [(3, St v1.1), (4, Bl v1.2)]) [] (by kernel_rfl) ?_
  refine W.seq ?_
  refine W.regG ?_
  refine RG.cut 2 [] [3, 12, 13, 14, 15] (envOf [(3, St v1.1), (12, Bl v1.2), (13, .un), (14, .un), (15, .un)]) [] (by kernel_rfl) ?_
  refine RG.guard (s := 12) (by kernel_rfl) hg (fun hg => ?_) (fun hg => ?_)
  · refine RG.cut 1 [] [12, 13, 14, 15] (envOf [(12, Bl true), (13, St v1.1), (14, .un), (15, .un)]) [] (by kernel_rfl) ?_
    refine RG.ids (s := v1.1) (m := (0)) (k := .i64) (by kernel_rfl) (by kernel_rfl) (by kernel_rfl) hg (fun hg => ?_)
    refine RG.fin 3 [] (envOf [(2, Bl ((byteAt v1.1 (0)) != (45)))]) [] (by kernel_rfl) ?_
    obtain rfl := Option.some.inj hg
    exact W.ret (Ends.of [] (by kernel_rfl))
  refine RG.fin 5 [] (envOf [(2, Bl false)]) [] (by kernel_rfl) ?_
  obtain rfl := Option.some.inj hg
  exact W.ret (Ends.of [] (by kernel_rfl))
def g13 (a0 : Int) : Option Bool := bif (decide (a0 ≥ (3))) then some (decide (a0 ≤ (15))) else some false
theorem g13_ok (a0 : Int) (r : Bool) (hg : g13 a0 = some r) : CallOk Go.Proofs.Try.prog 13 [I64 a0] [] (Bl r) [] := by
  unfold g13 at hg
  refine CallG.narrow ?_ (by kernel_rfl) (by kernel_rfl)
  refine .of_S [0] (envOf [(0, I64 a0)]) fn13 (by kernel_rfl) ?_
  refine W.seq ?_
  refine W.regG ?_
  refine RG.fin 1 [] (envOf [(0, I64 a0)]) [] (by kernel_rfl) ?_
  refine W.seq ?_
  refine W.regG ?_
  refine RG.cut 3 [] [0, 5, 6, 7] (envOf [(0, I64 a0), (5, Bl (decide (a0 ≥ (3)))), (6, .un), (7, .un)]) [] (by kernel_rfl) ?_
  refine RG.guard (s := 5) (by kernel_rfl) hg (fun hg => ?_) (fun hg => ?_)
  · refine RG.fin 4 [] (envOf [(2, Bl (decide (a0 ≤ (15))))]) [] (by kernel_rfl) ?_
    obtain rfl := Option.some.inj hg
    exact W.ret (Ends.of [] (by kernel_rfl))
  refine RG.fin 4 [] (envOf [(2, Bl false)]) [] (by kernel_rfl) ?_
  obtain rfl := Option.some.inj hg
  exact W.ret (Ends.of [] (by kernel_rfl))
def g14 (a0 : Int) : Option Bool := bif (decide (a0 ≥ (3))) then some (decide (a0 ≤ (15))) else some false
theorem g14_ok (a0 : Int) (r : Bool) (hg : g14 a0 = some r) : CallOk Go.Proofs.Try.prog 14 [I64 a0] [] (Bl r) [] := by
  unfold g14 at hg
  refine CallG.narrow ?_ (by kernel_rfl) (by kernel_rfl)
  refine .of_S [0] (envOf [(0, I64 a0)]) fn14 (by kernel_rfl) ?_
  refine W.seq ?_
  refine W.regG ?_
  refine RG.fin 1 [] (envOf [(0, I64 a0)]) [] (by kernel_rfl) ?_
  refine W.seq ?_
  refine W.regG ?_
  refine RG.cut 3 [] [0, 5, 6, 7] (envOf [(0, I64 a0), (5, Bl (decide (a0 ≥ (3)))), (6, .un), (7, .un)]) [] (by kernel_rfl) ?_
  refine RG.guard (s := 5) (by kernel_rfl) hg (fun hg => ?_) (fun hg => ?_)
  · refine RG.fin 4 [] (envOf [(2, Bl (decide (a0 ≤ (15))))]) [] (by kernel_rfl) ?_
    obtain rfl := Option.some.inj hg
    exact W.ret (Ends.of [] (by kernel_rfl))
  refine RG.fin 4 [] (envOf [(2, Bl false)]) [] (by kernel_rfl) ?_
  obtain rfl := Option.some.inj hg
  exact W.ret (Ends.of [] (by kernel_rfl))
def g20 (a0 : (List T_api_Inst)) : Option T_api_Code := need ((a0 : List T_api_Inst).length * 56 ≤ 140737488355328) (some (⟨([(⟨⟨#[119]⟩, (1), (3)⟩ : T_api_Param)] : List T_api_Param), ([(⟨(1), (0)⟩ : T_api_Type), (⟨(3), (0)⟩ : T_api_Type), (⟨(2), (0)⟩ : T_api_Type)] : List T_api_Type), [], a0⟩ : T_api_Code))
theorem g20_ok (a0 : (List T_api_Inst)) (r : T_api_Code) (hg : g20 a0 = some r) : CallOk Go.Proofs.Try.prog 20 [.im 7 (a0.map c_T_api_Inst)] [] (.ag [.sl 100000 [(0, 0)] 0 ((r.Sign_.map c_T_api_Param).length), .sl 100000 [(0, 1)] 0 ((r.Regs_.map c_T_api_Type).length), .zs, .sl 100000 [(0, 3)] 0 ((r.List_.map c_T_api_Inst).length)]) [(100000, ⟨4, [[.ow 3 (r.Sign_.map c_T_api_Param), .ow 2 (r.Regs_.map c_T_api_Type), .zs, .ow 7 (r.List_.map c_T_api_Inst)]]⟩)] := by
  unfold g20 at hg
  refine CallG.narrow ?_ (by kernel_rfl) (by simp [noImH, noImE, noImC, noIm, noImE_map, c_T_api_Inst, c_T_api_Param, c_T_api_Type, c_i64, c_u8])
  refine .of_S [0] (envOf [(0, .im 7 (a0.map c_T_api_Inst))]) fn20 (by kernel_rfl) ?_
  refine W.seq ?_
  refine W.regG ?_
  refine RG.fin 1 [(2, 2)] (envOf [(0, .im 7 (a0.map c_T_api_Inst)), (2, .pt 2 [] 0 0)]) [(2, ⟨4, [[.zs, .zs, .zs, .zs]]⟩)] (by kernel_rfl) ?_
  refine W.seq ?_
  refine W.regG ?_
  refine RG.fin 1 [(2, 2)] (envOf [(0, .im 7 (a0.map c_T_api_Inst)), (2, .pt 2 [] 0 0), (3, .zs)]) [(2, ⟨4, [[.zs, .zs, .zs, .zs]]⟩)] (by kernel_rfl) ?_
  refine W.seq ?_
  refine W.regG ?_
  refine RG.cut 2 [(2, 2)] [2, 4, 5] (envOf [(2, .pt 2 [] 0 0), (4, .zs), (5, .im 7 (a0.map c_T_api_Inst))]) [(2, ⟨4, [[.zs, .zs, .zs, .zs]]⟩)] (by kernel_rfl) ?_
  refine RG.appNil (o := c_T_api_Inst) (ws := a0) (mv := none) (by kernel_rfl) (by kernel_rfl) (by kernel_rfl) (by kernel_rfl) hg (fun hg => ?_)
  refine RG.fin 1 [(2, 2), (6, 6)] (envOf [(2, .pt 2 [] 0 0), (3, .sl 6 [] 0 ((a0.map c_T_api_Inst).length))]) [(2, ⟨4, [[.zs, .zs, .zs, .zs]]⟩), (6, ⟨7, (a0.map c_T_api_Inst)⟩)] (by kernel_rfl) ?_
  refine W.seq ?_
  refine W.regG ?_
  refine RG.cut 8 [(2, 2), (6, 6), (8, 8), (12, 12)] [2, 14] (envOf [(2, .pt 2 [] 0 0), (14, .ag [.sl 8 [] 0 ((([(⟨⟨#[119]⟩, (1), (3)⟩ : T_api_Param)] : List T_api_Param).map c_T_api_Param).length), .sl 12 [] 0 ((([(⟨(1), (0)⟩ : T_api_Type), (⟨(3), (0)⟩ : T_api_Type), (⟨(2), (0)⟩ : T_api_Type)] : List T_api_Type).map c_T_api_Type).length), .zs, .sl 6 [] 0 ((a0.map c_T_api_Inst).length)])]) [(2, ⟨4, [[.zs, .zs, .zs, .zs]]⟩), (6, ⟨7, (a0.map c_T_api_Inst)⟩), (8, ⟨3, (([(⟨⟨#[119]⟩, (1), (3)⟩ : T_api_Param)] : List T_api_Param).map c_T_api_Param)⟩), (12, ⟨2, (([(⟨(1), (0)⟩ : T_api_Type), (⟨(3), (0)⟩ : T_api_Type), (⟨(2), (0)⟩ : T_api_Type)] : List T_api_Type).map c_T_api_Type)⟩)] (by kernel_rfl) ?_
  refine RG.st (k := 2) (p := []) (i := 0) (c := 0) (r0 := ⟨4, [[.zs, .zs, .zs, .zs]]⟩) (s := 4) (ys := [[.zs, .zs, .zs, .zs]]) (x0 := [.zs, .zs, .zs, .zs]) (vs := [.sl 8 [] 0 ((([(⟨⟨#[119]⟩, (1), (3)⟩ : T_api_Param)] : List T_api_Param).map c_T_api_Param).length), .sl 12 [] 0 ((([(⟨(1), (0)⟩ : T_api_Type), (⟨(3), (0)⟩ : T_api_Type), (⟨(2), (0)⟩ : T_api_Type)] : List T_api_Type).map c_T_api_Type).length), .zs, .sl 6 [] 0 ((a0.map c_T_api_Inst).length)]) (by kernel_rfl) (by kernel_rfl) (by kernel_rfl) (by kernel_rfl) (by kernel_rfl) (by kernel_rfl) (by kernel_rfl) (by kernel_rfl) (Abs.row (k := 8) (s := 3) (xs := (([(⟨⟨#[119]⟩, (1), (3)⟩ : T_api_Param)] : List T_api_Param).map c_T_api_Param)) (by kernel_rfl) (Abs.row (k := 12) (s := 2) (xs := (([(⟨(1), (0)⟩ : T_api_Type), (⟨(3), (0)⟩ : T_api_Type), (⟨(2), (0)⟩ : T_api_Type)] : List T_api_Type).map c_T_api_Type)) (by kernel_rfl) (Abs.zs (Abs.row (k := 6) (s := 7) (xs := (a0.map c_T_api_Inst)) (by kernel_rfl) (Abs.nil))))) ?_
  refine RG.fin 0 [(2, 2)] (envOf [(2, .pt 2 [] 0 0)]) [(2, ⟨4, [[.ow 3 (([(⟨⟨#[119]⟩, (1), (3)⟩ : T_api_Param)] : List T_api_Param).map c_T_api_Param), .ow 2 (([(⟨(1), (0)⟩ : T_api_Type), (⟨(3), (0)⟩ : T_api_Type), (⟨(2), (0)⟩ : T_api_Type)] : List T_api_Type).map c_T_api_Type), .zs, .ow 7 (a0.map c_T_api_Inst)]]⟩)] (by kernel_rfl) ?_
  obtain rfl := Option.some.inj hg
  exact W.ret (Ends.of [(100000, 2)] (by kernel_rfl))
/-- sign.Check over the parameters: none: one may not be; else the names, each once. -/
def g28_l (n : Nat) : List T_api_Param → List ByteArray → Option (Option (List ByteArray))
  | [], ks => some (some ks)
  | p :: l, ks => (g48 n p).bind fun v => bif v then g28_l n l (bif has p.Name_ ks then ks else ks ++ [p.Name_]) else some none
def g28_r (n : Nat) (a0 : List T_api_Param) : Option (List ByteArray) → Option Int
  | none => some 100
  | some ks => bif decide ((ks.length : Int) < ((a0.map c_T_api_Param).length : Int)) then some 101 else (g49 n a0).bind fun v => bif decide (v > 65536) then some 102 else some 0
def g28 (n : Nat) (a0 : List T_api_Param) : Option Int := bif decide (((a0.map c_T_api_Param).length : Int) > 64) then some 2 else (g28_l n a0 []).bind (g28_r n a0)

namespace F28
noncomputable abbrev P : Program := Go.Proofs.Try.prog
noncomputable def b : Code := (Go.Proofs.Try.f28.body).getD .skip
theorem body : Go.Proofs.Try.f28.body = some b := by kernel_rfl
theorem e1 : b = .seq (lf b) (.seq (lf (rt b)) (.seq (.region (rid (lf (rt (rt b)))) (rops (lf (rt (rt b)))) false) (.seq (lf (rt (rt (rt b)))) (rt (rt (rt (rt b))))))) := by kernel_rfl
noncomputable abbrev R3 : Array Oper := rops (lf (rt (rt b)))
noncomputable def z : Code := lf (rt (rt (rt b)))
noncomputable def q : Code := rt (rt (rt (rt b)))
noncomputable def l : Code := lf (lf (rt z))
theorem e2 : z = .seq (lf z) (.block 0 (.loop l)) := by kernel_rfl
theorem e3 : l = .seq (lf l) (.seq (.cond (.tmp 13) .skip (.exit 0)) (.seq (.block 1 (.seq (lf (lf (lf (rt (rt l))))) (.seq (lf (rt (lf (lf (rt (rt l)))))) (.region (rid (rt (rt (lf (lf (rt (rt l))))))) (rops (rt (rt (lf (lf (rt (rt l))))))) false)))) (rt (rt (rt l))))) := by kernel_rfl
noncomputable abbrev R9 : Array Oper := rops (rt (rt (lf (lf (rt (rt l))))))
theorem e4 : q = .seq (.block 2 (.seq (.region (rid (lf (lf (lf q)))) (rops (lf (lf (lf q)))) false) (rt (lf (lf q))))) (rt q) := by kernel_rfl
noncomputable abbrev R11 : Array Oper := rops (lf (lf (lf q)))
end F28
namespace F28
abbrev xs (a0 : List T_api_Param) : Els := a0.map c_T_api_Param
abbrev mp (b : Nat) : AV := .sc (.map (some b))
/-- The slots at the loop's head. -/
abbrev EL (a0 : List T_api_Param) (b : Nat) (i : Int) : Env := envOf [(0, .im 3 (xs a0)), (3, mp b), (10, .im 3 (xs a0)), (11, I64 ((xs a0).length : Int)), (12, I64 i)]
abbrev EL' (a0 : List T_api_Param) (b : Nat) (i : Int) : Env := envOf [(0, .im 3 (xs a0)), (3, mp b), (10, .im 3 (xs a0)), (11, I64 ((xs a0).length : Int)), (12, I64 i), (13, Bl (decide (i < ((xs a0).length : Int))))]
theorem ut : P.underlying 89 = some (.map 9 3) := by kernel_rfl
theorem uk : P.underlying 9 = some .string := by kernel_rfl
theorem uz (w : World) : (zeroValue 3).run P w = .ok (.int .i64 0) w := by kernel_rfl

theorem body9 {w0 w : World} {a : Act} {a0 : List T_api_Param} {bm : Nat} {ks : List ByteArray} {i : Int} {p : T_api_Param} {Q : Exit → Act → World → Prop}
    (n : Now 35 w0 (some (bm, ks)) (envOf [(0, .im 3 (xs a0)), (3, mp bm), (5, .pt 5 [] 0 0), (10, .im 3 (xs a0)), (11, I64 ((xs a0).length : Int)), (12, I64 i), (18, Bl false)]) [(5, ⟨3, [[St p.Name_, I64 p.Kind_, I64 p.Len_]]⟩)] a w)
    (hK : ∀ a' w', Now 35 w0 (some (bm, bif has p.Name_ ks then ks else ks ++ [p.Name_])) (EL a0 bm i) [] a' w' → Q .normal a' w') :
    (Code.region (rid (rt (rt (lf (lf (rt (rt l))))))) R9 false).wp P Q a w := by
  refine wp_region ?_
  have hr : List.range R9.size = [0, 1, 2, 3, 4, 5] := by kernel_rfl
  rw [hr]
  refine n.rda (d := 19) (b := .mov (.tmp 3)) (mp bm) (by kernel_rfl) (by kernel_rfl) fun a w n => ?_
  refine n.rda (d := 20) (b := .fad 0 (.tmp 5)) (.pt 5 [] 0 0) (by kernel_rfl) (by kernel_rfl) fun a w n => ?_
  refine n.rda (d := 21) (b := .load false 1 (.tmp 20)) (St p.Name_) (by kernel_rfl) (by kernel_rfl) fun a w n => ?_
  obtain ⟨o, ho, hg, hd, hop⟩ := op_is (ops := R9) (i := 3) (g := none) (d := some 22) (op := .lookup 89 (.tmp 19) (.tmp 21) false) (by kernel_rfl)
  obtain ⟨c, hc⟩ := (n.km bm ks rfl).1.lookup (P := P) ut uk (uz w) p.Name_
  have hm : a.eval (.tmp 19) = .map (some bm) := n.eval rfl
  have hk : a.eval (.tmp 21) = .string p.Name_ := n.eval rfl
  refine n.val (v := .int .i64 c) ho hg hd (by decide) (by simp only [execOp, hop, hm, hk, Sem.run_bind, hc, Result.andThen]; rfl) fun a n => ?_
  refine n.rda (d := 23) (b := .bin .add (.tmp 22) (.const (.int .i64 1))) (I64 (IntKind.i64.wrap (c + 1))) (by kernel_rfl) (by kernel_rfl) fun a w n => ?_
  obtain ⟨o, ho, hg, hd, hop⟩ := op_is (ops := R9) (i := 5) (g := none) (d := none) (op := .mapUpdate 89 (.tmp 19) (.tmp 21) (.tmp 23)) (by kernel_rfl)
  refine n.upd ho hg hd hop ut uk rfl rfl rfl fun a w n => ?_
  exact hK _ _ (n.gh (Ghost.norm (P := P) (bm := []) (S := [0, 3, 10, 11, 12]) (by kernel_rfl)))

theorem loop {n : Nat} {w0 : World} {a0 : List T_api_Param} {bm : Nat} {r : Int} {Q : Exit → Act → World → Prop} (he : ∀ ks a w, g28_r n a0 (some ks) = some r → Now 35 w0 (some (bm, ks)) (EL' a0 bm a0.length) [] a w → Q (.exit 0) a w)
    (hr : ∀ m e' h' a' w', resAV e' h' [.t 2] = some (I64 r) → Now 35 w0 m e' h' a' w' → Q .ret a' w') : ∀ (rest pre : List T_api_Param) (ks : List ByteArray) (a : Act) (w : World), a0 = pre ++ rest → a0.length ≤ 64 → (g28_l n rest ks).bind (g28_r n a0) = some r →
    Now 35 w0 (some (bm, ks)) (EL a0 bm pre.length) [] a w → LoopAt P F28.l Q a w := by
  intro rest
  induction rest with
  | nil =>
    intro pre ks a w hp hlen hg nw
    refine LoopAt.step (Eq.mpr (congrArg (fun X : Code => X.wp P (Exit.then (LoopAt P F28.l Q) Q) a w) e3) ?_)
    focus
      refine wp_seq (nw.ex (c := .reg [0, 3, 10, 11, 12, 13] [⟨13, none, .rd (.bin .lss (.tmp 12) (.tmp 11))⟩]) (R := fun o e h => o = .normal ∧ e = EL' a0 bm pre.length ∧ h = []) ⟨[[0, 3, 10, 11, 12, 13]], [], by kernel_rfl⟩ (W.regG (RG.fin 1 [] _ [] (by kernel_rfl) ⟨rfl, rfl, rfl⟩)) ?_)
      rintro o e h a w ⟨rfl, rfl, rfl⟩ nw
      refine wp_seq (wp_cond (t := false) ?_ (wp_exit ?_))
      · rw [nw.eval (v := .bool (decide ((pre.length : Int) < ((xs a0).length : Int)))) rfl]
        simp [xs, hp]
      · refine he ks a w ?_ ?_
        · simpa [g28_l] using hg
        · have : pre.length = a0.length := by simp [hp]
          rw [← this]; exact nw
  | cons p rest ih =>
    intro pre ks a w hp hlen hg nw
    have hi : idx a0 (pre.length : Int) = some p := by
      simp [idx, hp]
    have hl : pre.length < a0.length := by simp [hp]
    refine LoopAt.step (Eq.mpr (congrArg (fun X : Code => X.wp P (Exit.then (LoopAt P F28.l Q) Q) a w) e3) ?_)
    focus
      refine wp_seq (nw.ex (c := .reg [0, 3, 10, 11, 12, 13] [⟨13, none, .rd (.bin .lss (.tmp 12) (.tmp 11))⟩]) (R := fun o e h => o = .normal ∧ e = EL' a0 bm pre.length ∧ h = []) ⟨[[0, 3, 10, 11, 12, 13]], [], by kernel_rfl⟩ (W.regG (RG.fin 1 [] _ [] (by kernel_rfl) ⟨rfl, rfl, rfl⟩)) ?_)
      rintro o e h a w ⟨rfl, rfl, rfl⟩ nw
      refine wp_seq (wp_cond (t := true) ?_ (wp_skip ?_))
      · rw [nw.eval (v := .bool (decide ((pre.length : Int) < ((xs a0).length : Int)))) rfl]
        simp [xs, hp]
        omega
      show (Code.seq _ _).wp _ _ _ _
      refine wp_seq (wp_block (wp_seq (nw.ex (c := .reg [0, 3, 5, 10, 11, 12] [⟨14, none, .rd (.iad 3 (.tmp 10) (.tmp 12))⟩, ⟨15, none, .rd (.load true 3 (.tmp 14))⟩, ⟨5, none, .mk (.box 3 (.const (.agg #[(.string ⟨#[]⟩), (.int .i64 (0)), (.int .i64 (0))])))⟩, ⟨35, none, .st 3 (.tmp 5) (.tmp 15)⟩])
        (R := fun o e h => o = .normal ∧ e = envOf [(0, .im 3 (xs a0)), (3, mp bm), (5, .pt 5 [] 0 0), (10, .im 3 (xs a0)), (11, I64 ((xs a0).length : Int)), (12, I64 pre.length)] ∧ h = [(5, ⟨3, [[St p.Name_, I64 p.Kind_, I64 p.Len_]]⟩)])
        ⟨[[0, 3, 5, 10, 11, 12]], [], by kernel_rfl⟩ (W.regG ?_) ?_)))
      · refine RG.iadIm (R := T_api_Param) (r := p) (E := some) (c := c_T_api_Param) (xs := a0) (i := pre.length) (k := .i64) (by kernel_rfl) (by kernel_rfl) (by kernel_rfl) (by rw [hi]; rfl) (fun y2 _ hg => ?_)
        cases hg
        exact RG.fin 3 [(5, 5)] _ _ (by kernel_rfl) ⟨rfl, rfl, rfl⟩
      rintro o e h a w ⟨rfl, rfl, rfl⟩ nw
      obtain ⟨v, hv, hg⟩ := Option.bind_eq_some_iff.1 (show ((g48 n p).bind fun v => (bif v then g28_l n rest (bif has p.Name_ ks then ks else ks ++ [p.Name_]) else some none).bind (g28_r n a0)) = some r by rw [← Option.bind_assoc]; exact hg)
      show (Code.seq _ _).wp _ _ _ _
      refine wp_seq (nw.ex (c := .seq (.reg [0, 3, 5, 10, 11, 12, 18] [⟨16, none, .rd (.load true 3 (.tmp 5))⟩, ⟨17, none, .call 48 [(.tmp 16)]⟩, ⟨18, none, .rd (.un1 .not (.tmp 17))⟩]) (.cond (.tmp 18) (.seq (.reg [2] [⟨2, none, .rd (.mov (.const (.int .i64 100)))⟩]) .ret) .skip))
        (R := fun o e h => (o = .ret ∧ v = false ∧ e = envOf [(2, I64 100)]) ∨ (o = .normal ∧ v = true ∧ e = envOf [(0, .im 3 (xs a0)), (3, mp bm), (5, .pt 5 [] 0 0), (10, .im 3 (xs a0)), (11, I64 ((xs a0).length : Int)), (12, I64 pre.length), (18, Bl false)] ∧ h = [(5, ⟨3, [[St p.Name_, I64 p.Kind_, I64 p.Len_]]⟩)]))
        ⟨[[0, 3, 5, 10, 11, 12, 18], [2]], [], by kernel_rfl⟩ ?_ ?_)
      · refine W.seq (W.regG ?_)
        refine RG.cut 1 [(5, 5)] [0, 3, 5, 10, 11, 12, 16] (envOf [(0, .im 3 (xs a0)), (3, mp bm), (5, .pt 5 [] 0 0), (10, .im 3 (xs a0)), (11, I64 ((xs a0).length : Int)), (12, I64 pre.length), (16, .ag [St p.Name_, I64 p.Kind_, I64 p.Len_])]) [(5, ⟨3, [[St p.Name_, I64 p.Kind_, I64 p.Len_]]⟩)] (by kernel_rfl) ?_
        refine RG.callP (R := Bool) (r := v) (E := some) [] [(5, 5)] [0, 3, 5, 10, 11, 12, 17] false [.ag [St p.Name_, I64 p.Kind_, I64 p.Len_]] (fun v2 => Bl v2) (fun v2 => []) (fun v2 => envOf [(0, .im 3 (xs a0)), (3, mp bm), (5, .pt 5 [] 0 0), (10, .im 3 (xs a0)), (11, I64 ((xs a0).length : Int)), (12, I64 pre.length), (17, Bl v2)]) (fun v2 => [(5, ⟨3, [[St p.Name_, I64 p.Kind_, I64 p.Len_]]⟩)]) (by kernel_rfl) (gv := g48 n p) (by rw [hv]; rfl) (by kernel_rfl) (fun v2 hv => CallOk.toG (g48_ok n p v2 hv)) (by kernel_rfl) (fun v2 => by kernel_rfl) (fun h => by cases h) (fun v2 hv' hg' => ?_)
        cases hg'
        refine RG.fin 1 [(5, 5)] (envOf [(0, .im 3 (xs a0)), (3, mp bm), (5, .pt 5 [] 0 0), (10, .im 3 (xs a0)), (11, I64 ((xs a0).length : Int)), (12, I64 pre.length), (18, Bl (!v))]) [(5, ⟨3, [[St p.Name_, I64 p.Kind_, I64 p.Len_]]⟩)] (by kernel_rfl) ?_
        cases v with
        | true => exact W.condF (by kernel_rfl) (W.skip (.inr ⟨rfl, rfl, rfl, rfl⟩))
        | false => exact W.condT (by kernel_rfl) (W.seq (W.regG (RG.fin 1 [] (envOf [(2, I64 100)]) [] (by kernel_rfl) (W.ret (.inl ⟨rfl, rfl, rfl⟩)))))
      rintro o e h a w (⟨rfl, rfl, rfl⟩ | ⟨rfl, rfl, rfl, rfl⟩) nw
      · simp only [g28_r, cond_false, Option.bind_some, Option.some.injEq] at hg
        subst hg
        exact hr _ _ _ _ _ rfl nw
      · refine body9 nw fun a w nw => ?_
        refine nw.ex (c := .reg [0, 3, 10, 11, 12] [⟨24, none, .rd (.bin .add (.tmp 12) (.const (.int .i64 1)))⟩, ⟨12, none, .rd (.mov (.tmp 24))⟩]) (R := fun o e h => o = .normal ∧ e = EL a0 bm (IntKind.i64.wrap (pre.length + 1)) ∧ h = []) ⟨[[0, 3, 10, 11, 12]], [], by kernel_rfl⟩ (W.regG (RG.fin 2 [] _ [] (by kernel_rfl) ⟨rfl, rfl, rfl⟩)) ?_
        rintro o e h a w ⟨rfl, rfl, rfl⟩ nw
        have hw : IntKind.i64.wrap ((pre.length : Int) + 1) = ((pre ++ [p]).length : Int) := by
          have : (pre.length : Int) < 64 := by omega
          simp only [List.length_append, List.length_singleton]
          rw [wrapI (by omega) (by omega)]
          simp
        rw [hw] at nw
        exact ih (pre ++ [p]) _ a w (by simp [hp]) hlen hg nw

theorem tail {n : Nat} {w0 w : World} {a : Act} {a0 : List T_api_Param} {bm : Nat} {ks : List ByteArray} {r : Int} {Q : Exit → Act → World → Prop} (hg : g28_r n a0 (some ks) = some r) (nw : Now 35 w0 (some (bm, ks)) (EL' a0 bm a0.length) [] a w)
    (hr : ∀ m e' h' a' w', resAV e' h' [.t 2] = some (I64 r) → Now 35 w0 m e' h' a' w' → Q .ret a' w') : q.wp P Q a w := by
  rw [e4]
  refine wp_seq (wp_block (wp_seq (wp_region ?_)))
  have h11 : List.range (rops (lf (lf (lf q)))).size = [0, 1, 2, 3, 4, 5] := by kernel_rfl
  rw [h11]
  refine nw.rda (d := 26) (b := .mov (.tmp 3)) (mp bm) (by kernel_rfl) (by kernel_rfl) fun a w nw => ?_
  obtain ⟨o, ho, hgd, hd, hop⟩ := op_is (ops := R11) (i := 1) (g := none) (d := some 27) (op := .call { callee := .builtin .len, args := #[.tmp 26], argTypes := #[89] }) (by kernel_rfl)
  have hm : a.eval (.tmp 26) = .map (some bm) := nw.eval rfl
  have hc := (nw.km bm ks rfl).1.len (P := P) ut o.type
  refine nw.val (v := .int .i64 ks.length) ho hgd hd (by decide) (by simp [execOp, hop, resolve, invoke, builtin, hm, hc, Result.andThen]) fun a nw => ?_
  refine nw.rda (d := 28) (b := .mov (.tmp 0)) (.im 3 (xs a0)) (by kernel_rfl) (by kernel_rfl) fun a w nw => ?_
  refine nw.rda (d := 29) (b := .len (.tmp 28)) (I64 ((xs a0).length : Int)) (by kernel_rfl) (by kernel_rfl) fun a w nw => ?_
  refine nw.rda (d := 30) (b := .bin .lss (.tmp 27) (.tmp 29)) (Bl (decide ((ks.length : Int) < ((xs a0).length : Int)))) (by kernel_rfl) (by kernel_rfl) fun a w nw => ?_
  refine nw.rda (d := 25) (b := .mov (.tmp 30)) (Bl (decide ((ks.length : Int) < ((xs a0).length : Int)))) (by kernel_rfl) (by kernel_rfl) fun a w nw => ?_
  have nw := nw.gh (Ghost.norm (P := P) (bm := []) (S := [0, 25]) (e1 := envOf [(0, .im 3 (xs a0)), (25, Bl (decide ((ks.length : Int) < ((xs a0).length : Int))))]) (h1 := []) (by kernel_rfl))
  refine nw.ex (c := .cond (.tmp 25) (.seq (.reg [2] [⟨2, none, .rd (.mov (.const (.int .i64 101)))⟩]) .ret)
      (.seq (.reg [31] [⟨32, none, .rd (.mov (.tmp 0))⟩, ⟨33, none, .call 49 [(.tmp 32)]⟩, ⟨34, none, .rd (.bin .gtr (.tmp 33) (.const (.int .i64 65536)))⟩, ⟨31, none, .rd (.mov (.tmp 34))⟩]) (.cond (.tmp 31) (.seq (.reg [2] [⟨2, none, .rd (.mov (.const (.int .i64 102)))⟩]) .ret) .skip)))
    (R := fun o e h => (o = .ret ∧ e = envOf [(2, I64 r)]) ∨ (o = .normal ∧ r = 0 ∧ h = []))
    ⟨[[2], [31], [2]], [], by kernel_rfl⟩ ?_ ?_
  · unfold g28_r at hg
    refine W.condB (by kernel_rfl) hg (fun hg => ?_) (fun hg => ?_)
    · obtain rfl := Option.some.inj hg
      exact W.seq (W.regG (RG.fin 1 [] (envOf [(2, I64 101)]) [] (by kernel_rfl) (W.ret (.inl ⟨rfl, rfl⟩))))
    · refine W.seq (W.regG ?_)
      refine RG.cut 1 [] [32] (envOf [(32, .im 3 (xs a0))]) [] (by kernel_rfl) ?_
      refine RG.callP [] [] [33] false [.im 3 (xs a0)] (fun v2 => I64 v2) (fun v2 => []) (fun v2 => envOf [(33, I64 v2)]) (fun v2 => []) (by kernel_rfl) hg (by kernel_rfl) (fun v2 hv => CallOk.toG (g49_ok n a0 v2 hv)) (by kernel_rfl) (fun v2 => by kernel_rfl) (fun h => by cases h) (fun v2 hv hg => ?_)
      refine RG.fin 2 [] (envOf [(31, Bl (decide (v2 > 65536)))]) [] (by kernel_rfl) ?_
      refine W.condB (by kernel_rfl) hg (fun hg => ?_) (fun hg => ?_)
      · obtain rfl := Option.some.inj hg
        exact W.seq (W.regG (RG.fin 1 [] (envOf [(2, I64 102)]) [] (by kernel_rfl) (W.ret (.inl ⟨rfl, rfl⟩))))
      · obtain rfl := Option.some.inj hg
        exact W.skip (.inr ⟨rfl, rfl, rfl⟩)
  rintro o e h a w (⟨rfl, rfl⟩ | ⟨rfl, rfl, rfl⟩) nw
  · exact hr _ _ _ _ _ rfl nw
  · refine nw.ex (c := .seq (.reg [2] [⟨2, none, .rd (.mov (.const (.int .i64 0)))⟩]) .ret) (R := fun o e h => o = .ret ∧ e = envOf [(2, I64 0)]) ⟨[[2]], [], by kernel_rfl⟩ (W.seq (W.regG (RG.fin 1 [] (envOf [(2, I64 0)]) [] (by kernel_rfl) (W.ret ⟨rfl, rfl⟩)))) ?_
    rintro o e h a w ⟨rfl, rfl⟩ nw
    exact hr _ _ _ _ _ rfl nw
end F28
open F28 in
theorem g28_ok (n : Nat) (a0 : List T_api_Param) (r : Int) (hg : g28 n a0 = some r) : CallOk Go.Proofs.Try.prog 28 [.im 3 (a0.map c_T_api_Param)] [] (I64 r) [] := by
  refine Now.call (P := P) (N := 35) (fn := Go.Proofs.Try.f28) (ts := [.t 2]) (by kernel_rfl) F28.body (by kernel_rfl) (by kernel_rfl) fun a w0 Q nw hr => ?_
  rw [e1]
  refine wp_seq (nw.ex (c := .reg [0] [⟨2, none, .rd (.mov (.const (.int .i64 0)))⟩]) (R := fun o e h => o = .normal ∧ e = envOf [(0, .im 3 (xs a0))] ∧ h = []) ⟨[[0]], [], by kernel_rfl⟩ (W.regG (RG.fin 1 [] _ [] (by kernel_rfl) ⟨rfl, rfl, rfl⟩)) ?_)
  rintro o e h a w ⟨rfl, rfl, rfl⟩ nw
  show (Code.seq _ _).wp _ _ _ _
  unfold g28 at hg
  refine wp_seq (nw.ex (c := .seq (.reg [0, 8] [⟨6, none, .rd (.mov (.tmp 0))⟩, ⟨7, none, .rd (.len (.tmp 6))⟩, ⟨8, none, .rd (.bin .gtr (.tmp 7) (.const (.int .i64 64)))⟩]) (.cond (.tmp 8) (.seq (.reg [2] [⟨2, none, .rd (.mov (.const (.int .i64 2)))⟩]) .ret) .skip))
    (R := fun o e h => (o = .ret ∧ e = envOf [(2, I64 r)]) ∨ (o = .normal ∧ a0.length ≤ 64 ∧ (g28_l n a0 []).bind (g28_r n a0) = some r ∧ e = envOf [(0, .im 3 (xs a0)), (8, Bl (decide (((xs a0).length : Int) > 64)))] ∧ h = [])) ⟨[[0, 8], [2]], [], by kernel_rfl⟩ ?_ ?_)
  · refine W.seq (W.regG (RG.fin 3 [] (envOf [(0, .im 3 (xs a0)), (8, Bl (decide (((xs a0).length : Int) > 64)))]) [] (by kernel_rfl) ?_))
    cases hd : decide (((xs a0).length : Int) > 64) with
    | true =>
      rw [hd] at hg
      obtain rfl := Option.some.inj hg
      exact W.condT (by kernel_rfl) (W.seq (W.regG (RG.fin 1 [] (envOf [(2, I64 2)]) [] (by kernel_rfl) (W.ret (.inl ⟨rfl, rfl⟩)))))
    | false =>
      rw [hd] at hg
      refine W.condF (by kernel_rfl) (W.skip (.inr ⟨rfl, ?_, hg, rfl, rfl⟩))
      simp [xs] at hd
      omega
  rintro o e h a w (⟨rfl, rfl⟩ | ⟨rfl, hlen, hg, rfl, rfl⟩) nw
  · exact hr _ _ _ _ _ rfl nw
  show (Code.seq _ _).wp _ _ _ _
  refine wp_seq (wp_region ?_)
  have h3 : List.range (rops (lf (rt (rt b)))).size = [0, 1] := by kernel_rfl
  rw [h3]
  obtain ⟨o, ho, hgd, hd, hop⟩ := op_is (ops := R3) (i := 0) (g := none) (d := some 9) (op := .makeMap 89 none) (by kernel_rfl)
  refine nw.make ho hgd hd (by decide) hop fun bm a w nw => ?_
  refine nw.rda (d := 3) (b := .mov (.tmp 9)) (mp bm) (by kernel_rfl) (by kernel_rfl) fun a w nw => ?_
  have nw := nw.gh (Ghost.norm (P := P) (bm := []) (S := [0, 3]) (e1 := envOf [(0, .im 3 (xs a0)), (3, mp bm)]) (h1 := []) (by kernel_rfl))
  show (Code.seq z q).wp _ _ _ _
  refine wp_seq ?_
  rw [e2]
  refine wp_seq (nw.ex (c := .reg [0, 3, 10, 11, 12] [⟨10, none, .rd (.mov (.tmp 0))⟩, ⟨11, none, .rd (.len (.tmp 10))⟩, ⟨12, none, .rd (.mov (.const (.int .i64 0)))⟩]) (R := fun o e h => o = .normal ∧ e = EL a0 bm 0 ∧ h = []) ⟨[[0, 3, 10, 11, 12]], [], by kernel_rfl⟩ (W.regG (RG.fin 3 [] _ [] (by kernel_rfl) ⟨rfl, rfl, rfl⟩)) ?_)
  rintro o e h a w ⟨rfl, rfl, rfl⟩ nw
  refine wp_block (LoopAt.wp (loop (n := n) (Q := Exit.inBlock 0 (Exit.then (q.wp P Q) Q)) (w0 := w0) (a0 := a0) (bm := bm) (r := r) (fun ks a w hg nw => ?_) (fun m e h a w hv nw => hr m e h a w hv nw) a0 [] [] a w rfl hlen hg nw))
  exact tail hg nw hr
def g31 (a0 : T_api_Code) (a1 : T_api_Type) : Option Bool := joinJ (fun p1 : Bool => bif p1 then some (a1.Param_ == (0)) else bif (a1.Kind_ == (3)) then bif (decide (a1.Param_ ≥ (0))) then some (decide (a1.Param_ < ((a0.Sign_.map c_T_api_Param).length : Int))) else some false else some false) fun J1 => bif (a1.Kind_ == (1)) then J1 (a1.Kind_ == (1)) else J1 (a1.Kind_ == (2))
theorem g31_ok (a0 : T_api_Code) (a1 : T_api_Type) (r : Bool) (hg : g31 a0 a1 = some r) : CallOk Go.Proofs.Try.prog 31 [.ag [.im 3 (a0.Sign_.map c_T_api_Param), .im 2 (a0.Regs_.map c_T_api_Type), .im 5 (a0.Slots_.map c_T_api_Slot), .im 7 (a0.List_.map c_T_api_Inst)], .ag [I64 a1.Kind_, I64 a1.Param_]] [] (Bl r) [] := by
  unfold g31 at hg
  refine CallG.narrow ?_ (by kernel_rfl) (by kernel_rfl)
  refine .of_S [0, 1] (envOf [(0, .ag [.im 3 (a0.Sign_.map c_T_api_Param), .im 2 (a0.Regs_.map c_T_api_Type), .im 5 (a0.Slots_.map c_T_api_Slot), .im 7 (a0.List_.map c_T_api_Inst)]), (1, .ag [I64 a1.Kind_, I64 a1.Param_])]) fn31 (by kernel_rfl) ?_
  refine W.seq ?_
  refine W.regG ?_
  refine RG.fin 3 [(2, 2), (3, 3)] (envOf [(2, .pt 2 [] 0 0), (3, .pt 3 [] 0 0)]) [(2, ⟨4, [[.im 3 (a0.Sign_.map c_T_api_Param), .im 2 (a0.Regs_.map c_T_api_Type), .im 5 (a0.Slots_.map c_T_api_Slot), .im 7 (a0.List_.map c_T_api_Inst)]]⟩), (3, ⟨2, [[I64 a1.Kind_, I64 a1.Param_]]⟩)] (by kernel_rfl) ?_
  refine W.seq ?_
  refine W.seq ?_
  refine W.regG ?_
  refine RG.fin 2 [(2, 2), (3, 3)] (envOf [(2, .pt 2 [] 0 0), (3, .pt 3 [] 0 0), (6, I64 a1.Kind_)]) [(2, ⟨4, [[.im 3 (a0.Sign_.map c_T_api_Param), .im 2 (a0.Regs_.map c_T_api_Type), .im 5 (a0.Slots_.map c_T_api_Slot), .im 7 (a0.List_.map c_T_api_Inst)]]⟩), (3, ⟨2, [[I64 a1.Kind_, I64 a1.Param_]]⟩)] (by kernel_rfl) ?_
  refine W.block ?_
  refine W.seqJ (fun p1 : Bool => envOf [(2, .pt 2 [] 0 0), (3, .pt 3 [] 0 0), (6, I64 a1.Kind_), (7, Bl p1)]) (fun p1 : Bool => [(2, ⟨4, [[.im 3 (a0.Sign_.map c_T_api_Param), .im 2 (a0.Regs_.map c_T_api_Type), .im 5 (a0.Slots_.map c_T_api_Slot), .im 7 (a0.List_.map c_T_api_Inst)]]⟩), (3, ⟨2, [[I64 a1.Kind_, I64 a1.Param_]]⟩)]) hg (fun p1 hg => ?_) (fun hg => ?_)
  · refine W.condB (b := p1) (by kernel_rfl) hg (fun hg => ?_) (fun hg => ?_)
    · refine W.seq ?_
      refine W.regG ?_
      refine RG.fin 4 [] (envOf [(4, Bl (a1.Param_ == (0)))]) [] (by kernel_rfl) ?_
      obtain rfl := Option.some.inj hg
      exact W.ret (Ends.of [] (by kernel_rfl))
    refine W.seq ?_
    refine W.regG ?_
    refine RG.fin 2 [(2, 2), (3, 3)] (envOf [(2, .pt 2 [] 0 0), (3, .pt 3 [] 0 0), (13, Bl (a1.Kind_ == (3)))]) [(2, ⟨4, [[.im 3 (a0.Sign_.map c_T_api_Param), .im 2 (a0.Regs_.map c_T_api_Type), .im 5 (a0.Slots_.map c_T_api_Slot), .im 7 (a0.List_.map c_T_api_Inst)]]⟩), (3, ⟨2, [[I64 a1.Kind_, I64 a1.Param_]]⟩)] (by kernel_rfl) ?_
    refine W.condB (b := (a1.Kind_ == (3))) (by kernel_rfl) hg (fun hg => ?_) (fun hg => ?_)
    · refine W.seq ?_
      refine W.regG ?_
      refine RG.cut 4 [(2, 2), (3, 3)] [2, 3, 18, 19, 20, 21, 22, 23, 24] (envOf [(2, .pt 2 [] 0 0), (3, .pt 3 [] 0 0), (18, Bl (decide (a1.Param_ ≥ (0)))), (19, .un), (20, .un), (21, .un), (22, .un), (23, .un), (24, .un)]) [(2, ⟨4, [[.im 3 (a0.Sign_.map c_T_api_Param), .im 2 (a0.Regs_.map c_T_api_Type), .im 5 (a0.Slots_.map c_T_api_Slot), .im 7 (a0.List_.map c_T_api_Inst)]]⟩), (3, ⟨2, [[I64 a1.Kind_, I64 a1.Param_]]⟩)] (by kernel_rfl) ?_
      refine RG.guard (s := 18) (by kernel_rfl) hg (fun hg => ?_) (fun hg => ?_)
      · refine RG.fin 8 [] (envOf [(4, Bl (decide (a1.Param_ < ((a0.Sign_.map c_T_api_Param).length : Int))))]) [] (by kernel_rfl) ?_
        obtain rfl := Option.some.inj hg
        exact W.ret (Ends.of [] (by kernel_rfl))
      refine RG.fin 8 [] (envOf [(4, Bl false)]) [] (by kernel_rfl) ?_
      obtain rfl := Option.some.inj hg
      exact W.ret (Ends.of [] (by kernel_rfl))
    refine W.skip ?_
    refine W.seq ?_
    refine W.regG ?_
    refine RG.fin 1 [] (envOf [(4, Bl false)]) [] (by kernel_rfl) ?_
    obtain rfl := Option.some.inj hg
    exact W.ret (Ends.of [] (by kernel_rfl))
  refine W.seq ?_
  refine W.regG ?_
  refine RG.fin 2 [(2, 2), (3, 3)] (envOf [(2, .pt 2 [] 0 0), (3, .pt 3 [] 0 0), (6, I64 a1.Kind_), (7, Bl (a1.Kind_ == (1)))]) [(2, ⟨4, [[.im 3 (a0.Sign_.map c_T_api_Param), .im 2 (a0.Regs_.map c_T_api_Type), .im 5 (a0.Slots_.map c_T_api_Slot), .im 7 (a0.List_.map c_T_api_Inst)]]⟩), (3, ⟨2, [[I64 a1.Kind_, I64 a1.Param_]]⟩)] (by kernel_rfl) ?_
  refine W.condB (b := (a1.Kind_ == (1))) (by kernel_rfl) hg (fun hg => ?_) (fun hg => ?_)
  · refine W.norm [(2, 2), (3, 3)] [2, 3, 6, 7] (envOf [(2, .pt 2 [] 0 0), (3, .pt 3 [] 0 0), (6, I64 a1.Kind_), (7, Bl (a1.Kind_ == (1)))]) [(2, ⟨4, [[.im 3 (a0.Sign_.map c_T_api_Param), .im 2 (a0.Regs_.map c_T_api_Type), .im 5 (a0.Slots_.map c_T_api_Slot), .im 7 (a0.List_.map c_T_api_Inst)]]⟩), (3, ⟨2, [[I64 a1.Kind_, I64 a1.Param_]]⟩)] (by kernel_rfl) ?_
    refine W.skip ?_
    exact W.toJ (a1.Kind_ == (1)) hg (by kernel_rfl) (by kernel_rfl)
  refine W.regG ?_
  refine RG.fin 2 [(2, 2), (3, 3)] (envOf [(2, .pt 2 [] 0 0), (3, .pt 3 [] 0 0), (6, I64 a1.Kind_), (7, Bl (a1.Kind_ == (2)))]) [(2, ⟨4, [[.im 3 (a0.Sign_.map c_T_api_Param), .im 2 (a0.Regs_.map c_T_api_Type), .im 5 (a0.Slots_.map c_T_api_Slot), .im 7 (a0.List_.map c_T_api_Inst)]]⟩), (3, ⟨2, [[I64 a1.Kind_, I64 a1.Param_]]⟩)] (by kernel_rfl) ?_
  exact W.toJ (a1.Kind_ == (2)) hg (by kernel_rfl) (by kernel_rfl)
def g30 (a0 : T_api_Type) (a1_0 : (List T_api_Param)) (a1_1 : (List T_api_Type)) (a1_2 : (List T_api_Slot)) (a1_3 : (List T_api_Inst)) : Option Bool := (g31 (⟨a1_0, a1_1, a1_2, a1_3⟩ : T_api_Code) a0).bind fun v1 => some (!v1)
theorem g30_ok (a0 : T_api_Type) (a1_0 : (List T_api_Param)) (a1_1 : (List T_api_Type)) (a1_2 : (List T_api_Slot)) (a1_3 : (List T_api_Inst)) (r : Bool) (hg : g30 a0 a1_0 a1_1 a1_2 a1_3 = some r) : CallG Go.Proofs.Try.prog 30 [.ag [I64 a0.Kind_, I64 a0.Param_], .pt 200000 [] 0 0] [(200000, ⟨4, [[.im 3 (a1_0.map c_T_api_Param), .im 2 (a1_1.map c_T_api_Type), .im 5 (a1_2.map c_T_api_Slot), .im 7 (a1_3.map c_T_api_Inst)]]⟩)] (Bl r) [(200000, ⟨4, [[.im 3 (a1_0.map c_T_api_Param), .im 2 (a1_1.map c_T_api_Type), .im 5 (a1_2.map c_T_api_Slot), .im 7 (a1_3.map c_T_api_Inst)]]⟩)] := by
  unfold g30 at hg
  refine .of_S [0, 1] (envOf [(0, .ag [I64 a0.Kind_, I64 a0.Param_]), (1, .pt 200000 [] 0 0)]) fn30 (by kernel_rfl) ?_
  refine W.seq ?_
  refine W.regG ?_
  refine RG.fin 2 [(2, 2), (200000, 200000)] (envOf [(1, .pt 200000 [] 0 0), (2, .pt 2 [] 0 0)]) [(2, ⟨2, [[I64 a0.Kind_, I64 a0.Param_]]⟩), (200000, ⟨4, [[.im 3 (a1_0.map c_T_api_Param), .im 2 (a1_1.map c_T_api_Type), .im 5 (a1_2.map c_T_api_Slot), .im 7 (a1_3.map c_T_api_Inst)]]⟩)] (by kernel_rfl) ?_
  refine W.seq ?_
  refine W.regG ?_
  refine RG.cut 2 [(200000, 200000)] [4, 5] (envOf [(4, .ag [.im 3 (a1_0.map c_T_api_Param), .im 2 (a1_1.map c_T_api_Type), .im 5 (a1_2.map c_T_api_Slot), .im 7 (a1_3.map c_T_api_Inst)]), (5, .ag [I64 a0.Kind_, I64 a0.Param_])]) [(200000, ⟨4, [[.im 3 (a1_0.map c_T_api_Param), .im 2 (a1_1.map c_T_api_Type), .im 5 (a1_2.map c_T_api_Slot), .im 7 (a1_3.map c_T_api_Inst)]]⟩)] (by kernel_rfl) ?_
  refine RG.callP [] [(200000, 200000)] [6] false [.ag [.im 3 (((⟨a1_0, a1_1, a1_2, a1_3⟩ : T_api_Code).Sign_).map c_T_api_Param), .im 2 (((⟨a1_0, a1_1, a1_2, a1_3⟩ : T_api_Code).Regs_).map c_T_api_Type), .im 5 (((⟨a1_0, a1_1, a1_2, a1_3⟩ : T_api_Code).Slots_).map c_T_api_Slot), .im 7 (((⟨a1_0, a1_1, a1_2, a1_3⟩ : T_api_Code).List_).map c_T_api_Inst)], .ag [I64 a0.Kind_, I64 a0.Param_]] (fun v1 => Bl v1) (fun v1 => []) (fun v1 => envOf [(6, Bl v1)]) (fun v1 => [(200000, ⟨4, [[.im 3 (a1_0.map c_T_api_Param), .im 2 (a1_1.map c_T_api_Type), .im 5 (a1_2.map c_T_api_Slot), .im 7 (a1_3.map c_T_api_Inst)]]⟩)]) (by kernel_rfl) hg (by kernel_rfl) (fun v1 hv => CallOk.toG (g31_ok (⟨a1_0, a1_1, a1_2, a1_3⟩ : T_api_Code) a0 v1 hv)) (by kernel_rfl) (fun v1 => by kernel_rfl) (fun h => by cases h) (fun v1 hv hg => ?_)
  refine RG.fin 2 [(200000, 200000)] (envOf [(3, Bl (!v1))]) [(200000, ⟨4, [[.im 3 (a1_0.map c_T_api_Param), .im 2 (a1_1.map c_T_api_Type), .im 5 (a1_2.map c_T_api_Slot), .im 7 (a1_3.map c_T_api_Inst)]]⟩)] (by kernel_rfl) ?_
  obtain rfl := Option.some.inj hg
  exact W.ret (Ends.of [(200000, 200000)] (by kernel_rfl))
def g50_b1 (n : Nat) (a0 : (List T_api_Type)) (a1_0_0 : (List T_api_Param)) (a1_0_1 : (List T_api_Type)) (a1_0_2 : (List T_api_Slot)) (a1_0_3 : (List T_api_Inst)) (s1 : Int) : Option (Bo Int (Int × Bool) Int) := bif (decide (s1 < ((a0.map c_T_api_Type).length : Int))) then (idx a0 s1).bind fun y2 => (g30 y2 a1_0_0 a1_0_1 a1_0_2 a1_0_3).bind fun v2 => bif v2 then some (.ret s1) else some (.go (IntKind.i64.wrap (s1 + (1)))) else some (.out (s1, (decide (s1 < ((a0.map c_T_api_Type).length : Int)))))
def g50 (n : Nat) (a0 : (List T_api_Type)) (a1_0_0 : (List T_api_Param)) (a1_0_1 : (List T_api_Type)) (a1_0_2 : (List T_api_Slot)) (a1_0_3 : (List T_api_Inst)) : Option Int := (iter (g50_b1 n a0 a1_0_0 a1_0_1 a1_0_2 a1_0_3) n (0)).bind (Bo.then (fun t1 => some (-1)) some)
theorem g50_ok (n : Nat) (a0 : (List T_api_Type)) (a1_0_0 : (List T_api_Param)) (a1_0_1 : (List T_api_Type)) (a1_0_2 : (List T_api_Slot)) (a1_0_3 : (List T_api_Inst)) (r : Int) (hg : g50 n a0 a1_0_0 a1_0_1 a1_0_2 a1_0_3 = some r) : CallG Go.Proofs.Try.prog 50 [.im 2 (a0.map c_T_api_Type), .fn 30 [.pt 200000 [] 0 0]] [(200000, ⟨4, [[.im 3 (a1_0_0.map c_T_api_Param), .im 2 (a1_0_1.map c_T_api_Type), .im 5 (a1_0_2.map c_T_api_Slot), .im 7 (a1_0_3.map c_T_api_Inst)]]⟩)] (I64 r) [(200000, ⟨4, [[.im 3 (a1_0_0.map c_T_api_Param), .im 2 (a1_0_1.map c_T_api_Type), .im 5 (a1_0_2.map c_T_api_Slot), .im 7 (a1_0_3.map c_T_api_Inst)]]⟩)] := by
  unfold g50 at hg
  refine .of_S [0, 1] (envOf [(0, .im 2 (a0.map c_T_api_Type)), (1, .fn 30 [.pt 200000 [] 0 0])]) fn50 (by kernel_rfl) ?_
  refine W.seq ?_
  refine W.regG ?_
  refine RG.fin 1 [(200000, 200000)] (envOf [(0, .im 2 (a0.map c_T_api_Type)), (1, .fn 30 [.pt 200000 [] 0 0])]) [(200000, ⟨4, [[.im 3 (a1_0_0.map c_T_api_Param), .im 2 (a1_0_1.map c_T_api_Type), .im 5 (a1_0_2.map c_T_api_Slot), .im 7 (a1_0_3.map c_T_api_Inst)]]⟩)] (by kernel_rfl) ?_
  refine W.seq ?_
  refine W.seq ?_
  refine W.regG ?_
  refine RG.fin 3 [(200000, 200000)] (envOf [(0, .im 2 (a0.map c_T_api_Type)), (1, .fn 30 [.pt 200000 [] 0 0]), (7, I64 ((a0.map c_T_api_Type).length : Int)), (8, I64 (0))]) [(200000, ⟨4, [[.im 3 (a1_0_0.map c_T_api_Param), .im 2 (a1_0_1.map c_T_api_Type), .im 5 (a1_0_2.map c_T_api_Slot), .im 7 (a1_0_3.map c_T_api_Inst)]]⟩)] (by kernel_rfl) ?_
  refine W.norm [(200000, 200000)] [0, 1, 7, 8] (envOf [(0, .im 2 (a0.map c_T_api_Type)), (1, .fn 30 [.pt 200000 [] 0 0]), (7, I64 ((a0.map c_T_api_Type).length : Int)), (8, I64 (0))]) [(200000, ⟨4, [[.im 3 (a1_0_0.map c_T_api_Param), .im 2 (a1_0_1.map c_T_api_Type), .im 5 (a1_0_2.map c_T_api_Slot), .im 7 (a1_0_3.map c_T_api_Inst)]]⟩)] (by kernel_rfl) ?_
  refine W.loopB (fun s1 : Int => envOf [(0, .im 2 (a0.map c_T_api_Type)), (1, .fn 30 [.pt 200000 [] 0 0]), (7, I64 ((a0.map c_T_api_Type).length : Int)), (8, I64 s1)]) (fun s1 : Int => [(200000, ⟨4, [[.im 3 (a1_0_0.map c_T_api_Param), .im 2 (a1_0_1.map c_T_api_Type), .im 5 (a1_0_2.map c_T_api_Slot), .im 7 (a1_0_3.map c_T_api_Inst)]]⟩)]) (fun t1 : Int × Bool => envOf [(0, .im 2 (a0.map c_T_api_Type)), (1, .fn 30 [.pt 200000 [] 0 0]), (7, I64 ((a0.map c_T_api_Type).length : Int)), (8, I64 t1.1), (9, Bl t1.2)]) (fun t1 : Int × Bool => [(200000, ⟨4, [[.im 3 (a1_0_0.map c_T_api_Param), .im 2 (a1_0_1.map c_T_api_Type), .im 5 (a1_0_2.map c_T_api_Slot), .im 7 (a1_0_3.map c_T_api_Inst)]]⟩)]) (fun (r : Int) e h => Ends [.t 4] [(200000, ⟨4, [[.im 3 (a1_0_0.map c_T_api_Param), .im 2 (a1_0_1.map c_T_api_Type), .im 5 (a1_0_2.map c_T_api_Slot), .im 7 (a1_0_3.map c_T_api_Inst)]]⟩)] (I64 r) [(200000, ⟨4, [[.im 3 (a1_0_0.map c_T_api_Param), .im 2 (a1_0_1.map c_T_api_Type), .im 5 (a1_0_2.map c_T_api_Slot), .im 7 (a1_0_3.map c_T_api_Inst)]]⟩)] .ret e h) hg (by kernel_rfl) (by kernel_rfl) (fun s1 bb hg => ?_) (fun r' hr e h q => by cases hr; exact q) (fun t1 hg => ?_)
  · unfold g50_b1 at hg
    refine W.seq ?_
    refine W.regG ?_
    refine RG.fin 1 [(200000, 200000)] (envOf [(0, .im 2 (a0.map c_T_api_Type)), (1, .fn 30 [.pt 200000 [] 0 0]), (7, I64 ((a0.map c_T_api_Type).length : Int)), (8, I64 s1), (9, Bl (decide (s1 < ((a0.map c_T_api_Type).length : Int))))]) [(200000, ⟨4, [[.im 3 (a1_0_0.map c_T_api_Param), .im 2 (a1_0_1.map c_T_api_Type), .im 5 (a1_0_2.map c_T_api_Slot), .im 7 (a1_0_3.map c_T_api_Inst)]]⟩)] (by kernel_rfl) ?_
    refine W.seq ?_
    refine W.condB (b := (decide (s1 < ((a0.map c_T_api_Type).length : Int)))) (by kernel_rfl) hg (fun hg => ?_) (fun hg => ?_)
    · refine W.skip ?_
      refine W.seq ?_
      refine W.block ?_
      refine W.seq ?_
      refine W.regG ?_
      refine RG.fin 2 [(200000, 200000)] (envOf [(0, .im 2 (a0.map c_T_api_Type)), (1, .fn 30 [.pt 200000 [] 0 0]), (5, I64 s1), (7, I64 ((a0.map c_T_api_Type).length : Int)), (8, I64 s1)]) [(200000, ⟨4, [[.im 3 (a1_0_0.map c_T_api_Param), .im 2 (a1_0_1.map c_T_api_Type), .im 5 (a1_0_2.map c_T_api_Slot), .im 7 (a1_0_3.map c_T_api_Inst)]]⟩)] (by kernel_rfl) ?_
      refine W.seq ?_
      refine W.regG ?_
      refine RG.cut 3 [(200000, 200000)] [0, 1, 5, 7, 8, 11, 12, 13] (envOf [(0, .im 2 (a0.map c_T_api_Type)), (1, .fn 30 [.pt 200000 [] 0 0]), (5, I64 s1), (7, I64 ((a0.map c_T_api_Type).length : Int)), (8, I64 s1), (11, .fn 30 [.pt 200000 [] 0 0]), (12, .im 2 (a0.map c_T_api_Type)), (13, I64 s1)]) [(200000, ⟨4, [[.im 3 (a1_0_0.map c_T_api_Param), .im 2 (a1_0_1.map c_T_api_Type), .im 5 (a1_0_2.map c_T_api_Slot), .im 7 (a1_0_3.map c_T_api_Inst)]]⟩)] (by kernel_rfl) ?_
      refine RG.iadIm (c := c_T_api_Type) (xs := a0) (i := s1) (k := .i64) (by kernel_rfl) (by kernel_rfl) (by kernel_rfl) hg (fun y2 _ hg => ?_)
      refine RG.cut 1 [(200000, 200000)] [0, 1, 5, 7, 8, 11, 15] (envOf [(0, .im 2 (a0.map c_T_api_Type)), (1, .fn 30 [.pt 200000 [] 0 0]), (5, I64 s1), (7, I64 ((a0.map c_T_api_Type).length : Int)), (8, I64 s1), (11, .fn 30 [.pt 200000 [] 0 0]), (15, .ag [I64 y2.Kind_, I64 y2.Param_])]) [(200000, ⟨4, [[.im 3 (a1_0_0.map c_T_api_Param), .im 2 (a1_0_1.map c_T_api_Type), .im 5 (a1_0_2.map c_T_api_Slot), .im 7 (a1_0_3.map c_T_api_Inst)]]⟩)] (by kernel_rfl) ?_
      refine RG.callv (f := 30) (caps := [.pt 200000 [] 0 0]) [(200000, 200000)] [(200000, 200000)] [(200000, 200000)] [0, 1, 5, 7, 8, 16] false [.ag [I64 y2.Kind_, I64 y2.Param_], .pt 200000 [] 0 0] [(200000, ⟨4, [[.im 3 (a1_0_0.map c_T_api_Param), .im 2 (a1_0_1.map c_T_api_Type), .im 5 (a1_0_2.map c_T_api_Slot), .im 7 (a1_0_3.map c_T_api_Inst)]]⟩)] [] (fun v2 => Bl v2) (fun v2 => [(200000, ⟨4, [[.im 3 (a1_0_0.map c_T_api_Param), .im 2 (a1_0_1.map c_T_api_Type), .im 5 (a1_0_2.map c_T_api_Slot), .im 7 (a1_0_3.map c_T_api_Inst)]]⟩)]) (fun v2 => envOf [(0, .im 2 (a0.map c_T_api_Type)), (1, .fn 30 [.pt 200000 [] 0 0]), (5, I64 s1), (7, I64 ((a0.map c_T_api_Type).length : Int)), (8, I64 s1), (16, Bl v2)]) (fun v2 => [(200000, ⟨4, [[.im 3 (a1_0_0.map c_T_api_Param), .im 2 (a1_0_1.map c_T_api_Type), .im 5 (a1_0_2.map c_T_api_Slot), .im 7 (a1_0_3.map c_T_api_Inst)]]⟩)]) (by kernel_rfl) (by kernel_rfl) (by kernel_rfl) hg (by kernel_rfl) (by kernel_rfl) (fun v2 hv => g30_ok y2 a1_0_0 a1_0_1 a1_0_2 a1_0_3 v2 hv) (by kernel_rfl) (fun v2 => by kernel_rfl) (fun h => by cases h) (fun v2 hv hg => ?_)
      refine RG.fin 0 [(200000, 200000)] (envOf [(0, .im 2 (a0.map c_T_api_Type)), (1, .fn 30 [.pt 200000 [] 0 0]), (5, I64 s1), (7, I64 ((a0.map c_T_api_Type).length : Int)), (8, I64 s1), (16, Bl v2)]) [(200000, ⟨4, [[.im 3 (a1_0_0.map c_T_api_Param), .im 2 (a1_0_1.map c_T_api_Type), .im 5 (a1_0_2.map c_T_api_Slot), .im 7 (a1_0_3.map c_T_api_Inst)]]⟩)] (by kernel_rfl) ?_
      refine W.condB (b := v2) (by kernel_rfl) hg (fun hg => ?_) (fun hg => ?_)
      · refine W.seq ?_
        refine W.regG ?_
        refine RG.fin 2 [(200000, 200000)] (envOf [(4, I64 s1)]) [(200000, ⟨4, [[.im 3 (a1_0_0.map c_T_api_Param), .im 2 (a1_0_1.map c_T_api_Type), .im 5 (a1_0_2.map c_T_api_Slot), .im 7 (a1_0_3.map c_T_api_Inst)]]⟩)] (by kernel_rfl) ?_
        obtain rfl := Option.some.inj hg
        exact W.ret ⟨rfl, Ends.of [(200000, 200000)] (by kernel_rfl)⟩
      refine W.skip ?_
      refine W.regG ?_
      refine RG.fin 2 [(200000, 200000)] (envOf [(0, .im 2 (a0.map c_T_api_Type)), (1, .fn 30 [.pt 200000 [] 0 0]), (7, I64 ((a0.map c_T_api_Type).length : Int)), (8, I64 (IntKind.i64.wrap (s1 + (1))))]) [(200000, ⟨4, [[.im 3 (a1_0_0.map c_T_api_Param), .im 2 (a1_0_1.map c_T_api_Type), .im 5 (a1_0_2.map c_T_api_Slot), .im 7 (a1_0_3.map c_T_api_Inst)]]⟩)] (by kernel_rfl) ?_
      obtain rfl := Option.some.inj hg
      exact ⟨rfl, by kernel_rfl, by kernel_rfl⟩
    refine W.norm [(200000, 200000)] [0, 1, 7, 8, 9] (envOf [(0, .im 2 (a0.map c_T_api_Type)), (1, .fn 30 [.pt 200000 [] 0 0]), (7, I64 ((a0.map c_T_api_Type).length : Int)), (8, I64 s1), (9, Bl (decide (s1 < ((a0.map c_T_api_Type).length : Int))))]) [(200000, ⟨4, [[.im 3 (a1_0_0.map c_T_api_Param), .im 2 (a1_0_1.map c_T_api_Type), .im 5 (a1_0_2.map c_T_api_Slot), .im 7 (a1_0_3.map c_T_api_Inst)]]⟩)] (by kernel_rfl) ?_
    refine W.exit ?_
    obtain rfl := Option.some.inj hg
    exact ⟨rfl, by kernel_rfl, by kernel_rfl⟩
  refine W.seq ?_
  refine W.regG ?_
  refine RG.fin 1 [(200000, 200000)] (envOf [(4, I64 (-1))]) [(200000, ⟨4, [[.im 3 (a1_0_0.map c_T_api_Param), .im 2 (a1_0_1.map c_T_api_Type), .im 5 (a1_0_2.map c_T_api_Slot), .im 7 (a1_0_3.map c_T_api_Inst)]]⟩)] (by kernel_rfl) ?_
  obtain rfl := Option.some.inj hg
  exact W.ret (Ends.of [(200000, 200000)] (by kernel_rfl))
def g29 (n : Nat) (a0 : (List T_api_Type)) (a1_0_0 : (List T_api_Param)) (a1_0_1 : (List T_api_Type)) (a1_0_2 : (List T_api_Slot)) (a1_0_3 : (List T_api_Inst)) : Option Bool := (g50 n a0 a1_0_0 a1_0_1 a1_0_2 a1_0_3).bind fun v1 => some (decide (v1 ≥ (0)))
theorem g29_ok (n : Nat) (a0 : (List T_api_Type)) (a1_0_0 : (List T_api_Param)) (a1_0_1 : (List T_api_Type)) (a1_0_2 : (List T_api_Slot)) (a1_0_3 : (List T_api_Inst)) (r : Bool) (hg : g29 n a0 a1_0_0 a1_0_1 a1_0_2 a1_0_3 = some r) : CallG Go.Proofs.Try.prog 29 [.im 2 (a0.map c_T_api_Type), .fn 30 [.pt 200000 [] 0 0]] [(200000, ⟨4, [[.im 3 (a1_0_0.map c_T_api_Param), .im 2 (a1_0_1.map c_T_api_Type), .im 5 (a1_0_2.map c_T_api_Slot), .im 7 (a1_0_3.map c_T_api_Inst)]]⟩)] (Bl r) [(200000, ⟨4, [[.im 3 (a1_0_0.map c_T_api_Param), .im 2 (a1_0_1.map c_T_api_Type), .im 5 (a1_0_2.map c_T_api_Slot), .im 7 (a1_0_3.map c_T_api_Inst)]]⟩)] := by
  unfold g29 at hg
  refine .of_S [0, 1] (envOf [(0, .im 2 (a0.map c_T_api_Type)), (1, .fn 30 [.pt 200000 [] 0 0])]) fn29 (by kernel_rfl) ?_
  refine W.seq ?_
  refine W.regG ?_
  refine RG.fin 1 [(200000, 200000)] (envOf [(0, .im 2 (a0.map c_T_api_Type)), (1, .fn 30 [.pt 200000 [] 0 0])]) [(200000, ⟨4, [[.im 3 (a1_0_0.map c_T_api_Param), .im 2 (a1_0_1.map c_T_api_Type), .im 5 (a1_0_2.map c_T_api_Slot), .im 7 (a1_0_3.map c_T_api_Inst)]]⟩)] (by kernel_rfl) ?_
  refine W.seq ?_
  refine W.regG ?_
  refine RG.cut 2 [(200000, 200000)] [5, 6] (envOf [(5, .im 2 (a0.map c_T_api_Type)), (6, .fn 30 [.pt 200000 [] 0 0])]) [(200000, ⟨4, [[.im 3 (a1_0_0.map c_T_api_Param), .im 2 (a1_0_1.map c_T_api_Type), .im 5 (a1_0_2.map c_T_api_Slot), .im 7 (a1_0_3.map c_T_api_Inst)]]⟩)] (by kernel_rfl) ?_
  refine RG.call [(200000, 200000)] [(200000, 200000)] [(200000, 200000)] [7] false [.im 2 (a0.map c_T_api_Type), .fn 30 [.pt 200000 [] 0 0]] [(200000, ⟨4, [[.im 3 (a1_0_0.map c_T_api_Param), .im 2 (a1_0_1.map c_T_api_Type), .im 5 (a1_0_2.map c_T_api_Slot), .im 7 (a1_0_3.map c_T_api_Inst)]]⟩)] [] (fun v1 => I64 v1) (fun v1 => [(200000, ⟨4, [[.im 3 (a1_0_0.map c_T_api_Param), .im 2 (a1_0_1.map c_T_api_Type), .im 5 (a1_0_2.map c_T_api_Slot), .im 7 (a1_0_3.map c_T_api_Inst)]]⟩)]) (fun v1 => envOf [(7, I64 v1)]) (fun v1 => [(200000, ⟨4, [[.im 3 (a1_0_0.map c_T_api_Param), .im 2 (a1_0_1.map c_T_api_Type), .im 5 (a1_0_2.map c_T_api_Slot), .im 7 (a1_0_3.map c_T_api_Inst)]]⟩)]) (by kernel_rfl) hg (by kernel_rfl) (by kernel_rfl) (fun v1 hv => g50_ok n a0 a1_0_0 a1_0_1 a1_0_2 a1_0_3 v1 hv) (by kernel_rfl) (fun v1 => by kernel_rfl) (fun h => by cases h) (fun v1 hv hg => ?_)
  refine RG.fin 2 [(200000, 200000)] (envOf [(4, Bl (decide (v1 ≥ (0))))]) [(200000, ⟨4, [[.im 3 (a1_0_0.map c_T_api_Param), .im 2 (a1_0_1.map c_T_api_Type), .im 5 (a1_0_2.map c_T_api_Slot), .im 7 (a1_0_3.map c_T_api_Inst)]]⟩)] (by kernel_rfl) ?_
  obtain rfl := Option.some.inj hg
  exact W.ret (Ends.of [(200000, 200000)] (by kernel_rfl))
def g52 (a0 : Int) : Option Bool := bif (decide ((IntKind.u32.wrap (BitVec.ofInt IntKind.u32.bits a0 &&& ~~~BitVec.ofInt IntKind.u32.bits (2147483648)).toNat) ≤ (2139095040))) then some true else some (a0 == (2143289344))
theorem g52_ok (a0 : Int) (r : Bool) (hg : g52 a0 = some r) : CallOk Go.Proofs.Try.prog 52 [.sc (.int .u32 a0)] [] (Bl r) [] := by
  unfold g52 at hg
  refine CallG.narrow ?_ (by kernel_rfl) (by kernel_rfl)
  refine .of_S [0] (envOf [(0, .sc (.int .u32 a0))]) fn52 (by kernel_rfl) ?_
  refine W.seq ?_
  refine W.regG ?_
  refine RG.fin 1 [] (envOf [(0, .sc (.int .u32 a0))]) [] (by kernel_rfl) ?_
  refine W.seq ?_
  refine W.regG ?_
  refine RG.cut 4 [] [0, 6, 7, 8] (envOf [(0, .sc (.int .u32 a0)), (6, Bl (decide ((IntKind.u32.wrap (BitVec.ofInt IntKind.u32.bits a0 &&& ~~~BitVec.ofInt IntKind.u32.bits (2147483648)).toNat) ≤ (2139095040)))), (7, .un), (8, .un)]) [] (by kernel_rfl) ?_
  refine RG.guard (s := 6) (by kernel_rfl) hg (fun hg => ?_) (fun hg => ?_)
  · refine RG.fin 4 [] (envOf [(2, Bl true)]) [] (by kernel_rfl) ?_
    obtain rfl := Option.some.inj hg
    exact W.ret (Ends.of [] (by kernel_rfl))
  refine RG.fin 4 [] (envOf [(2, Bl (a0 == (2143289344)))]) [] (by kernel_rfl) ?_
  obtain rfl := Option.some.inj hg
  exact W.ret (Ends.of [] (by kernel_rfl))
def g34 (a0 : T_api_Code) (a1 : T_api_Slot) : Option Bool := (g31 a0 a1.Type_).bind fun v1 => bif (!v1) then some false else bif (a1.Type_.Kind_ == (2)) then bif (a1.Bits_ == (0)) then bif (decide (a1.Int_ ≥ (0))) then some (decide (a1.Int_ ≤ (2147483647))) else some false else some false else bif (a1.Int_ == (0)) then (g52 a1.Bits_).bind fun v2 => some v2 else some false
theorem g34_ok (a0 : T_api_Code) (a1 : T_api_Slot) (r : Bool) (hg : g34 a0 a1 = some r) : CallOk Go.Proofs.Try.prog 34 [.ag [.im 3 (a0.Sign_.map c_T_api_Param), .im 2 (a0.Regs_.map c_T_api_Type), .im 5 (a0.Slots_.map c_T_api_Slot), .im 7 (a0.List_.map c_T_api_Inst)], .ag [I64 a1.Type_.Kind_, I64 a1.Type_.Param_, Bl a1.Keep_, .sc (.int .u32 a1.Bits_), I64 a1.Int_]] [] (Bl r) [] := by
  unfold g34 at hg
  refine CallG.narrow ?_ (by kernel_rfl) (by kernel_rfl)
  refine .of_S [0, 1] (envOf [(0, .ag [.im 3 (a0.Sign_.map c_T_api_Param), .im 2 (a0.Regs_.map c_T_api_Type), .im 5 (a0.Slots_.map c_T_api_Slot), .im 7 (a0.List_.map c_T_api_Inst)]), (1, .ag [I64 a1.Type_.Kind_, I64 a1.Type_.Param_, Bl a1.Keep_, .sc (.int .u32 a1.Bits_), I64 a1.Int_])]) fn34 (by kernel_rfl) ?_
  refine W.seq ?_
  refine W.regG ?_
  refine RG.fin 3 [(2, 2), (3, 3)] (envOf [(2, .pt 2 [] 0 0), (3, .pt 3 [] 0 0)]) [(2, ⟨4, [[.im 3 (a0.Sign_.map c_T_api_Param), .im 2 (a0.Regs_.map c_T_api_Type), .im 5 (a0.Slots_.map c_T_api_Slot), .im 7 (a0.List_.map c_T_api_Inst)]]⟩), (3, ⟨5, [[I64 a1.Type_.Kind_, I64 a1.Type_.Param_, Bl a1.Keep_, .sc (.int .u32 a1.Bits_), I64 a1.Int_]]⟩)] (by kernel_rfl) ?_
  refine W.seq ?_
  refine W.seq ?_
  refine W.regG ?_
  refine RG.cut 3 [(3, 3)] [3, 5, 7] (envOf [(3, .pt 3 [] 0 0), (5, .ag [.im 3 (a0.Sign_.map c_T_api_Param), .im 2 (a0.Regs_.map c_T_api_Type), .im 5 (a0.Slots_.map c_T_api_Slot), .im 7 (a0.List_.map c_T_api_Inst)]), (7, .ag [I64 a1.Type_.Kind_, I64 a1.Type_.Param_])]) [(3, ⟨5, [[I64 a1.Type_.Kind_, I64 a1.Type_.Param_, Bl a1.Keep_, .sc (.int .u32 a1.Bits_), I64 a1.Int_]]⟩)] (by kernel_rfl) ?_
  refine RG.callP [] [(3, 3)] [3, 8] false [.ag [.im 3 (a0.Sign_.map c_T_api_Param), .im 2 (a0.Regs_.map c_T_api_Type), .im 5 (a0.Slots_.map c_T_api_Slot), .im 7 (a0.List_.map c_T_api_Inst)], .ag [I64 a1.Type_.Kind_, I64 a1.Type_.Param_]] (fun v1 => Bl v1) (fun v1 => []) (fun v1 => envOf [(3, .pt 3 [] 0 0), (8, Bl v1)]) (fun v1 => [(3, ⟨5, [[I64 a1.Type_.Kind_, I64 a1.Type_.Param_, Bl a1.Keep_, .sc (.int .u32 a1.Bits_), I64 a1.Int_]]⟩)]) (by kernel_rfl) hg (by kernel_rfl) (fun v1 hv => CallOk.toG (g31_ok a0 a1.Type_ v1 hv)) (by kernel_rfl) (fun v1 => by kernel_rfl) (fun h => by cases h) (fun v1 hv hg => ?_)
  refine RG.fin 1 [(3, 3)] (envOf [(3, .pt 3 [] 0 0), (9, Bl (!v1))]) [(3, ⟨5, [[I64 a1.Type_.Kind_, I64 a1.Type_.Param_, Bl a1.Keep_, .sc (.int .u32 a1.Bits_), I64 a1.Int_]]⟩)] (by kernel_rfl) ?_
  refine W.condB (b := (!v1)) (by kernel_rfl) hg (fun hg => ?_) (fun hg => ?_)
  · refine W.seq ?_
    refine W.regG ?_
    refine RG.fin 1 [] (envOf [(4, Bl false)]) [] (by kernel_rfl) ?_
    obtain rfl := Option.some.inj hg
    exact W.ret (Ends.of [] (by kernel_rfl))
  refine W.skip ?_
  refine W.seq ?_
  refine W.seq ?_
  refine W.regG ?_
  refine RG.fin 4 [(3, 3)] (envOf [(3, .pt 3 [] 0 0), (13, Bl (a1.Type_.Kind_ == (2)))]) [(3, ⟨5, [[I64 a1.Type_.Kind_, I64 a1.Type_.Param_, Bl a1.Keep_, .sc (.int .u32 a1.Bits_), I64 a1.Int_]]⟩)] (by kernel_rfl) ?_
  refine W.condB (b := (a1.Type_.Kind_ == (2))) (by kernel_rfl) hg (fun hg => ?_) (fun hg => ?_)
  · refine W.seq ?_
    refine W.regG ?_
    refine RG.cut 4 [(3, 3)] [3, 17, 18, 19, 20, 23, 24, 25] (envOf [(3, .pt 3 [] 0 0), (17, Bl (a1.Bits_ == (0))), (18, .un), (19, .un), (20, .un), (23, .un), (24, .un), (25, .un)]) [(3, ⟨5, [[I64 a1.Type_.Kind_, I64 a1.Type_.Param_, Bl a1.Keep_, .sc (.int .u32 a1.Bits_), I64 a1.Int_]]⟩)] (by kernel_rfl) ?_
    refine RG.guard (s := 17) (by kernel_rfl) hg (fun hg => ?_) (fun hg => ?_)
    · refine RG.cut 5 [(3, 3)] [3, 22, 23, 24, 25] (envOf [(3, .pt 3 [] 0 0), (22, Bl (decide (a1.Int_ ≥ (0)))), (23, .un), (24, .un), (25, .un)]) [(3, ⟨5, [[I64 a1.Type_.Kind_, I64 a1.Type_.Param_, Bl a1.Keep_, .sc (.int .u32 a1.Bits_), I64 a1.Int_]]⟩)] (by kernel_rfl) ?_
      refine RG.guard (s := 22) (by kernel_rfl) hg (fun hg => ?_) (fun hg => ?_)
      · refine RG.fin 5 [] (envOf [(4, Bl (decide (a1.Int_ ≤ (2147483647))))]) [] (by kernel_rfl) ?_
        obtain rfl := Option.some.inj hg
        exact W.ret (Ends.of [] (by kernel_rfl))
      refine RG.fin 5 [] (envOf [(4, Bl false)]) [] (by kernel_rfl) ?_
      obtain rfl := Option.some.inj hg
      exact W.ret (Ends.of [] (by kernel_rfl))
    refine RG.fin 10 [] (envOf [(4, Bl false)]) [] (by kernel_rfl) ?_
    obtain rfl := Option.some.inj hg
    exact W.ret (Ends.of [] (by kernel_rfl))
  refine W.skip ?_
  refine W.seq ?_
  refine W.regG ?_
  refine RG.cut 4 [(3, 3)] [3, 30, 31, 32, 33] (envOf [(3, .pt 3 [] 0 0), (30, Bl (a1.Int_ == (0))), (31, .un), (32, .un), (33, .un)]) [(3, ⟨5, [[I64 a1.Type_.Kind_, I64 a1.Type_.Param_, Bl a1.Keep_, .sc (.int .u32 a1.Bits_), I64 a1.Int_]]⟩)] (by kernel_rfl) ?_
  refine RG.guard (s := 30) (by kernel_rfl) hg (fun hg => ?_) (fun hg => ?_)
  · refine RG.cut 2 [] [30, 32, 33] (envOf [(30, Bl true), (32, .sc (.int .u32 a1.Bits_)), (33, .un)]) [] (by kernel_rfl) ?_
    refine RG.callP [] [] [30, 33] false [.sc (.int .u32 a1.Bits_)] (fun v2 => Bl v2) (fun v2 => []) (fun v2 => envOf [(30, Bl true), (33, Bl v2)]) (fun v2 => []) (by kernel_rfl) hg (by kernel_rfl) (fun v2 hv => CallOk.toG (g52_ok a1.Bits_ v2 hv)) (by kernel_rfl) (fun v2 => by kernel_rfl) (fun h => by cases h) (fun v2 hv hg => ?_)
    refine RG.fin 2 [] (envOf [(4, Bl v2)]) [] (by kernel_rfl) ?_
    obtain rfl := Option.some.inj hg
    exact W.ret (Ends.of [] (by kernel_rfl))
  refine RG.fin 5 [] (envOf [(4, Bl false)]) [] (by kernel_rfl) ?_
  obtain rfl := Option.some.inj hg
  exact W.ret (Ends.of [] (by kernel_rfl))
def g33 (a0 : T_api_Slot) (a1_0 : (List T_api_Param)) (a1_1 : (List T_api_Type)) (a1_2 : (List T_api_Slot)) (a1_3 : (List T_api_Inst)) : Option Bool := (g34 (⟨a1_0, a1_1, a1_2, a1_3⟩ : T_api_Code) a0).bind fun v1 => some (!v1)
theorem g33_ok (a0 : T_api_Slot) (a1_0 : (List T_api_Param)) (a1_1 : (List T_api_Type)) (a1_2 : (List T_api_Slot)) (a1_3 : (List T_api_Inst)) (r : Bool) (hg : g33 a0 a1_0 a1_1 a1_2 a1_3 = some r) : CallG Go.Proofs.Try.prog 33 [.ag [I64 a0.Type_.Kind_, I64 a0.Type_.Param_, Bl a0.Keep_, .sc (.int .u32 a0.Bits_), I64 a0.Int_], .pt 200000 [] 0 0] [(200000, ⟨4, [[.im 3 (a1_0.map c_T_api_Param), .im 2 (a1_1.map c_T_api_Type), .im 5 (a1_2.map c_T_api_Slot), .im 7 (a1_3.map c_T_api_Inst)]]⟩)] (Bl r) [(200000, ⟨4, [[.im 3 (a1_0.map c_T_api_Param), .im 2 (a1_1.map c_T_api_Type), .im 5 (a1_2.map c_T_api_Slot), .im 7 (a1_3.map c_T_api_Inst)]]⟩)] := by
  unfold g33 at hg
  refine .of_S [0, 1] (envOf [(0, .ag [I64 a0.Type_.Kind_, I64 a0.Type_.Param_, Bl a0.Keep_, .sc (.int .u32 a0.Bits_), I64 a0.Int_]), (1, .pt 200000 [] 0 0)]) fn33 (by kernel_rfl) ?_
  refine W.seq ?_
  refine W.regG ?_
  refine RG.fin 2 [(2, 2), (200000, 200000)] (envOf [(1, .pt 200000 [] 0 0), (2, .pt 2 [] 0 0)]) [(2, ⟨5, [[I64 a0.Type_.Kind_, I64 a0.Type_.Param_, Bl a0.Keep_, .sc (.int .u32 a0.Bits_), I64 a0.Int_]]⟩), (200000, ⟨4, [[.im 3 (a1_0.map c_T_api_Param), .im 2 (a1_1.map c_T_api_Type), .im 5 (a1_2.map c_T_api_Slot), .im 7 (a1_3.map c_T_api_Inst)]]⟩)] (by kernel_rfl) ?_
  refine W.seq ?_
  refine W.regG ?_
  refine RG.cut 2 [(200000, 200000)] [4, 5] (envOf [(4, .ag [.im 3 (a1_0.map c_T_api_Param), .im 2 (a1_1.map c_T_api_Type), .im 5 (a1_2.map c_T_api_Slot), .im 7 (a1_3.map c_T_api_Inst)]), (5, .ag [I64 a0.Type_.Kind_, I64 a0.Type_.Param_, Bl a0.Keep_, .sc (.int .u32 a0.Bits_), I64 a0.Int_])]) [(200000, ⟨4, [[.im 3 (a1_0.map c_T_api_Param), .im 2 (a1_1.map c_T_api_Type), .im 5 (a1_2.map c_T_api_Slot), .im 7 (a1_3.map c_T_api_Inst)]]⟩)] (by kernel_rfl) ?_
  refine RG.callP [] [(200000, 200000)] [6] false [.ag [.im 3 (((⟨a1_0, a1_1, a1_2, a1_3⟩ : T_api_Code).Sign_).map c_T_api_Param), .im 2 (((⟨a1_0, a1_1, a1_2, a1_3⟩ : T_api_Code).Regs_).map c_T_api_Type), .im 5 (((⟨a1_0, a1_1, a1_2, a1_3⟩ : T_api_Code).Slots_).map c_T_api_Slot), .im 7 (((⟨a1_0, a1_1, a1_2, a1_3⟩ : T_api_Code).List_).map c_T_api_Inst)], .ag [I64 a0.Type_.Kind_, I64 a0.Type_.Param_, Bl a0.Keep_, .sc (.int .u32 a0.Bits_), I64 a0.Int_]] (fun v1 => Bl v1) (fun v1 => []) (fun v1 => envOf [(6, Bl v1)]) (fun v1 => [(200000, ⟨4, [[.im 3 (a1_0.map c_T_api_Param), .im 2 (a1_1.map c_T_api_Type), .im 5 (a1_2.map c_T_api_Slot), .im 7 (a1_3.map c_T_api_Inst)]]⟩)]) (by kernel_rfl) hg (by kernel_rfl) (fun v1 hv => CallOk.toG (g34_ok (⟨a1_0, a1_1, a1_2, a1_3⟩ : T_api_Code) a0 v1 hv)) (by kernel_rfl) (fun v1 => by kernel_rfl) (fun h => by cases h) (fun v1 hv hg => ?_)
  refine RG.fin 2 [(200000, 200000)] (envOf [(3, Bl (!v1))]) [(200000, ⟨4, [[.im 3 (a1_0.map c_T_api_Param), .im 2 (a1_1.map c_T_api_Type), .im 5 (a1_2.map c_T_api_Slot), .im 7 (a1_3.map c_T_api_Inst)]]⟩)] (by kernel_rfl) ?_
  obtain rfl := Option.some.inj hg
  exact W.ret (Ends.of [(200000, 200000)] (by kernel_rfl))
def g51_b1 (n : Nat) (a0 : (List T_api_Slot)) (a1_0_0 : (List T_api_Param)) (a1_0_1 : (List T_api_Type)) (a1_0_2 : (List T_api_Slot)) (a1_0_3 : (List T_api_Inst)) (s1 : Int) : Option (Bo Int (Int × Bool) Int) := bif (decide (s1 < ((a0.map c_T_api_Slot).length : Int))) then (idx a0 s1).bind fun y2 => (g33 y2 a1_0_0 a1_0_1 a1_0_2 a1_0_3).bind fun v2 => bif v2 then some (.ret s1) else some (.go (IntKind.i64.wrap (s1 + (1)))) else some (.out (s1, (decide (s1 < ((a0.map c_T_api_Slot).length : Int)))))
def g51 (n : Nat) (a0 : (List T_api_Slot)) (a1_0_0 : (List T_api_Param)) (a1_0_1 : (List T_api_Type)) (a1_0_2 : (List T_api_Slot)) (a1_0_3 : (List T_api_Inst)) : Option Int := (iter (g51_b1 n a0 a1_0_0 a1_0_1 a1_0_2 a1_0_3) n (0)).bind (Bo.then (fun t1 => some (-1)) some)
theorem g51_ok (n : Nat) (a0 : (List T_api_Slot)) (a1_0_0 : (List T_api_Param)) (a1_0_1 : (List T_api_Type)) (a1_0_2 : (List T_api_Slot)) (a1_0_3 : (List T_api_Inst)) (r : Int) (hg : g51 n a0 a1_0_0 a1_0_1 a1_0_2 a1_0_3 = some r) : CallG Go.Proofs.Try.prog 51 [.im 5 (a0.map c_T_api_Slot), .fn 33 [.pt 200000 [] 0 0]] [(200000, ⟨4, [[.im 3 (a1_0_0.map c_T_api_Param), .im 2 (a1_0_1.map c_T_api_Type), .im 5 (a1_0_2.map c_T_api_Slot), .im 7 (a1_0_3.map c_T_api_Inst)]]⟩)] (I64 r) [(200000, ⟨4, [[.im 3 (a1_0_0.map c_T_api_Param), .im 2 (a1_0_1.map c_T_api_Type), .im 5 (a1_0_2.map c_T_api_Slot), .im 7 (a1_0_3.map c_T_api_Inst)]]⟩)] := by
  unfold g51 at hg
  refine .of_S [0, 1] (envOf [(0, .im 5 (a0.map c_T_api_Slot)), (1, .fn 33 [.pt 200000 [] 0 0])]) fn51 (by kernel_rfl) ?_
  refine W.seq ?_
  refine W.regG ?_
  refine RG.fin 1 [(200000, 200000)] (envOf [(0, .im 5 (a0.map c_T_api_Slot)), (1, .fn 33 [.pt 200000 [] 0 0])]) [(200000, ⟨4, [[.im 3 (a1_0_0.map c_T_api_Param), .im 2 (a1_0_1.map c_T_api_Type), .im 5 (a1_0_2.map c_T_api_Slot), .im 7 (a1_0_3.map c_T_api_Inst)]]⟩)] (by kernel_rfl) ?_
  refine W.seq ?_
  refine W.seq ?_
  refine W.regG ?_
  refine RG.fin 3 [(200000, 200000)] (envOf [(0, .im 5 (a0.map c_T_api_Slot)), (1, .fn 33 [.pt 200000 [] 0 0]), (7, I64 ((a0.map c_T_api_Slot).length : Int)), (8, I64 (0))]) [(200000, ⟨4, [[.im 3 (a1_0_0.map c_T_api_Param), .im 2 (a1_0_1.map c_T_api_Type), .im 5 (a1_0_2.map c_T_api_Slot), .im 7 (a1_0_3.map c_T_api_Inst)]]⟩)] (by kernel_rfl) ?_
  refine W.norm [(200000, 200000)] [0, 1, 7, 8] (envOf [(0, .im 5 (a0.map c_T_api_Slot)), (1, .fn 33 [.pt 200000 [] 0 0]), (7, I64 ((a0.map c_T_api_Slot).length : Int)), (8, I64 (0))]) [(200000, ⟨4, [[.im 3 (a1_0_0.map c_T_api_Param), .im 2 (a1_0_1.map c_T_api_Type), .im 5 (a1_0_2.map c_T_api_Slot), .im 7 (a1_0_3.map c_T_api_Inst)]]⟩)] (by kernel_rfl) ?_
  refine W.loopB (fun s1 : Int => envOf [(0, .im 5 (a0.map c_T_api_Slot)), (1, .fn 33 [.pt 200000 [] 0 0]), (7, I64 ((a0.map c_T_api_Slot).length : Int)), (8, I64 s1)]) (fun s1 : Int => [(200000, ⟨4, [[.im 3 (a1_0_0.map c_T_api_Param), .im 2 (a1_0_1.map c_T_api_Type), .im 5 (a1_0_2.map c_T_api_Slot), .im 7 (a1_0_3.map c_T_api_Inst)]]⟩)]) (fun t1 : Int × Bool => envOf [(0, .im 5 (a0.map c_T_api_Slot)), (1, .fn 33 [.pt 200000 [] 0 0]), (7, I64 ((a0.map c_T_api_Slot).length : Int)), (8, I64 t1.1), (9, Bl t1.2)]) (fun t1 : Int × Bool => [(200000, ⟨4, [[.im 3 (a1_0_0.map c_T_api_Param), .im 2 (a1_0_1.map c_T_api_Type), .im 5 (a1_0_2.map c_T_api_Slot), .im 7 (a1_0_3.map c_T_api_Inst)]]⟩)]) (fun (r : Int) e h => Ends [.t 4] [(200000, ⟨4, [[.im 3 (a1_0_0.map c_T_api_Param), .im 2 (a1_0_1.map c_T_api_Type), .im 5 (a1_0_2.map c_T_api_Slot), .im 7 (a1_0_3.map c_T_api_Inst)]]⟩)] (I64 r) [(200000, ⟨4, [[.im 3 (a1_0_0.map c_T_api_Param), .im 2 (a1_0_1.map c_T_api_Type), .im 5 (a1_0_2.map c_T_api_Slot), .im 7 (a1_0_3.map c_T_api_Inst)]]⟩)] .ret e h) hg (by kernel_rfl) (by kernel_rfl) (fun s1 bb hg => ?_) (fun r' hr e h q => by cases hr; exact q) (fun t1 hg => ?_)
  · unfold g51_b1 at hg
    refine W.seq ?_
    refine W.regG ?_
    refine RG.fin 1 [(200000, 200000)] (envOf [(0, .im 5 (a0.map c_T_api_Slot)), (1, .fn 33 [.pt 200000 [] 0 0]), (7, I64 ((a0.map c_T_api_Slot).length : Int)), (8, I64 s1), (9, Bl (decide (s1 < ((a0.map c_T_api_Slot).length : Int))))]) [(200000, ⟨4, [[.im 3 (a1_0_0.map c_T_api_Param), .im 2 (a1_0_1.map c_T_api_Type), .im 5 (a1_0_2.map c_T_api_Slot), .im 7 (a1_0_3.map c_T_api_Inst)]]⟩)] (by kernel_rfl) ?_
    refine W.seq ?_
    refine W.condB (b := (decide (s1 < ((a0.map c_T_api_Slot).length : Int)))) (by kernel_rfl) hg (fun hg => ?_) (fun hg => ?_)
    · refine W.skip ?_
      refine W.seq ?_
      refine W.block ?_
      refine W.seq ?_
      refine W.regG ?_
      refine RG.fin 2 [(200000, 200000)] (envOf [(0, .im 5 (a0.map c_T_api_Slot)), (1, .fn 33 [.pt 200000 [] 0 0]), (5, I64 s1), (7, I64 ((a0.map c_T_api_Slot).length : Int)), (8, I64 s1)]) [(200000, ⟨4, [[.im 3 (a1_0_0.map c_T_api_Param), .im 2 (a1_0_1.map c_T_api_Type), .im 5 (a1_0_2.map c_T_api_Slot), .im 7 (a1_0_3.map c_T_api_Inst)]]⟩)] (by kernel_rfl) ?_
      refine W.seq ?_
      refine W.regG ?_
      refine RG.cut 3 [(200000, 200000)] [0, 1, 5, 7, 8, 11, 12, 13] (envOf [(0, .im 5 (a0.map c_T_api_Slot)), (1, .fn 33 [.pt 200000 [] 0 0]), (5, I64 s1), (7, I64 ((a0.map c_T_api_Slot).length : Int)), (8, I64 s1), (11, .fn 33 [.pt 200000 [] 0 0]), (12, .im 5 (a0.map c_T_api_Slot)), (13, I64 s1)]) [(200000, ⟨4, [[.im 3 (a1_0_0.map c_T_api_Param), .im 2 (a1_0_1.map c_T_api_Type), .im 5 (a1_0_2.map c_T_api_Slot), .im 7 (a1_0_3.map c_T_api_Inst)]]⟩)] (by kernel_rfl) ?_
      refine RG.iadIm (c := c_T_api_Slot) (xs := a0) (i := s1) (k := .i64) (by kernel_rfl) (by kernel_rfl) (by kernel_rfl) hg (fun y2 _ hg => ?_)
      refine RG.cut 1 [(200000, 200000)] [0, 1, 5, 7, 8, 11, 15] (envOf [(0, .im 5 (a0.map c_T_api_Slot)), (1, .fn 33 [.pt 200000 [] 0 0]), (5, I64 s1), (7, I64 ((a0.map c_T_api_Slot).length : Int)), (8, I64 s1), (11, .fn 33 [.pt 200000 [] 0 0]), (15, .ag [I64 y2.Type_.Kind_, I64 y2.Type_.Param_, Bl y2.Keep_, .sc (.int .u32 y2.Bits_), I64 y2.Int_])]) [(200000, ⟨4, [[.im 3 (a1_0_0.map c_T_api_Param), .im 2 (a1_0_1.map c_T_api_Type), .im 5 (a1_0_2.map c_T_api_Slot), .im 7 (a1_0_3.map c_T_api_Inst)]]⟩)] (by kernel_rfl) ?_
      refine RG.callv (f := 33) (caps := [.pt 200000 [] 0 0]) [(200000, 200000)] [(200000, 200000)] [(200000, 200000)] [0, 1, 5, 7, 8, 16] false [.ag [I64 y2.Type_.Kind_, I64 y2.Type_.Param_, Bl y2.Keep_, .sc (.int .u32 y2.Bits_), I64 y2.Int_], .pt 200000 [] 0 0] [(200000, ⟨4, [[.im 3 (a1_0_0.map c_T_api_Param), .im 2 (a1_0_1.map c_T_api_Type), .im 5 (a1_0_2.map c_T_api_Slot), .im 7 (a1_0_3.map c_T_api_Inst)]]⟩)] [] (fun v2 => Bl v2) (fun v2 => [(200000, ⟨4, [[.im 3 (a1_0_0.map c_T_api_Param), .im 2 (a1_0_1.map c_T_api_Type), .im 5 (a1_0_2.map c_T_api_Slot), .im 7 (a1_0_3.map c_T_api_Inst)]]⟩)]) (fun v2 => envOf [(0, .im 5 (a0.map c_T_api_Slot)), (1, .fn 33 [.pt 200000 [] 0 0]), (5, I64 s1), (7, I64 ((a0.map c_T_api_Slot).length : Int)), (8, I64 s1), (16, Bl v2)]) (fun v2 => [(200000, ⟨4, [[.im 3 (a1_0_0.map c_T_api_Param), .im 2 (a1_0_1.map c_T_api_Type), .im 5 (a1_0_2.map c_T_api_Slot), .im 7 (a1_0_3.map c_T_api_Inst)]]⟩)]) (by kernel_rfl) (by kernel_rfl) (by kernel_rfl) hg (by kernel_rfl) (by kernel_rfl) (fun v2 hv => g33_ok y2 a1_0_0 a1_0_1 a1_0_2 a1_0_3 v2 hv) (by kernel_rfl) (fun v2 => by kernel_rfl) (fun h => by cases h) (fun v2 hv hg => ?_)
      refine RG.fin 0 [(200000, 200000)] (envOf [(0, .im 5 (a0.map c_T_api_Slot)), (1, .fn 33 [.pt 200000 [] 0 0]), (5, I64 s1), (7, I64 ((a0.map c_T_api_Slot).length : Int)), (8, I64 s1), (16, Bl v2)]) [(200000, ⟨4, [[.im 3 (a1_0_0.map c_T_api_Param), .im 2 (a1_0_1.map c_T_api_Type), .im 5 (a1_0_2.map c_T_api_Slot), .im 7 (a1_0_3.map c_T_api_Inst)]]⟩)] (by kernel_rfl) ?_
      refine W.condB (b := v2) (by kernel_rfl) hg (fun hg => ?_) (fun hg => ?_)
      · refine W.seq ?_
        refine W.regG ?_
        refine RG.fin 2 [(200000, 200000)] (envOf [(4, I64 s1)]) [(200000, ⟨4, [[.im 3 (a1_0_0.map c_T_api_Param), .im 2 (a1_0_1.map c_T_api_Type), .im 5 (a1_0_2.map c_T_api_Slot), .im 7 (a1_0_3.map c_T_api_Inst)]]⟩)] (by kernel_rfl) ?_
        obtain rfl := Option.some.inj hg
        exact W.ret ⟨rfl, Ends.of [(200000, 200000)] (by kernel_rfl)⟩
      refine W.skip ?_
      refine W.regG ?_
      refine RG.fin 2 [(200000, 200000)] (envOf [(0, .im 5 (a0.map c_T_api_Slot)), (1, .fn 33 [.pt 200000 [] 0 0]), (7, I64 ((a0.map c_T_api_Slot).length : Int)), (8, I64 (IntKind.i64.wrap (s1 + (1))))]) [(200000, ⟨4, [[.im 3 (a1_0_0.map c_T_api_Param), .im 2 (a1_0_1.map c_T_api_Type), .im 5 (a1_0_2.map c_T_api_Slot), .im 7 (a1_0_3.map c_T_api_Inst)]]⟩)] (by kernel_rfl) ?_
      obtain rfl := Option.some.inj hg
      exact ⟨rfl, by kernel_rfl, by kernel_rfl⟩
    refine W.norm [(200000, 200000)] [0, 1, 7, 8, 9] (envOf [(0, .im 5 (a0.map c_T_api_Slot)), (1, .fn 33 [.pt 200000 [] 0 0]), (7, I64 ((a0.map c_T_api_Slot).length : Int)), (8, I64 s1), (9, Bl (decide (s1 < ((a0.map c_T_api_Slot).length : Int))))]) [(200000, ⟨4, [[.im 3 (a1_0_0.map c_T_api_Param), .im 2 (a1_0_1.map c_T_api_Type), .im 5 (a1_0_2.map c_T_api_Slot), .im 7 (a1_0_3.map c_T_api_Inst)]]⟩)] (by kernel_rfl) ?_
    refine W.exit ?_
    obtain rfl := Option.some.inj hg
    exact ⟨rfl, by kernel_rfl, by kernel_rfl⟩
  refine W.seq ?_
  refine W.regG ?_
  refine RG.fin 1 [(200000, 200000)] (envOf [(4, I64 (-1))]) [(200000, ⟨4, [[.im 3 (a1_0_0.map c_T_api_Param), .im 2 (a1_0_1.map c_T_api_Type), .im 5 (a1_0_2.map c_T_api_Slot), .im 7 (a1_0_3.map c_T_api_Inst)]]⟩)] (by kernel_rfl) ?_
  obtain rfl := Option.some.inj hg
  exact W.ret (Ends.of [(200000, 200000)] (by kernel_rfl))
def g32 (n : Nat) (a0 : (List T_api_Slot)) (a1_0_0 : (List T_api_Param)) (a1_0_1 : (List T_api_Type)) (a1_0_2 : (List T_api_Slot)) (a1_0_3 : (List T_api_Inst)) : Option Bool := (g51 n a0 a1_0_0 a1_0_1 a1_0_2 a1_0_3).bind fun v1 => some (decide (v1 ≥ (0)))
theorem g32_ok (n : Nat) (a0 : (List T_api_Slot)) (a1_0_0 : (List T_api_Param)) (a1_0_1 : (List T_api_Type)) (a1_0_2 : (List T_api_Slot)) (a1_0_3 : (List T_api_Inst)) (r : Bool) (hg : g32 n a0 a1_0_0 a1_0_1 a1_0_2 a1_0_3 = some r) : CallG Go.Proofs.Try.prog 32 [.im 5 (a0.map c_T_api_Slot), .fn 33 [.pt 200000 [] 0 0]] [(200000, ⟨4, [[.im 3 (a1_0_0.map c_T_api_Param), .im 2 (a1_0_1.map c_T_api_Type), .im 5 (a1_0_2.map c_T_api_Slot), .im 7 (a1_0_3.map c_T_api_Inst)]]⟩)] (Bl r) [(200000, ⟨4, [[.im 3 (a1_0_0.map c_T_api_Param), .im 2 (a1_0_1.map c_T_api_Type), .im 5 (a1_0_2.map c_T_api_Slot), .im 7 (a1_0_3.map c_T_api_Inst)]]⟩)] := by
  unfold g32 at hg
  refine .of_S [0, 1] (envOf [(0, .im 5 (a0.map c_T_api_Slot)), (1, .fn 33 [.pt 200000 [] 0 0])]) fn32 (by kernel_rfl) ?_
  refine W.seq ?_
  refine W.regG ?_
  refine RG.fin 1 [(200000, 200000)] (envOf [(0, .im 5 (a0.map c_T_api_Slot)), (1, .fn 33 [.pt 200000 [] 0 0])]) [(200000, ⟨4, [[.im 3 (a1_0_0.map c_T_api_Param), .im 2 (a1_0_1.map c_T_api_Type), .im 5 (a1_0_2.map c_T_api_Slot), .im 7 (a1_0_3.map c_T_api_Inst)]]⟩)] (by kernel_rfl) ?_
  refine W.seq ?_
  refine W.regG ?_
  refine RG.cut 2 [(200000, 200000)] [5, 6] (envOf [(5, .im 5 (a0.map c_T_api_Slot)), (6, .fn 33 [.pt 200000 [] 0 0])]) [(200000, ⟨4, [[.im 3 (a1_0_0.map c_T_api_Param), .im 2 (a1_0_1.map c_T_api_Type), .im 5 (a1_0_2.map c_T_api_Slot), .im 7 (a1_0_3.map c_T_api_Inst)]]⟩)] (by kernel_rfl) ?_
  refine RG.call [(200000, 200000)] [(200000, 200000)] [(200000, 200000)] [7] false [.im 5 (a0.map c_T_api_Slot), .fn 33 [.pt 200000 [] 0 0]] [(200000, ⟨4, [[.im 3 (a1_0_0.map c_T_api_Param), .im 2 (a1_0_1.map c_T_api_Type), .im 5 (a1_0_2.map c_T_api_Slot), .im 7 (a1_0_3.map c_T_api_Inst)]]⟩)] [] (fun v1 => I64 v1) (fun v1 => [(200000, ⟨4, [[.im 3 (a1_0_0.map c_T_api_Param), .im 2 (a1_0_1.map c_T_api_Type), .im 5 (a1_0_2.map c_T_api_Slot), .im 7 (a1_0_3.map c_T_api_Inst)]]⟩)]) (fun v1 => envOf [(7, I64 v1)]) (fun v1 => [(200000, ⟨4, [[.im 3 (a1_0_0.map c_T_api_Param), .im 2 (a1_0_1.map c_T_api_Type), .im 5 (a1_0_2.map c_T_api_Slot), .im 7 (a1_0_3.map c_T_api_Inst)]]⟩)]) (by kernel_rfl) hg (by kernel_rfl) (by kernel_rfl) (fun v1 hv => g51_ok n a0 a1_0_0 a1_0_1 a1_0_2 a1_0_3 v1 hv) (by kernel_rfl) (fun v1 => by kernel_rfl) (fun h => by cases h) (fun v1 hv hg => ?_)
  refine RG.fin 2 [(200000, 200000)] (envOf [(4, Bl (decide (v1 ≥ (0))))]) [(200000, ⟨4, [[.im 3 (a1_0_0.map c_T_api_Param), .im 2 (a1_0_1.map c_T_api_Type), .im 5 (a1_0_2.map c_T_api_Slot), .im 7 (a1_0_3.map c_T_api_Inst)]]⟩)] (by kernel_rfl) ?_
  obtain rfl := Option.some.inj hg
  exact W.ret (Ends.of [(200000, 200000)] (by kernel_rfl))
def g53 (a0_0 : (List T_api_Param)) (a0_1 : (List T_api_Type)) (a0_2 : (List T_api_Slot)) (a0_3 : (List T_api_Inst)) (a0_4 : (List Bool)) (a0_5 : (List (List Int))) (a0_6 : (List Int)) (a1 : Int) : Option (T_api_Type × Bool) := bif (decide (a1 < (0))) then some ((⟨(0), (0)⟩ : T_api_Type), false) else bif (decide (a1 ≥ ((a0_1.map c_T_api_Type).length : Int))) then some ((⟨(0), (0)⟩ : T_api_Type), false) else (idx a0_1 a1).bind fun y1 => some (y1, true)
theorem g53_ok (a0_0 : (List T_api_Param)) (a0_1 : (List T_api_Type)) (a0_2 : (List T_api_Slot)) (a0_3 : (List T_api_Inst)) (a0_4 : (List Bool)) (a0_5 : (List (List Int))) (a0_6 : (List Int)) (a1 : Int) (r : T_api_Type × Bool) (hg : g53 a0_0 a0_1 a0_2 a0_3 a0_4 a0_5 a0_6 a1 = some r) : CallG Go.Proofs.Try.prog 53 [.pt 200000 [] 0 0, I64 a1] [(200000, ⟨7, [[.im 3 (a0_0.map c_T_api_Param), .im 2 (a0_1.map c_T_api_Type), .im 5 (a0_2.map c_T_api_Slot), .im 7 (a0_3.map c_T_api_Inst), .ow 1 (a0_4.map c_bool), .ow 1 (a0_5.map o_L7), .ow 1 (a0_6.map c_i64)]]⟩)] (.tu [.ag [I64 r.1.Kind_, I64 r.1.Param_], Bl r.2]) [(200000, ⟨7, [[.im 3 (a0_0.map c_T_api_Param), .im 2 (a0_1.map c_T_api_Type), .im 5 (a0_2.map c_T_api_Slot), .im 7 (a0_3.map c_T_api_Inst), .ow 1 (a0_4.map c_bool), .ow 1 (a0_5.map o_L7), .ow 1 (a0_6.map c_i64)]]⟩)] := by
  unfold g53 at hg
  refine .of_S [0, 1] (envOf [(0, .pt 200000 [] 0 0), (1, I64 a1)]) fn53 (by kernel_rfl) ?_
  refine W.seq ?_
  refine W.regG ?_
  refine RG.fin 2 [(4, 4), (200000, 200000)] (envOf [(0, .pt 200000 [] 0 0), (1, I64 a1), (4, .pt 4 [] 0 0)]) [(4, ⟨2, [[I64 (0), I64 (0)]]⟩), (200000, ⟨7, [[.im 3 (a0_0.map c_T_api_Param), .im 2 (a0_1.map c_T_api_Type), .im 5 (a0_2.map c_T_api_Slot), .im 7 (a0_3.map c_T_api_Inst), .ow 1 (a0_4.map c_bool), .ow 1 (a0_5.map o_L7), .ow 1 (a0_6.map c_i64)]]⟩)] (by kernel_rfl) ?_
  refine W.seq ?_
  refine W.seq ?_
  refine W.regG ?_
  refine RG.cut 3 [(4, 4), (200000, 200000)] [0, 1, 4, 8, 9, 10, 11, 12, 13, 14, 15, 16] (envOf [(0, .pt 200000 [] 0 0), (1, I64 a1), (4, .pt 4 [] 0 0), (8, Bl (decide (a1 < (0)))), (9, .un), (10, .un), (11, .un), (12, .un), (13, .un), (14, .un), (15, .un), (16, .un)]) [(4, ⟨2, [[I64 (0), I64 (0)]]⟩), (200000, ⟨7, [[.im 3 (a0_0.map c_T_api_Param), .im 2 (a0_1.map c_T_api_Type), .im 5 (a0_2.map c_T_api_Slot), .im 7 (a0_3.map c_T_api_Inst), .ow 1 (a0_4.map c_bool), .ow 1 (a0_5.map o_L7), .ow 1 (a0_6.map c_i64)]]⟩)] (by kernel_rfl) ?_
  refine RG.guard (s := 8) (by kernel_rfl) hg (fun hg => ?_) (fun hg => ?_)
  · refine RG.fin 9 [(4, 4), (200000, 200000)] (envOf [(0, .pt 200000 [] 0 0), (1, I64 a1), (4, .pt 4 [] 0 0), (17, Bl true)]) [(4, ⟨2, [[I64 (0), I64 (0)]]⟩), (200000, ⟨7, [[.im 3 (a0_0.map c_T_api_Param), .im 2 (a0_1.map c_T_api_Type), .im 5 (a0_2.map c_T_api_Slot), .im 7 (a0_3.map c_T_api_Inst), .ow 1 (a0_4.map c_bool), .ow 1 (a0_5.map o_L7), .ow 1 (a0_6.map c_i64)]]⟩)] (by kernel_rfl) ?_
    refine W.condT (by kernel_rfl) ?_
    refine W.seq ?_
    refine W.regG ?_
    refine RG.fin 3 [(4, 4), (200000, 200000)] (envOf [(4, .pt 4 [] 0 0), (5, Bl false)]) [(4, ⟨2, [[I64 (0), I64 (0)]]⟩), (200000, ⟨7, [[.im 3 (a0_0.map c_T_api_Param), .im 2 (a0_1.map c_T_api_Type), .im 5 (a0_2.map c_T_api_Slot), .im 7 (a0_3.map c_T_api_Inst), .ow 1 (a0_4.map c_bool), .ow 1 (a0_5.map o_L7), .ow 1 (a0_6.map c_i64)]]⟩)] (by kernel_rfl) ?_
    obtain rfl := Option.some.inj hg
    exact W.ret (Ends.of [(200000, 200000)] (by kernel_rfl))
  refine RG.fin 9 [(4, 4), (200000, 200000)] (envOf [(0, .pt 200000 [] 0 0), (1, I64 a1), (4, .pt 4 [] 0 0), (17, Bl (decide (a1 ≥ ((a0_1.map c_T_api_Type).length : Int))))]) [(4, ⟨2, [[I64 (0), I64 (0)]]⟩), (200000, ⟨7, [[.im 3 (a0_0.map c_T_api_Param), .im 2 (a0_1.map c_T_api_Type), .im 5 (a0_2.map c_T_api_Slot), .im 7 (a0_3.map c_T_api_Inst), .ow 1 (a0_4.map c_bool), .ow 1 (a0_5.map o_L7), .ow 1 (a0_6.map c_i64)]]⟩)] (by kernel_rfl) ?_
  refine W.condB (b := (decide (a1 ≥ ((a0_1.map c_T_api_Type).length : Int)))) (by kernel_rfl) hg (fun hg => ?_) (fun hg => ?_)
  · refine W.seq ?_
    refine W.regG ?_
    refine RG.fin 3 [(4, 4), (200000, 200000)] (envOf [(4, .pt 4 [] 0 0), (5, Bl false)]) [(4, ⟨2, [[I64 (0), I64 (0)]]⟩), (200000, ⟨7, [[.im 3 (a0_0.map c_T_api_Param), .im 2 (a0_1.map c_T_api_Type), .im 5 (a0_2.map c_T_api_Slot), .im 7 (a0_3.map c_T_api_Inst), .ow 1 (a0_4.map c_bool), .ow 1 (a0_5.map o_L7), .ow 1 (a0_6.map c_i64)]]⟩)] (by kernel_rfl) ?_
    obtain rfl := Option.some.inj hg
    exact W.ret (Ends.of [(200000, 200000)] (by kernel_rfl))
  refine W.skip ?_
  refine W.seq ?_
  refine W.regG ?_
  refine RG.cut 6 [(4, 4), (200000, 200000)] [4, 23, 24] (envOf [(4, .pt 4 [] 0 0), (23, .im 2 (a0_1.map c_T_api_Type)), (24, I64 a1)]) [(4, ⟨2, [[I64 (0), I64 (0)]]⟩), (200000, ⟨7, [[.im 3 (a0_0.map c_T_api_Param), .im 2 (a0_1.map c_T_api_Type), .im 5 (a0_2.map c_T_api_Slot), .im 7 (a0_3.map c_T_api_Inst), .ow 1 (a0_4.map c_bool), .ow 1 (a0_5.map o_L7), .ow 1 (a0_6.map c_i64)]]⟩)] (by kernel_rfl) ?_
  refine RG.iadIm (c := c_T_api_Type) (xs := a0_1) (i := a1) (k := .i64) (by kernel_rfl) (by kernel_rfl) (by kernel_rfl) hg (fun y1 _ hg => ?_)
  refine RG.fin 3 [(4, 4), (200000, 200000)] (envOf [(4, .pt 4 [] 0 0), (5, Bl true)]) [(4, ⟨2, [[I64 y1.Kind_, I64 y1.Param_]]⟩), (200000, ⟨7, [[.im 3 (a0_0.map c_T_api_Param), .im 2 (a0_1.map c_T_api_Type), .im 5 (a0_2.map c_T_api_Slot), .im 7 (a0_3.map c_T_api_Inst), .ow 1 (a0_4.map c_bool), .ow 1 (a0_5.map o_L7), .ow 1 (a0_6.map c_i64)]]⟩)] (by kernel_rfl) ?_
  obtain rfl := Option.some.inj hg
  exact W.ret (Ends.of [(200000, 200000)] (by kernel_rfl))
def g54 (a0 : T_api_Type) (a1 : Int) (a2 : T_api_Type) : Option Bool := bif (a1 == (1)) then some (a0.Kind_ == (1)) else bif (a1 == (2)) then some (a0.Kind_ == (2)) else bif (a1 == (3)) then some (a0.Kind_ == (3)) else bif (a1 == (4)) then some (a0.Kind_ != (2)) else bif (a1 == (5)) then bif (a0.Kind_ == (1)) then some true else some (a0.Kind_ == a2.Kind_ && (a0.Param_ == a2.Param_ && true)) else bif (a1 == (6)) then some (a0.Kind_ == a2.Kind_ && (a0.Param_ == a2.Param_ && true)) else bif (a1 == (7)) then bif (a0.Kind_ == a2.Kind_ && (a0.Param_ == a2.Param_ && true)) then some true else bif (a0.Kind_ == (1)) then some (a2.Kind_ == (3)) else some false else some true
theorem g54_ok (a0 : T_api_Type) (a1 : Int) (a2 : T_api_Type) (r : Bool) (hg : g54 a0 a1 a2 = some r) : CallOk Go.Proofs.Try.prog 54 [.ag [I64 a0.Kind_, I64 a0.Param_], I64 a1, .ag [I64 a2.Kind_, I64 a2.Param_]] [] (Bl r) [] := by
  unfold g54 at hg
  refine CallG.narrow ?_ (by kernel_rfl) (by kernel_rfl)
  refine .of_S [0, 1, 2] (envOf [(0, .ag [I64 a0.Kind_, I64 a0.Param_]), (1, I64 a1), (2, .ag [I64 a2.Kind_, I64 a2.Param_])]) fn54 (by kernel_rfl) ?_
  refine W.seq ?_
  refine W.regG ?_
  refine RG.fin 3 [(3, 3), (5, 5)] (envOf [(1, I64 a1), (3, .pt 3 [] 0 0), (5, .pt 5 [] 0 0)]) [(3, ⟨2, [[I64 a0.Kind_, I64 a0.Param_]]⟩), (5, ⟨2, [[I64 a2.Kind_, I64 a2.Param_]]⟩)] (by kernel_rfl) ?_
  refine W.seq ?_
  refine W.regG ?_
  refine RG.fin 4 [(3, 3), (5, 5)] (envOf [(1, I64 a1), (3, .pt 3 [] 0 0), (5, .pt 5 [] 0 0), (7, Bl (a0.Kind_ == (1)))]) [(3, ⟨2, [[I64 a0.Kind_, I64 a0.Param_]]⟩), (5, ⟨2, [[I64 a2.Kind_, I64 a2.Param_]]⟩)] (by kernel_rfl) ?_
  refine W.seq ?_
  refine W.seq ?_
  refine W.regG ?_
  refine RG.fin 1 [(3, 3), (5, 5)] (envOf [(3, .pt 3 [] 0 0), (5, .pt 5 [] 0 0), (7, Bl (a0.Kind_ == (1))), (11, I64 a1)]) [(3, ⟨2, [[I64 a0.Kind_, I64 a0.Param_]]⟩), (5, ⟨2, [[I64 a2.Kind_, I64 a2.Param_]]⟩)] (by kernel_rfl) ?_
  refine W.block ?_
  refine W.seq ?_
  refine W.regG ?_
  refine RG.fin 2 [(3, 3), (5, 5)] (envOf [(3, .pt 3 [] 0 0), (5, .pt 5 [] 0 0), (7, Bl (a0.Kind_ == (1))), (11, I64 a1), (12, Bl (a1 == (1)))]) [(3, ⟨2, [[I64 a0.Kind_, I64 a0.Param_]]⟩), (5, ⟨2, [[I64 a2.Kind_, I64 a2.Param_]]⟩)] (by kernel_rfl) ?_
  refine W.condB (b := (a1 == (1))) (by kernel_rfl) hg (fun hg => ?_) (fun hg => ?_)
  · refine W.seq ?_
    refine W.regG ?_
    refine RG.fin 2 [] (envOf [(6, Bl (a0.Kind_ == (1)))]) [] (by kernel_rfl) ?_
    obtain rfl := Option.some.inj hg
    exact W.ret (Ends.of [] (by kernel_rfl))
  refine W.seq ?_
  refine W.regG ?_
  refine RG.fin 2 [(3, 3), (5, 5)] (envOf [(3, .pt 3 [] 0 0), (5, .pt 5 [] 0 0), (7, Bl (a0.Kind_ == (1))), (11, I64 a1), (15, Bl (a1 == (2)))]) [(3, ⟨2, [[I64 a0.Kind_, I64 a0.Param_]]⟩), (5, ⟨2, [[I64 a2.Kind_, I64 a2.Param_]]⟩)] (by kernel_rfl) ?_
  refine W.condB (b := (a1 == (2))) (by kernel_rfl) hg (fun hg => ?_) (fun hg => ?_)
  · refine W.seq ?_
    refine W.regG ?_
    refine RG.fin 4 [] (envOf [(6, Bl (a0.Kind_ == (2)))]) [] (by kernel_rfl) ?_
    obtain rfl := Option.some.inj hg
    exact W.ret (Ends.of [] (by kernel_rfl))
  refine W.seq ?_
  refine W.regG ?_
  refine RG.fin 2 [(3, 3), (5, 5)] (envOf [(3, .pt 3 [] 0 0), (5, .pt 5 [] 0 0), (7, Bl (a0.Kind_ == (1))), (11, I64 a1), (20, Bl (a1 == (3)))]) [(3, ⟨2, [[I64 a0.Kind_, I64 a0.Param_]]⟩), (5, ⟨2, [[I64 a2.Kind_, I64 a2.Param_]]⟩)] (by kernel_rfl) ?_
  refine W.condB (b := (a1 == (3))) (by kernel_rfl) hg (fun hg => ?_) (fun hg => ?_)
  · refine W.seq ?_
    refine W.regG ?_
    refine RG.fin 4 [] (envOf [(6, Bl (a0.Kind_ == (3)))]) [] (by kernel_rfl) ?_
    obtain rfl := Option.some.inj hg
    exact W.ret (Ends.of [] (by kernel_rfl))
  refine W.seq ?_
  refine W.regG ?_
  refine RG.fin 2 [(3, 3), (5, 5)] (envOf [(3, .pt 3 [] 0 0), (5, .pt 5 [] 0 0), (7, Bl (a0.Kind_ == (1))), (11, I64 a1), (25, Bl (a1 == (4)))]) [(3, ⟨2, [[I64 a0.Kind_, I64 a0.Param_]]⟩), (5, ⟨2, [[I64 a2.Kind_, I64 a2.Param_]]⟩)] (by kernel_rfl) ?_
  refine W.condB (b := (a1 == (4))) (by kernel_rfl) hg (fun hg => ?_) (fun hg => ?_)
  · refine W.seq ?_
    refine W.regG ?_
    refine RG.fin 4 [] (envOf [(6, Bl (a0.Kind_ != (2)))]) [] (by kernel_rfl) ?_
    obtain rfl := Option.some.inj hg
    exact W.ret (Ends.of [] (by kernel_rfl))
  refine W.seq ?_
  refine W.regG ?_
  refine RG.fin 2 [(3, 3), (5, 5)] (envOf [(3, .pt 3 [] 0 0), (5, .pt 5 [] 0 0), (7, Bl (a0.Kind_ == (1))), (11, I64 a1), (30, Bl (a1 == (5)))]) [(3, ⟨2, [[I64 a0.Kind_, I64 a0.Param_]]⟩), (5, ⟨2, [[I64 a2.Kind_, I64 a2.Param_]]⟩)] (by kernel_rfl) ?_
  refine W.condB (b := (a1 == (5))) (by kernel_rfl) hg (fun hg => ?_) (fun hg => ?_)
  · refine W.seq ?_
    refine W.regG ?_
    refine RG.cut 2 [(3, 3), (5, 5)] [3, 5, 33, 34, 35, 36] (envOf [(3, .pt 3 [] 0 0), (5, .pt 5 [] 0 0), (33, Bl (a0.Kind_ == (1))), (34, .un), (35, .un), (36, .un)]) [(3, ⟨2, [[I64 a0.Kind_, I64 a0.Param_]]⟩), (5, ⟨2, [[I64 a2.Kind_, I64 a2.Param_]]⟩)] (by kernel_rfl) ?_
    refine RG.guard (s := 33) (by kernel_rfl) hg (fun hg => ?_) (fun hg => ?_)
    · refine RG.fin 5 [] (envOf [(6, Bl true)]) [] (by kernel_rfl) ?_
      obtain rfl := Option.some.inj hg
      exact W.ret (Ends.of [] (by kernel_rfl))
    refine RG.fin 5 [] (envOf [(6, Bl (a0.Kind_ == a2.Kind_ && (a0.Param_ == a2.Param_ && true)))]) [] (by kernel_rfl) ?_
    obtain rfl := Option.some.inj hg
    exact W.ret (Ends.of [] (by kernel_rfl))
  refine W.seq ?_
  refine W.regG ?_
  refine RG.fin 2 [(3, 3), (5, 5)] (envOf [(3, .pt 3 [] 0 0), (5, .pt 5 [] 0 0), (7, Bl (a0.Kind_ == (1))), (11, I64 a1), (38, Bl (a1 == (6)))]) [(3, ⟨2, [[I64 a0.Kind_, I64 a0.Param_]]⟩), (5, ⟨2, [[I64 a2.Kind_, I64 a2.Param_]]⟩)] (by kernel_rfl) ?_
  refine W.condB (b := (a1 == (6))) (by kernel_rfl) hg (fun hg => ?_) (fun hg => ?_)
  · refine W.seq ?_
    refine W.regG ?_
    refine RG.fin 4 [] (envOf [(6, Bl (a0.Kind_ == a2.Kind_ && (a0.Param_ == a2.Param_ && true)))]) [] (by kernel_rfl) ?_
    obtain rfl := Option.some.inj hg
    exact W.ret (Ends.of [] (by kernel_rfl))
  refine W.seq ?_
  refine W.regG ?_
  refine RG.fin 2 [(3, 3), (5, 5)] (envOf [(3, .pt 3 [] 0 0), (5, .pt 5 [] 0 0), (7, Bl (a0.Kind_ == (1))), (43, Bl (a1 == (7)))]) [(3, ⟨2, [[I64 a0.Kind_, I64 a0.Param_]]⟩), (5, ⟨2, [[I64 a2.Kind_, I64 a2.Param_]]⟩)] (by kernel_rfl) ?_
  refine W.condB (b := (a1 == (7))) (by kernel_rfl) hg (fun hg => ?_) (fun hg => ?_)
  · refine W.seq ?_
    refine W.regG ?_
    refine RG.cut 4 [(5, 5)] [5, 7, 48, 49, 50, 51, 52, 53, 54] (envOf [(5, .pt 5 [] 0 0), (7, Bl (a0.Kind_ == (1))), (48, Bl (a0.Kind_ == a2.Kind_ && (a0.Param_ == a2.Param_ && true))), (49, .un), (50, .un), (51, .un), (52, .un), (53, .un), (54, .un)]) [(5, ⟨2, [[I64 a2.Kind_, I64 a2.Param_]]⟩)] (by kernel_rfl) ?_
    refine RG.guard (s := 48) (by kernel_rfl) hg (fun hg => ?_) (fun hg => ?_)
    · refine RG.fin 8 [] (envOf [(6, Bl true)]) [] (by kernel_rfl) ?_
      obtain rfl := Option.some.inj hg
      exact W.ret (Ends.of [] (by kernel_rfl))
    refine RG.cut 2 [(5, 5)] [5, 48, 50, 51, 52, 53, 54] (envOf [(5, .pt 5 [] 0 0), (48, Bl false), (50, Bl (a0.Kind_ == (1))), (51, .un), (52, .un), (53, .un), (54, .un)]) [(5, ⟨2, [[I64 a2.Kind_, I64 a2.Param_]]⟩)] (by kernel_rfl) ?_
    refine RG.guard (s := 50) (by kernel_rfl) hg (fun hg => ?_) (fun hg => ?_)
    · refine RG.fin 6 [] (envOf [(6, Bl (a2.Kind_ == (3)))]) [] (by kernel_rfl) ?_
      obtain rfl := Option.some.inj hg
      exact W.ret (Ends.of [] (by kernel_rfl))
    refine RG.fin 6 [] (envOf [(6, Bl false)]) [] (by kernel_rfl) ?_
    obtain rfl := Option.some.inj hg
    exact W.ret (Ends.of [] (by kernel_rfl))
  refine W.skip ?_
  refine W.seq ?_
  refine W.regG ?_
  refine RG.fin 1 [] (envOf [(6, Bl true)]) [] (by kernel_rfl) ?_
  obtain rfl := Option.some.inj hg
  exact W.ret (Ends.of [] (by kernel_rfl))
def g35_b1 (n : Nat) (a0_0 : (List T_api_Param)) (a0_1 : (List T_api_Type)) (a0_2 : (List T_api_Slot)) (a0_3 : (List T_api_Inst)) (a0_4 : (List Bool)) (a0_5 : (List (List Int))) (a0_6 : (List Int)) (a1 : T_api_Inst) (v1 : T_ir_row × Bool) (s1 : Int × Int × Int × Int × Int) : Option (Bo (Int × Int × Int × Int × Int) (Int × Bool × Int × Int × Int × Int) Bool) := bif (decide (s1.1 < (4))) then (idx [v1.1.d_, v1.1.a_, v1.1.b_, v1.1.c_] s1.1).bind fun y1 => (idx [a1.D_, a1.A_, a1.B_, a1.C_] s1.1).bind fun y2 => bif (y1 == (0)) then bif (y2 != (0)) then some (.ret false) else some (.go ((IntKind.i64.wrap (s1.1 + (1))), s1.2.1, s1.2.2.1, s1.2.2.2.1, s1.2.2.2.2)) else (g53 a0_0 a0_1 a0_2 a0_3 a0_4 a0_5 a0_6 y2).bind fun v4 => bif (!v4.2) then some (.ret false) else (g54 v4.1 y1 (⟨s1.2.1, s1.2.2.1⟩ : T_api_Type)).bind fun v5 => bif (!v5) then some (.ret false) else bif (s1.1 == (0)) then some (.go ((IntKind.i64.wrap (s1.1 + (1))), v4.1.Kind_, v4.1.Param_, v4.1.Kind_, v4.1.Param_)) else bif (s1.1 == (1)) then bif (v1.1.d_ == (0)) then some (.go ((IntKind.i64.wrap (s1.1 + (1))), s1.2.1, s1.2.2.1, v4.1.Kind_, v4.1.Param_)) else some (.go ((IntKind.i64.wrap (s1.1 + (1))), s1.2.1, s1.2.2.1, s1.2.2.2.1, s1.2.2.2.2)) else some (.go ((IntKind.i64.wrap (s1.1 + (1))), s1.2.1, s1.2.2.1, s1.2.2.2.1, s1.2.2.2.2)) else some (.out (s1.1, (decide (s1.1 < (4))), s1.2.1, s1.2.2.1, s1.2.2.2.1, s1.2.2.2.2))
def g35 (n : Nat) (a0_0 : (List T_api_Param)) (a0_1 : (List T_api_Type)) (a0_2 : (List T_api_Slot)) (a0_3 : (List T_api_Inst)) (a0_4 : (List Bool)) (a0_5 : (List (List Int))) (a0_6 : (List Int)) (a1 : T_api_Inst) : Option Bool := (g26 a1.Op_).bind fun v1 => bif (!v1.2) then some false else (iter (g35_b1 n a0_0 a0_1 a0_2 a0_3 a0_4 a0_5 a0_6 a1 v1) n ((0), (0), (0), (0), (0))).bind (Bo.then (fun t1 => joinJ (fun p1 : Bool => bif (v1.1.n_ == (1)) then bif (decide (a1.N_ ≥ (0))) then some (decide (a1.N_ ≤ (2147483647))) else some false else bif (v1.1.n_ == (2)) then bif (a1.N_ == (0)) then some true else bif (a1.N_ == (1)) then (idx a0_0 t1.2.2.2.2.2).bind fun y3 => some (y3.Kind_ == (2)) else some false else bif (v1.1.n_ == (3)) then bif (decide (a1.N_ ≥ (0))) then bif (decide (a1.N_ < ((a0_2.map c_T_api_Slot).length : Int))) then (idx a0_2 a1.N_).bind fun y4 => some (y4.Type_.Kind_ == t1.2.2.2.2.1 && (y4.Type_.Param_ == t1.2.2.2.2.2 && true)) else some false else some false else bif (v1.1.n_ == (4)) then bif (decide (a1.N_ ≥ (0))) then some (decide (a1.N_ < ((a0_0.map c_T_api_Param).length : Int))) else some false else some (a1.N_ == (0))) fun J1 => bif (a1.Op_ == (1)) then (g52 a1.Bits_).bind fun v6 => bif (!v6) then some false else bif (a1.Op_ != (1)) then bif (a1.Bits_ != (0)) then some false else J1 (a1.Bits_ != (0)) else J1 false else bif (a1.Op_ != (1)) then bif (a1.Bits_ != (0)) then some false else J1 (a1.Bits_ != (0)) else J1 false) some)
theorem g35_ok (n : Nat) (a0_0 : (List T_api_Param)) (a0_1 : (List T_api_Type)) (a0_2 : (List T_api_Slot)) (a0_3 : (List T_api_Inst)) (a0_4 : (List Bool)) (a0_5 : (List (List Int))) (a0_6 : (List Int)) (a1 : T_api_Inst) (r : Bool) (hg : g35 n a0_0 a0_1 a0_2 a0_3 a0_4 a0_5 a0_6 a1 = some r) : CallG Go.Proofs.Try.prog 35 [.pt 200000 [] 0 0, .ag [I64 a1.Op_, I64 a1.D_, I64 a1.A_, I64 a1.B_, I64 a1.C_, I64 a1.N_, .sc (.int .u32 a1.Bits_)]] [(200000, ⟨7, [[.im 3 (a0_0.map c_T_api_Param), .im 2 (a0_1.map c_T_api_Type), .im 5 (a0_2.map c_T_api_Slot), .im 7 (a0_3.map c_T_api_Inst), .ow 1 (a0_4.map c_bool), .ow 1 (a0_5.map o_L7), .ow 1 (a0_6.map c_i64)]]⟩)] (Bl r) [(200000, ⟨7, [[.im 3 (a0_0.map c_T_api_Param), .im 2 (a0_1.map c_T_api_Type), .im 5 (a0_2.map c_T_api_Slot), .im 7 (a0_3.map c_T_api_Inst), .ow 1 (a0_4.map c_bool), .ow 1 (a0_5.map o_L7), .ow 1 (a0_6.map c_i64)]]⟩)] := by
  unfold g35 at hg
  refine .of_S [0, 1] (envOf [(0, .pt 200000 [] 0 0), (1, .ag [I64 a1.Op_, I64 a1.D_, I64 a1.A_, I64 a1.B_, I64 a1.C_, I64 a1.N_, .sc (.int .u32 a1.Bits_)])]) fn35 (by kernel_rfl) ?_
  refine W.seq ?_
  refine W.regG ?_
  refine RG.fin 2 [(3, 3), (200000, 200000)] (envOf [(0, .pt 200000 [] 0 0), (3, .pt 3 [] 0 0)]) [(3, ⟨7, [[I64 a1.Op_, I64 a1.D_, I64 a1.A_, I64 a1.B_, I64 a1.C_, I64 a1.N_, .sc (.int .u32 a1.Bits_)]]⟩), (200000, ⟨7, [[.im 3 (a0_0.map c_T_api_Param), .im 2 (a0_1.map c_T_api_Type), .im 5 (a0_2.map c_T_api_Slot), .im 7 (a0_3.map c_T_api_Inst), .ow 1 (a0_4.map c_bool), .ow 1 (a0_5.map o_L7), .ow 1 (a0_6.map c_i64)]]⟩)] (by kernel_rfl) ?_
  refine W.seq ?_
  refine W.regG ?_
  refine RG.cut 2 [(3, 3), (200000, 200000)] [0, 3, 16] (envOf [(0, .pt 200000 [] 0 0), (3, .pt 3 [] 0 0), (16, I64 a1.Op_)]) [(3, ⟨7, [[I64 a1.Op_, I64 a1.D_, I64 a1.A_, I64 a1.B_, I64 a1.C_, I64 a1.N_, .sc (.int .u32 a1.Bits_)]]⟩), (200000, ⟨7, [[.im 3 (a0_0.map c_T_api_Param), .im 2 (a0_1.map c_T_api_Type), .im 5 (a0_2.map c_T_api_Slot), .im 7 (a0_3.map c_T_api_Inst), .ow 1 (a0_4.map c_bool), .ow 1 (a0_5.map o_L7), .ow 1 (a0_6.map c_i64)]]⟩)] (by kernel_rfl) ?_
  refine RG.callP [] [(3, 3), (200000, 200000)] [0, 3, 17] false [I64 a1.Op_] (fun v1 => .tu [.ag [I64 v1.1.d_, I64 v1.1.a_, I64 v1.1.b_, I64 v1.1.c_, I64 v1.1.n_], Bl v1.2]) (fun v1 => []) (fun v1 => envOf [(0, .pt 200000 [] 0 0), (3, .pt 3 [] 0 0), (17, .tu [.ag [I64 v1.1.d_, I64 v1.1.a_, I64 v1.1.b_, I64 v1.1.c_, I64 v1.1.n_], Bl v1.2])]) (fun v1 => [(3, ⟨7, [[I64 a1.Op_, I64 a1.D_, I64 a1.A_, I64 a1.B_, I64 a1.C_, I64 a1.N_, .sc (.int .u32 a1.Bits_)]]⟩), (200000, ⟨7, [[.im 3 (a0_0.map c_T_api_Param), .im 2 (a0_1.map c_T_api_Type), .im 5 (a0_2.map c_T_api_Slot), .im 7 (a0_3.map c_T_api_Inst), .ow 1 (a0_4.map c_bool), .ow 1 (a0_5.map o_L7), .ow 1 (a0_6.map c_i64)]]⟩)]) (by kernel_rfl) hg (by kernel_rfl) (fun v1 hv => CallOk.toG (g26_ok a1.Op_ v1 hv)) (by kernel_rfl) (fun v1 => by kernel_rfl) (fun h => by cases h) (fun v1 hv hg => ?_)
  refine RG.fin 6 [(3, 3), (5, 5), (200000, 200000)] (envOf [(0, .pt 200000 [] 0 0), (3, .pt 3 [] 0 0), (5, .pt 5 [] 0 0), (6, Bl v1.2)]) [(3, ⟨7, [[I64 a1.Op_, I64 a1.D_, I64 a1.A_, I64 a1.B_, I64 a1.C_, I64 a1.N_, .sc (.int .u32 a1.Bits_)]]⟩), (5, ⟨5, [[I64 v1.1.d_, I64 v1.1.a_, I64 v1.1.b_, I64 v1.1.c_, I64 v1.1.n_]]⟩), (200000, ⟨7, [[.im 3 (a0_0.map c_T_api_Param), .im 2 (a0_1.map c_T_api_Type), .im 5 (a0_2.map c_T_api_Slot), .im 7 (a0_3.map c_T_api_Inst), .ow 1 (a0_4.map c_bool), .ow 1 (a0_5.map o_L7), .ow 1 (a0_6.map c_i64)]]⟩)] (by kernel_rfl) ?_
  refine W.seq ?_
  refine W.seq ?_
  refine W.regG ?_
  refine RG.fin 2 [(3, 3), (5, 5), (200000, 200000)] (envOf [(0, .pt 200000 [] 0 0), (3, .pt 3 [] 0 0), (5, .pt 5 [] 0 0), (21, Bl (!v1.2))]) [(3, ⟨7, [[I64 a1.Op_, I64 a1.D_, I64 a1.A_, I64 a1.B_, I64 a1.C_, I64 a1.N_, .sc (.int .u32 a1.Bits_)]]⟩), (5, ⟨5, [[I64 v1.1.d_, I64 v1.1.a_, I64 v1.1.b_, I64 v1.1.c_, I64 v1.1.n_]]⟩), (200000, ⟨7, [[.im 3 (a0_0.map c_T_api_Param), .im 2 (a0_1.map c_T_api_Type), .im 5 (a0_2.map c_T_api_Slot), .im 7 (a0_3.map c_T_api_Inst), .ow 1 (a0_4.map c_bool), .ow 1 (a0_5.map o_L7), .ow 1 (a0_6.map c_i64)]]⟩)] (by kernel_rfl) ?_
  refine W.condB (b := (!v1.2)) (by kernel_rfl) hg (fun hg => ?_) (fun hg => ?_)
  · refine W.seq ?_
    refine W.regG ?_
    refine RG.fin 1 [(200000, 200000)] (envOf [(4, Bl false)]) [(200000, ⟨7, [[.im 3 (a0_0.map c_T_api_Param), .im 2 (a0_1.map c_T_api_Type), .im 5 (a0_2.map c_T_api_Slot), .im 7 (a0_3.map c_T_api_Inst), .ow 1 (a0_4.map c_bool), .ow 1 (a0_5.map o_L7), .ow 1 (a0_6.map c_i64)]]⟩)] (by kernel_rfl) ?_
    obtain rfl := Option.some.inj hg
    exact W.ret (Ends.of [(200000, 200000)] (by kernel_rfl))
  refine W.skip ?_
  refine W.seq ?_
  refine W.regG ?_
  refine RG.fin 2 [(3, 3), (5, 5), (7, 7), (8, 8), (200000, 200000)] (envOf [(0, .pt 200000 [] 0 0), (3, .pt 3 [] 0 0), (5, .pt 5 [] 0 0), (7, .pt 7 [] 0 0), (8, .pt 8 [] 0 0)]) [(3, ⟨7, [[I64 a1.Op_, I64 a1.D_, I64 a1.A_, I64 a1.B_, I64 a1.C_, I64 a1.N_, .sc (.int .u32 a1.Bits_)]]⟩), (5, ⟨5, [[I64 v1.1.d_, I64 v1.1.a_, I64 v1.1.b_, I64 v1.1.c_, I64 v1.1.n_]]⟩), (7, ⟨2, [[I64 (0), I64 (0)]]⟩), (8, ⟨2, [[I64 (0), I64 (0)]]⟩), (200000, ⟨7, [[.im 3 (a0_0.map c_T_api_Param), .im 2 (a0_1.map c_T_api_Type), .im 5 (a0_2.map c_T_api_Slot), .im 7 (a0_3.map c_T_api_Inst), .ow 1 (a0_4.map c_bool), .ow 1 (a0_5.map o_L7), .ow 1 (a0_6.map c_i64)]]⟩)] (by kernel_rfl) ?_
  refine W.seq ?_
  refine W.seq ?_
  refine W.regG ?_
  refine RG.fin 10 [(3, 3), (5, 5), (7, 7), (8, 8), (200000, 200000)] (envOf [(0, .pt 200000 [] 0 0), (3, .pt 3 [] 0 0), (5, .pt 5 [] 0 0), (7, .pt 7 [] 0 0), (8, .pt 8 [] 0 0), (30, .ag [I64 v1.1.d_, I64 v1.1.a_, I64 v1.1.b_, I64 v1.1.c_]), (31, I64 (0))]) [(3, ⟨7, [[I64 a1.Op_, I64 a1.D_, I64 a1.A_, I64 a1.B_, I64 a1.C_, I64 a1.N_, .sc (.int .u32 a1.Bits_)]]⟩), (5, ⟨5, [[I64 v1.1.d_, I64 v1.1.a_, I64 v1.1.b_, I64 v1.1.c_, I64 v1.1.n_]]⟩), (7, ⟨2, [[I64 (0), I64 (0)]]⟩), (8, ⟨2, [[I64 (0), I64 (0)]]⟩), (200000, ⟨7, [[.im 3 (a0_0.map c_T_api_Param), .im 2 (a0_1.map c_T_api_Type), .im 5 (a0_2.map c_T_api_Slot), .im 7 (a0_3.map c_T_api_Inst), .ow 1 (a0_4.map c_bool), .ow 1 (a0_5.map o_L7), .ow 1 (a0_6.map c_i64)]]⟩)] (by kernel_rfl) ?_
  refine W.norm [(3, 3), (5, 5), (7, 7), (8, 8), (200000, 200000)] [0, 3, 5, 7, 8, 30, 31] (envOf [(0, .pt 200000 [] 0 0), (3, .pt 3 [] 0 0), (5, .pt 5 [] 0 0), (7, .pt 7 [] 0 0), (8, .pt 8 [] 0 0), (30, .ag [I64 v1.1.d_, I64 v1.1.a_, I64 v1.1.b_, I64 v1.1.c_]), (31, I64 (0))]) [(3, ⟨7, [[I64 a1.Op_, I64 a1.D_, I64 a1.A_, I64 a1.B_, I64 a1.C_, I64 a1.N_, .sc (.int .u32 a1.Bits_)]]⟩), (5, ⟨5, [[I64 v1.1.d_, I64 v1.1.a_, I64 v1.1.b_, I64 v1.1.c_, I64 v1.1.n_]]⟩), (7, ⟨2, [[I64 (0), I64 (0)]]⟩), (8, ⟨2, [[I64 (0), I64 (0)]]⟩), (200000, ⟨7, [[.im 3 (a0_0.map c_T_api_Param), .im 2 (a0_1.map c_T_api_Type), .im 5 (a0_2.map c_T_api_Slot), .im 7 (a0_3.map c_T_api_Inst), .ow 1 (a0_4.map c_bool), .ow 1 (a0_5.map o_L7), .ow 1 (a0_6.map c_i64)]]⟩)] (by kernel_rfl) ?_
  refine W.loopB (fun s1 : Int × Int × Int × Int × Int => envOf [(0, .pt 200000 [] 0 0), (3, .pt 3 [] 0 0), (5, .pt 5 [] 0 0), (7, .pt 7 [] 0 0), (8, .pt 8 [] 0 0), (30, .ag [I64 v1.1.d_, I64 v1.1.a_, I64 v1.1.b_, I64 v1.1.c_]), (31, I64 s1.1)]) (fun s1 : Int × Int × Int × Int × Int => [(3, ⟨7, [[I64 a1.Op_, I64 a1.D_, I64 a1.A_, I64 a1.B_, I64 a1.C_, I64 a1.N_, .sc (.int .u32 a1.Bits_)]]⟩), (5, ⟨5, [[I64 v1.1.d_, I64 v1.1.a_, I64 v1.1.b_, I64 v1.1.c_, I64 v1.1.n_]]⟩), (7, ⟨2, [[I64 s1.2.1, I64 s1.2.2.1]]⟩), (8, ⟨2, [[I64 s1.2.2.2.1, I64 s1.2.2.2.2]]⟩), (200000, ⟨7, [[.im 3 (a0_0.map c_T_api_Param), .im 2 (a0_1.map c_T_api_Type), .im 5 (a0_2.map c_T_api_Slot), .im 7 (a0_3.map c_T_api_Inst), .ow 1 (a0_4.map c_bool), .ow 1 (a0_5.map o_L7), .ow 1 (a0_6.map c_i64)]]⟩)]) (fun t1 : Int × Bool × Int × Int × Int × Int => envOf [(0, .pt 200000 [] 0 0), (3, .pt 3 [] 0 0), (5, .pt 5 [] 0 0), (7, .pt 7 [] 0 0), (8, .pt 8 [] 0 0), (30, .ag [I64 v1.1.d_, I64 v1.1.a_, I64 v1.1.b_, I64 v1.1.c_]), (31, I64 t1.1), (32, Bl t1.2.1)]) (fun t1 : Int × Bool × Int × Int × Int × Int => [(3, ⟨7, [[I64 a1.Op_, I64 a1.D_, I64 a1.A_, I64 a1.B_, I64 a1.C_, I64 a1.N_, .sc (.int .u32 a1.Bits_)]]⟩), (5, ⟨5, [[I64 v1.1.d_, I64 v1.1.a_, I64 v1.1.b_, I64 v1.1.c_, I64 v1.1.n_]]⟩), (7, ⟨2, [[I64 t1.2.2.1, I64 t1.2.2.2.1]]⟩), (8, ⟨2, [[I64 t1.2.2.2.2.1, I64 t1.2.2.2.2.2]]⟩), (200000, ⟨7, [[.im 3 (a0_0.map c_T_api_Param), .im 2 (a0_1.map c_T_api_Type), .im 5 (a0_2.map c_T_api_Slot), .im 7 (a0_3.map c_T_api_Inst), .ow 1 (a0_4.map c_bool), .ow 1 (a0_5.map o_L7), .ow 1 (a0_6.map c_i64)]]⟩)]) (fun (r : Bool) e h => Ends [.t 4] [(200000, ⟨7, [[.im 3 (a0_0.map c_T_api_Param), .im 2 (a0_1.map c_T_api_Type), .im 5 (a0_2.map c_T_api_Slot), .im 7 (a0_3.map c_T_api_Inst), .ow 1 (a0_4.map c_bool), .ow 1 (a0_5.map o_L7), .ow 1 (a0_6.map c_i64)]]⟩)] (Bl r) [(200000, ⟨7, [[.im 3 (a0_0.map c_T_api_Param), .im 2 (a0_1.map c_T_api_Type), .im 5 (a0_2.map c_T_api_Slot), .im 7 (a0_3.map c_T_api_Inst), .ow 1 (a0_4.map c_bool), .ow 1 (a0_5.map o_L7), .ow 1 (a0_6.map c_i64)]]⟩)] .ret e h) hg (by kernel_rfl) (by kernel_rfl) (fun s1 bb hg => ?_) (fun r' hr e h q => by cases hr; exact q) (fun t1 hg => ?_)
  · unfold g35_b1 at hg
    refine W.seq ?_
    refine W.regG ?_
    refine RG.fin 1 [(3, 3), (5, 5), (7, 7), (8, 8), (200000, 200000)] (envOf [(0, .pt 200000 [] 0 0), (3, .pt 3 [] 0 0), (5, .pt 5 [] 0 0), (7, .pt 7 [] 0 0), (8, .pt 8 [] 0 0), (30, .ag [I64 v1.1.d_, I64 v1.1.a_, I64 v1.1.b_, I64 v1.1.c_]), (31, I64 s1.1), (32, Bl (decide (s1.1 < (4))))]) [(3, ⟨7, [[I64 a1.Op_, I64 a1.D_, I64 a1.A_, I64 a1.B_, I64 a1.C_, I64 a1.N_, .sc (.int .u32 a1.Bits_)]]⟩), (5, ⟨5, [[I64 v1.1.d_, I64 v1.1.a_, I64 v1.1.b_, I64 v1.1.c_, I64 v1.1.n_]]⟩), (7, ⟨2, [[I64 s1.2.1, I64 s1.2.2.1]]⟩), (8, ⟨2, [[I64 s1.2.2.2.1, I64 s1.2.2.2.2]]⟩), (200000, ⟨7, [[.im 3 (a0_0.map c_T_api_Param), .im 2 (a0_1.map c_T_api_Type), .im 5 (a0_2.map c_T_api_Slot), .im 7 (a0_3.map c_T_api_Inst), .ow 1 (a0_4.map c_bool), .ow 1 (a0_5.map o_L7), .ow 1 (a0_6.map c_i64)]]⟩)] (by kernel_rfl) ?_
    refine W.seq ?_
    refine W.condB (b := (decide (s1.1 < (4)))) (by kernel_rfl) hg (fun hg => ?_) (fun hg => ?_)
    · refine W.skip ?_
      refine W.seq ?_
      refine W.block ?_
      refine W.seq ?_
      refine W.regG ?_
      refine RG.cut 1 [(3, 3), (5, 5), (7, 7), (8, 8), (200000, 200000)] [0, 3, 5, 7, 8, 30, 31, 33] (envOf [(0, .pt 200000 [] 0 0), (3, .pt 3 [] 0 0), (5, .pt 5 [] 0 0), (7, .pt 7 [] 0 0), (8, .pt 8 [] 0 0), (30, .ag [I64 v1.1.d_, I64 v1.1.a_, I64 v1.1.b_, I64 v1.1.c_]), (31, I64 s1.1), (33, I64 s1.1)]) [(3, ⟨7, [[I64 a1.Op_, I64 a1.D_, I64 a1.A_, I64 a1.B_, I64 a1.C_, I64 a1.N_, .sc (.int .u32 a1.Bits_)]]⟩), (5, ⟨5, [[I64 v1.1.d_, I64 v1.1.a_, I64 v1.1.b_, I64 v1.1.c_, I64 v1.1.n_]]⟩), (7, ⟨2, [[I64 s1.2.1, I64 s1.2.2.1]]⟩), (8, ⟨2, [[I64 s1.2.2.2.1, I64 s1.2.2.2.2]]⟩), (200000, ⟨7, [[.im 3 (a0_0.map c_T_api_Param), .im 2 (a0_1.map c_T_api_Type), .im 5 (a0_2.map c_T_api_Slot), .im 7 (a0_3.map c_T_api_Inst), .ow 1 (a0_4.map c_bool), .ow 1 (a0_5.map o_L7), .ow 1 (a0_6.map c_i64)]]⟩)] (by kernel_rfl) ?_
      refine RG.ida (c := c_i64) (ys := [v1.1.d_, v1.1.a_, v1.1.b_, v1.1.c_]) (i := s1.1) (k := .i64) (cs := [I64 v1.1.d_, I64 v1.1.a_, I64 v1.1.b_, I64 v1.1.c_]) (fun y1 => I64 y1) (by kernel_rfl) (by kernel_rfl) (by kernel_rfl) (by kernel_rfl) (fun _ => by kernel_rfl) (by kernel_rfl) (fun _ => by kernel_rfl) hg (fun y1 _ hg => ?_)
      refine RG.fin 2 [(3, 3), (5, 5), (7, 7), (8, 8), (200000, 200000)] (envOf [(0, .pt 200000 [] 0 0), (3, .pt 3 [] 0 0), (5, .pt 5 [] 0 0), (7, .pt 7 [] 0 0), (8, .pt 8 [] 0 0), (9, I64 s1.1), (10, I64 y1), (30, .ag [I64 v1.1.d_, I64 v1.1.a_, I64 v1.1.b_, I64 v1.1.c_]), (31, I64 s1.1)]) [(3, ⟨7, [[I64 a1.Op_, I64 a1.D_, I64 a1.A_, I64 a1.B_, I64 a1.C_, I64 a1.N_, .sc (.int .u32 a1.Bits_)]]⟩), (5, ⟨5, [[I64 v1.1.d_, I64 v1.1.a_, I64 v1.1.b_, I64 v1.1.c_, I64 v1.1.n_]]⟩), (7, ⟨2, [[I64 s1.2.1, I64 s1.2.2.1]]⟩), (8, ⟨2, [[I64 s1.2.2.2.1, I64 s1.2.2.2.2]]⟩), (200000, ⟨7, [[.im 3 (a0_0.map c_T_api_Param), .im 2 (a0_1.map c_T_api_Type), .im 5 (a0_2.map c_T_api_Slot), .im 7 (a0_3.map c_T_api_Inst), .ow 1 (a0_4.map c_bool), .ow 1 (a0_5.map o_L7), .ow 1 (a0_6.map c_i64)]]⟩)] (by kernel_rfl) ?_
      refine W.seq ?_
      refine W.regG ?_
      refine RG.cut 10 [(3, 3), (5, 5), (7, 7), (8, 8), (200000, 200000)] [0, 3, 5, 7, 8, 9, 10, 30, 31, 43, 44] (envOf [(0, .pt 200000 [] 0 0), (3, .pt 3 [] 0 0), (5, .pt 5 [] 0 0), (7, .pt 7 [] 0 0), (8, .pt 8 [] 0 0), (9, I64 s1.1), (10, I64 y1), (30, .ag [I64 v1.1.d_, I64 v1.1.a_, I64 v1.1.b_, I64 v1.1.c_]), (31, I64 s1.1), (43, .ag [I64 a1.D_, I64 a1.A_, I64 a1.B_, I64 a1.C_]), (44, I64 s1.1)]) [(3, ⟨7, [[I64 a1.Op_, I64 a1.D_, I64 a1.A_, I64 a1.B_, I64 a1.C_, I64 a1.N_, .sc (.int .u32 a1.Bits_)]]⟩), (5, ⟨5, [[I64 v1.1.d_, I64 v1.1.a_, I64 v1.1.b_, I64 v1.1.c_, I64 v1.1.n_]]⟩), (7, ⟨2, [[I64 s1.2.1, I64 s1.2.2.1]]⟩), (8, ⟨2, [[I64 s1.2.2.2.1, I64 s1.2.2.2.2]]⟩), (200000, ⟨7, [[.im 3 (a0_0.map c_T_api_Param), .im 2 (a0_1.map c_T_api_Type), .im 5 (a0_2.map c_T_api_Slot), .im 7 (a0_3.map c_T_api_Inst), .ow 1 (a0_4.map c_bool), .ow 1 (a0_5.map o_L7), .ow 1 (a0_6.map c_i64)]]⟩)] (by kernel_rfl) ?_
      refine RG.ida (c := c_i64) (ys := [a1.D_, a1.A_, a1.B_, a1.C_]) (i := s1.1) (k := .i64) (cs := [I64 a1.D_, I64 a1.A_, I64 a1.B_, I64 a1.C_]) (fun y2 => I64 y2) (by kernel_rfl) (by kernel_rfl) (by kernel_rfl) (by kernel_rfl) (fun _ => by kernel_rfl) (by kernel_rfl) (fun _ => by kernel_rfl) hg (fun y2 _ hg => ?_)
      refine RG.fin 1 [(3, 3), (5, 5), (7, 7), (8, 8), (200000, 200000)] (envOf [(0, .pt 200000 [] 0 0), (3, .pt 3 [] 0 0), (5, .pt 5 [] 0 0), (7, .pt 7 [] 0 0), (8, .pt 8 [] 0 0), (9, I64 s1.1), (10, I64 y1), (11, I64 y2), (30, .ag [I64 v1.1.d_, I64 v1.1.a_, I64 v1.1.b_, I64 v1.1.c_]), (31, I64 s1.1)]) [(3, ⟨7, [[I64 a1.Op_, I64 a1.D_, I64 a1.A_, I64 a1.B_, I64 a1.C_, I64 a1.N_, .sc (.int .u32 a1.Bits_)]]⟩), (5, ⟨5, [[I64 v1.1.d_, I64 v1.1.a_, I64 v1.1.b_, I64 v1.1.c_, I64 v1.1.n_]]⟩), (7, ⟨2, [[I64 s1.2.1, I64 s1.2.2.1]]⟩), (8, ⟨2, [[I64 s1.2.2.2.1, I64 s1.2.2.2.2]]⟩), (200000, ⟨7, [[.im 3 (a0_0.map c_T_api_Param), .im 2 (a0_1.map c_T_api_Type), .im 5 (a0_2.map c_T_api_Slot), .im 7 (a0_3.map c_T_api_Inst), .ow 1 (a0_4.map c_bool), .ow 1 (a0_5.map o_L7), .ow 1 (a0_6.map c_i64)]]⟩)] (by kernel_rfl) ?_
      refine W.seq ?_
      refine W.seq ?_
      refine W.regG ?_
      refine RG.fin 2 [(3, 3), (5, 5), (7, 7), (8, 8), (200000, 200000)] (envOf [(0, .pt 200000 [] 0 0), (3, .pt 3 [] 0 0), (5, .pt 5 [] 0 0), (7, .pt 7 [] 0 0), (8, .pt 8 [] 0 0), (9, I64 s1.1), (10, I64 y1), (11, I64 y2), (30, .ag [I64 v1.1.d_, I64 v1.1.a_, I64 v1.1.b_, I64 v1.1.c_]), (31, I64 s1.1), (47, Bl (y1 == (0)))]) [(3, ⟨7, [[I64 a1.Op_, I64 a1.D_, I64 a1.A_, I64 a1.B_, I64 a1.C_, I64 a1.N_, .sc (.int .u32 a1.Bits_)]]⟩), (5, ⟨5, [[I64 v1.1.d_, I64 v1.1.a_, I64 v1.1.b_, I64 v1.1.c_, I64 v1.1.n_]]⟩), (7, ⟨2, [[I64 s1.2.1, I64 s1.2.2.1]]⟩), (8, ⟨2, [[I64 s1.2.2.2.1, I64 s1.2.2.2.2]]⟩), (200000, ⟨7, [[.im 3 (a0_0.map c_T_api_Param), .im 2 (a0_1.map c_T_api_Type), .im 5 (a0_2.map c_T_api_Slot), .im 7 (a0_3.map c_T_api_Inst), .ow 1 (a0_4.map c_bool), .ow 1 (a0_5.map o_L7), .ow 1 (a0_6.map c_i64)]]⟩)] (by kernel_rfl) ?_
      refine W.condB (b := (y1 == (0))) (by kernel_rfl) hg (fun hg => ?_) (fun hg => ?_)
      · refine W.seq ?_
        refine W.seq ?_
        refine W.regG ?_
        refine RG.fin 2 [(3, 3), (5, 5), (7, 7), (8, 8), (200000, 200000)] (envOf [(0, .pt 200000 [] 0 0), (3, .pt 3 [] 0 0), (5, .pt 5 [] 0 0), (7, .pt 7 [] 0 0), (8, .pt 8 [] 0 0), (30, .ag [I64 v1.1.d_, I64 v1.1.a_, I64 v1.1.b_, I64 v1.1.c_]), (31, I64 s1.1), (49, Bl (y2 != (0)))]) [(3, ⟨7, [[I64 a1.Op_, I64 a1.D_, I64 a1.A_, I64 a1.B_, I64 a1.C_, I64 a1.N_, .sc (.int .u32 a1.Bits_)]]⟩), (5, ⟨5, [[I64 v1.1.d_, I64 v1.1.a_, I64 v1.1.b_, I64 v1.1.c_, I64 v1.1.n_]]⟩), (7, ⟨2, [[I64 s1.2.1, I64 s1.2.2.1]]⟩), (8, ⟨2, [[I64 s1.2.2.2.1, I64 s1.2.2.2.2]]⟩), (200000, ⟨7, [[.im 3 (a0_0.map c_T_api_Param), .im 2 (a0_1.map c_T_api_Type), .im 5 (a0_2.map c_T_api_Slot), .im 7 (a0_3.map c_T_api_Inst), .ow 1 (a0_4.map c_bool), .ow 1 (a0_5.map o_L7), .ow 1 (a0_6.map c_i64)]]⟩)] (by kernel_rfl) ?_
        refine W.condB (b := (y2 != (0))) (by kernel_rfl) hg (fun hg => ?_) (fun hg => ?_)
        · refine W.seq ?_
          refine W.regG ?_
          refine RG.fin 1 [(200000, 200000)] (envOf [(4, Bl false)]) [(200000, ⟨7, [[.im 3 (a0_0.map c_T_api_Param), .im 2 (a0_1.map c_T_api_Type), .im 5 (a0_2.map c_T_api_Slot), .im 7 (a0_3.map c_T_api_Inst), .ow 1 (a0_4.map c_bool), .ow 1 (a0_5.map o_L7), .ow 1 (a0_6.map c_i64)]]⟩)] (by kernel_rfl) ?_
          obtain rfl := Option.some.inj hg
          exact W.ret ⟨rfl, Ends.of [(200000, 200000)] (by kernel_rfl)⟩
        refine W.skip ?_
        refine W.exit ?_
        refine W.regG ?_
        refine RG.fin 2 [(3, 3), (5, 5), (7, 7), (8, 8), (200000, 200000)] (envOf [(0, .pt 200000 [] 0 0), (3, .pt 3 [] 0 0), (5, .pt 5 [] 0 0), (7, .pt 7 [] 0 0), (8, .pt 8 [] 0 0), (30, .ag [I64 v1.1.d_, I64 v1.1.a_, I64 v1.1.b_, I64 v1.1.c_]), (31, I64 (IntKind.i64.wrap (s1.1 + (1))))]) [(3, ⟨7, [[I64 a1.Op_, I64 a1.D_, I64 a1.A_, I64 a1.B_, I64 a1.C_, I64 a1.N_, .sc (.int .u32 a1.Bits_)]]⟩), (5, ⟨5, [[I64 v1.1.d_, I64 v1.1.a_, I64 v1.1.b_, I64 v1.1.c_, I64 v1.1.n_]]⟩), (7, ⟨2, [[I64 s1.2.1, I64 s1.2.2.1]]⟩), (8, ⟨2, [[I64 s1.2.2.2.1, I64 s1.2.2.2.2]]⟩), (200000, ⟨7, [[.im 3 (a0_0.map c_T_api_Param), .im 2 (a0_1.map c_T_api_Type), .im 5 (a0_2.map c_T_api_Slot), .im 7 (a0_3.map c_T_api_Inst), .ow 1 (a0_4.map c_bool), .ow 1 (a0_5.map o_L7), .ow 1 (a0_6.map c_i64)]]⟩)] (by kernel_rfl) ?_
        obtain rfl := Option.some.inj hg
        exact ⟨rfl, by kernel_rfl, by kernel_rfl⟩
      refine W.skip ?_
      refine W.seq ?_
      refine W.regG ?_
      refine RG.cut 2 [(3, 3), (5, 5), (7, 7), (8, 8), (200000, 200000)] [0, 3, 5, 7, 8, 9, 10, 30, 31, 51, 52] (envOf [(0, .pt 200000 [] 0 0), (3, .pt 3 [] 0 0), (5, .pt 5 [] 0 0), (7, .pt 7 [] 0 0), (8, .pt 8 [] 0 0), (9, I64 s1.1), (10, I64 y1), (30, .ag [I64 v1.1.d_, I64 v1.1.a_, I64 v1.1.b_, I64 v1.1.c_]), (31, I64 s1.1), (51, .pt 200000 [] 0 0), (52, I64 y2)]) [(3, ⟨7, [[I64 a1.Op_, I64 a1.D_, I64 a1.A_, I64 a1.B_, I64 a1.C_, I64 a1.N_, .sc (.int .u32 a1.Bits_)]]⟩), (5, ⟨5, [[I64 v1.1.d_, I64 v1.1.a_, I64 v1.1.b_, I64 v1.1.c_, I64 v1.1.n_]]⟩), (7, ⟨2, [[I64 s1.2.1, I64 s1.2.2.1]]⟩), (8, ⟨2, [[I64 s1.2.2.2.1, I64 s1.2.2.2.2]]⟩), (200000, ⟨7, [[.im 3 (a0_0.map c_T_api_Param), .im 2 (a0_1.map c_T_api_Type), .im 5 (a0_2.map c_T_api_Slot), .im 7 (a0_3.map c_T_api_Inst), .ow 1 (a0_4.map c_bool), .ow 1 (a0_5.map o_L7), .ow 1 (a0_6.map c_i64)]]⟩)] (by kernel_rfl) ?_
      refine RG.call [(200000, 200000)] [(200000, 200000)] [(3, 3), (5, 5), (7, 7), (8, 8), (200000, 200000)] [0, 3, 5, 7, 8, 9, 10, 30, 31, 53] false [.pt 200000 [] 0 0, I64 y2] [(200000, ⟨7, [[.im 3 (a0_0.map c_T_api_Param), .im 2 (a0_1.map c_T_api_Type), .im 5 (a0_2.map c_T_api_Slot), .im 7 (a0_3.map c_T_api_Inst), .ow 1 (a0_4.map c_bool), .ow 1 (a0_5.map o_L7), .ow 1 (a0_6.map c_i64)]]⟩)] [(3, ⟨7, [[I64 a1.Op_, I64 a1.D_, I64 a1.A_, I64 a1.B_, I64 a1.C_, I64 a1.N_, .sc (.int .u32 a1.Bits_)]]⟩), (5, ⟨5, [[I64 v1.1.d_, I64 v1.1.a_, I64 v1.1.b_, I64 v1.1.c_, I64 v1.1.n_]]⟩), (7, ⟨2, [[I64 s1.2.1, I64 s1.2.2.1]]⟩), (8, ⟨2, [[I64 s1.2.2.2.1, I64 s1.2.2.2.2]]⟩)] (fun v4 => .tu [.ag [I64 v4.1.Kind_, I64 v4.1.Param_], Bl v4.2]) (fun v4 => [(200000, ⟨7, [[.im 3 (a0_0.map c_T_api_Param), .im 2 (a0_1.map c_T_api_Type), .im 5 (a0_2.map c_T_api_Slot), .im 7 (a0_3.map c_T_api_Inst), .ow 1 (a0_4.map c_bool), .ow 1 (a0_5.map o_L7), .ow 1 (a0_6.map c_i64)]]⟩)]) (fun v4 => envOf [(0, .pt 200000 [] 0 0), (3, .pt 3 [] 0 0), (5, .pt 5 [] 0 0), (7, .pt 7 [] 0 0), (8, .pt 8 [] 0 0), (9, I64 s1.1), (10, I64 y1), (30, .ag [I64 v1.1.d_, I64 v1.1.a_, I64 v1.1.b_, I64 v1.1.c_]), (31, I64 s1.1), (53, .tu [.ag [I64 v4.1.Kind_, I64 v4.1.Param_], Bl v4.2])]) (fun v4 => [(3, ⟨7, [[I64 a1.Op_, I64 a1.D_, I64 a1.A_, I64 a1.B_, I64 a1.C_, I64 a1.N_, .sc (.int .u32 a1.Bits_)]]⟩), (5, ⟨5, [[I64 v1.1.d_, I64 v1.1.a_, I64 v1.1.b_, I64 v1.1.c_, I64 v1.1.n_]]⟩), (7, ⟨2, [[I64 s1.2.1, I64 s1.2.2.1]]⟩), (8, ⟨2, [[I64 s1.2.2.2.1, I64 s1.2.2.2.2]]⟩), (200000, ⟨7, [[.im 3 (a0_0.map c_T_api_Param), .im 2 (a0_1.map c_T_api_Type), .im 5 (a0_2.map c_T_api_Slot), .im 7 (a0_3.map c_T_api_Inst), .ow 1 (a0_4.map c_bool), .ow 1 (a0_5.map o_L7), .ow 1 (a0_6.map c_i64)]]⟩)]) (by kernel_rfl) hg (by kernel_rfl) (by kernel_rfl) (fun v4 hv => g53_ok a0_0 a0_1 a0_2 a0_3 a0_4 a0_5 a0_6 y2 v4 hv) (by kernel_rfl) (fun v4 => by kernel_rfl) (fun h => by cases h) (fun v4 hv hg => ?_)
      refine RG.fin 6 [(3, 3), (5, 5), (7, 7), (8, 8), (12, 12), (200000, 200000)] (envOf [(0, .pt 200000 [] 0 0), (3, .pt 3 [] 0 0), (5, .pt 5 [] 0 0), (7, .pt 7 [] 0 0), (8, .pt 8 [] 0 0), (9, I64 s1.1), (10, I64 y1), (12, .pt 12 [] 0 0), (13, Bl v4.2), (30, .ag [I64 v1.1.d_, I64 v1.1.a_, I64 v1.1.b_, I64 v1.1.c_]), (31, I64 s1.1)]) [(3, ⟨7, [[I64 a1.Op_, I64 a1.D_, I64 a1.A_, I64 a1.B_, I64 a1.C_, I64 a1.N_, .sc (.int .u32 a1.Bits_)]]⟩), (5, ⟨5, [[I64 v1.1.d_, I64 v1.1.a_, I64 v1.1.b_, I64 v1.1.c_, I64 v1.1.n_]]⟩), (7, ⟨2, [[I64 s1.2.1, I64 s1.2.2.1]]⟩), (8, ⟨2, [[I64 s1.2.2.2.1, I64 s1.2.2.2.2]]⟩), (12, ⟨2, [[I64 v4.1.Kind_, I64 v4.1.Param_]]⟩), (200000, ⟨7, [[.im 3 (a0_0.map c_T_api_Param), .im 2 (a0_1.map c_T_api_Type), .im 5 (a0_2.map c_T_api_Slot), .im 7 (a0_3.map c_T_api_Inst), .ow 1 (a0_4.map c_bool), .ow 1 (a0_5.map o_L7), .ow 1 (a0_6.map c_i64)]]⟩)] (by kernel_rfl) ?_
      refine W.seq ?_
      refine W.seq ?_
      refine W.regG ?_
      refine RG.cut 3 [(3, 3), (5, 5), (7, 7), (8, 8), (12, 12), (200000, 200000)] [0, 3, 5, 7, 8, 9, 10, 12, 30, 31, 58, 59, 60, 61, 62, 63] (envOf [(0, .pt 200000 [] 0 0), (3, .pt 3 [] 0 0), (5, .pt 5 [] 0 0), (7, .pt 7 [] 0 0), (8, .pt 8 [] 0 0), (9, I64 s1.1), (10, I64 y1), (12, .pt 12 [] 0 0), (30, .ag [I64 v1.1.d_, I64 v1.1.a_, I64 v1.1.b_, I64 v1.1.c_]), (31, I64 s1.1), (58, Bl (!v4.2)), (59, .un), (60, .un), (61, .un), (62, .un), (63, .un)]) [(3, ⟨7, [[I64 a1.Op_, I64 a1.D_, I64 a1.A_, I64 a1.B_, I64 a1.C_, I64 a1.N_, .sc (.int .u32 a1.Bits_)]]⟩), (5, ⟨5, [[I64 v1.1.d_, I64 v1.1.a_, I64 v1.1.b_, I64 v1.1.c_, I64 v1.1.n_]]⟩), (7, ⟨2, [[I64 s1.2.1, I64 s1.2.2.1]]⟩), (8, ⟨2, [[I64 s1.2.2.2.1, I64 s1.2.2.2.2]]⟩), (12, ⟨2, [[I64 v4.1.Kind_, I64 v4.1.Param_]]⟩), (200000, ⟨7, [[.im 3 (a0_0.map c_T_api_Param), .im 2 (a0_1.map c_T_api_Type), .im 5 (a0_2.map c_T_api_Slot), .im 7 (a0_3.map c_T_api_Inst), .ow 1 (a0_4.map c_bool), .ow 1 (a0_5.map o_L7), .ow 1 (a0_6.map c_i64)]]⟩)] (by kernel_rfl) ?_
      refine RG.guard (s := 58) (by kernel_rfl) hg (fun hg => ?_) (fun hg => ?_)
      · refine RG.fin 6 [(3, 3), (5, 5), (7, 7), (8, 8), (12, 12), (200000, 200000)] (envOf [(0, .pt 200000 [] 0 0), (3, .pt 3 [] 0 0), (5, .pt 5 [] 0 0), (7, .pt 7 [] 0 0), (8, .pt 8 [] 0 0), (9, I64 s1.1), (12, .pt 12 [] 0 0), (30, .ag [I64 v1.1.d_, I64 v1.1.a_, I64 v1.1.b_, I64 v1.1.c_]), (31, I64 s1.1), (64, Bl true)]) [(3, ⟨7, [[I64 a1.Op_, I64 a1.D_, I64 a1.A_, I64 a1.B_, I64 a1.C_, I64 a1.N_, .sc (.int .u32 a1.Bits_)]]⟩), (5, ⟨5, [[I64 v1.1.d_, I64 v1.1.a_, I64 v1.1.b_, I64 v1.1.c_, I64 v1.1.n_]]⟩), (7, ⟨2, [[I64 s1.2.1, I64 s1.2.2.1]]⟩), (8, ⟨2, [[I64 s1.2.2.2.1, I64 s1.2.2.2.2]]⟩), (12, ⟨2, [[I64 v4.1.Kind_, I64 v4.1.Param_]]⟩), (200000, ⟨7, [[.im 3 (a0_0.map c_T_api_Param), .im 2 (a0_1.map c_T_api_Type), .im 5 (a0_2.map c_T_api_Slot), .im 7 (a0_3.map c_T_api_Inst), .ow 1 (a0_4.map c_bool), .ow 1 (a0_5.map o_L7), .ow 1 (a0_6.map c_i64)]]⟩)] (by kernel_rfl) ?_
        refine W.condT (by kernel_rfl) ?_
        refine W.seq ?_
        refine W.regG ?_
        refine RG.fin 1 [(200000, 200000)] (envOf [(4, Bl false)]) [(200000, ⟨7, [[.im 3 (a0_0.map c_T_api_Param), .im 2 (a0_1.map c_T_api_Type), .im 5 (a0_2.map c_T_api_Slot), .im 7 (a0_3.map c_T_api_Inst), .ow 1 (a0_4.map c_bool), .ow 1 (a0_5.map o_L7), .ow 1 (a0_6.map c_i64)]]⟩)] (by kernel_rfl) ?_
        obtain rfl := Option.some.inj hg
        exact W.ret ⟨rfl, Ends.of [(200000, 200000)] (by kernel_rfl)⟩
      refine RG.cut 3 [(3, 3), (5, 5), (7, 7), (8, 8), (12, 12), (200000, 200000)] [0, 3, 5, 7, 8, 9, 12, 30, 31, 58, 59, 60, 61, 62, 63] (envOf [(0, .pt 200000 [] 0 0), (3, .pt 3 [] 0 0), (5, .pt 5 [] 0 0), (7, .pt 7 [] 0 0), (8, .pt 8 [] 0 0), (9, I64 s1.1), (12, .pt 12 [] 0 0), (30, .ag [I64 v1.1.d_, I64 v1.1.a_, I64 v1.1.b_, I64 v1.1.c_]), (31, I64 s1.1), (58, Bl false), (59, .ag [I64 v4.1.Kind_, I64 v4.1.Param_]), (60, I64 y1), (61, .ag [I64 s1.2.1, I64 s1.2.2.1]), (62, .un), (63, .un)]) [(3, ⟨7, [[I64 a1.Op_, I64 a1.D_, I64 a1.A_, I64 a1.B_, I64 a1.C_, I64 a1.N_, .sc (.int .u32 a1.Bits_)]]⟩), (5, ⟨5, [[I64 v1.1.d_, I64 v1.1.a_, I64 v1.1.b_, I64 v1.1.c_, I64 v1.1.n_]]⟩), (7, ⟨2, [[I64 s1.2.1, I64 s1.2.2.1]]⟩), (8, ⟨2, [[I64 s1.2.2.2.1, I64 s1.2.2.2.2]]⟩), (12, ⟨2, [[I64 v4.1.Kind_, I64 v4.1.Param_]]⟩), (200000, ⟨7, [[.im 3 (a0_0.map c_T_api_Param), .im 2 (a0_1.map c_T_api_Type), .im 5 (a0_2.map c_T_api_Slot), .im 7 (a0_3.map c_T_api_Inst), .ow 1 (a0_4.map c_bool), .ow 1 (a0_5.map o_L7), .ow 1 (a0_6.map c_i64)]]⟩)] (by kernel_rfl) ?_
      refine RG.callP [] [(3, 3), (5, 5), (7, 7), (8, 8), (12, 12), (200000, 200000)] [0, 3, 5, 7, 8, 9, 12, 30, 31, 58, 62, 63] false [.ag [I64 v4.1.Kind_, I64 v4.1.Param_], I64 y1, .ag [I64 ((⟨s1.2.1, s1.2.2.1⟩ : T_api_Type).Kind_), I64 ((⟨s1.2.1, s1.2.2.1⟩ : T_api_Type).Param_)]] (fun v5 => Bl v5) (fun v5 => []) (fun v5 => envOf [(0, .pt 200000 [] 0 0), (3, .pt 3 [] 0 0), (5, .pt 5 [] 0 0), (7, .pt 7 [] 0 0), (8, .pt 8 [] 0 0), (9, I64 s1.1), (12, .pt 12 [] 0 0), (30, .ag [I64 v1.1.d_, I64 v1.1.a_, I64 v1.1.b_, I64 v1.1.c_]), (31, I64 s1.1), (58, Bl false), (62, Bl v5), (63, .un)]) (fun v5 => [(3, ⟨7, [[I64 a1.Op_, I64 a1.D_, I64 a1.A_, I64 a1.B_, I64 a1.C_, I64 a1.N_, .sc (.int .u32 a1.Bits_)]]⟩), (5, ⟨5, [[I64 v1.1.d_, I64 v1.1.a_, I64 v1.1.b_, I64 v1.1.c_, I64 v1.1.n_]]⟩), (7, ⟨2, [[I64 s1.2.1, I64 s1.2.2.1]]⟩), (8, ⟨2, [[I64 s1.2.2.2.1, I64 s1.2.2.2.2]]⟩), (12, ⟨2, [[I64 v4.1.Kind_, I64 v4.1.Param_]]⟩), (200000, ⟨7, [[.im 3 (a0_0.map c_T_api_Param), .im 2 (a0_1.map c_T_api_Type), .im 5 (a0_2.map c_T_api_Slot), .im 7 (a0_3.map c_T_api_Inst), .ow 1 (a0_4.map c_bool), .ow 1 (a0_5.map o_L7), .ow 1 (a0_6.map c_i64)]]⟩)]) (by kernel_rfl) hg (by kernel_rfl) (fun v5 hv => CallOk.toG (g54_ok v4.1 y1 (⟨s1.2.1, s1.2.2.1⟩ : T_api_Type) v5 hv)) (by kernel_rfl) (fun v5 => by kernel_rfl) (fun h => by cases h) (fun v5 hv hg => ?_)
      refine RG.fin 2 [(3, 3), (5, 5), (7, 7), (8, 8), (12, 12), (200000, 200000)] (envOf [(0, .pt 200000 [] 0 0), (3, .pt 3 [] 0 0), (5, .pt 5 [] 0 0), (7, .pt 7 [] 0 0), (8, .pt 8 [] 0 0), (9, I64 s1.1), (12, .pt 12 [] 0 0), (30, .ag [I64 v1.1.d_, I64 v1.1.a_, I64 v1.1.b_, I64 v1.1.c_]), (31, I64 s1.1), (64, Bl (!v5))]) [(3, ⟨7, [[I64 a1.Op_, I64 a1.D_, I64 a1.A_, I64 a1.B_, I64 a1.C_, I64 a1.N_, .sc (.int .u32 a1.Bits_)]]⟩), (5, ⟨5, [[I64 v1.1.d_, I64 v1.1.a_, I64 v1.1.b_, I64 v1.1.c_, I64 v1.1.n_]]⟩), (7, ⟨2, [[I64 s1.2.1, I64 s1.2.2.1]]⟩), (8, ⟨2, [[I64 s1.2.2.2.1, I64 s1.2.2.2.2]]⟩), (12, ⟨2, [[I64 v4.1.Kind_, I64 v4.1.Param_]]⟩), (200000, ⟨7, [[.im 3 (a0_0.map c_T_api_Param), .im 2 (a0_1.map c_T_api_Type), .im 5 (a0_2.map c_T_api_Slot), .im 7 (a0_3.map c_T_api_Inst), .ow 1 (a0_4.map c_bool), .ow 1 (a0_5.map o_L7), .ow 1 (a0_6.map c_i64)]]⟩)] (by kernel_rfl) ?_
      refine W.condB (b := (!v5)) (by kernel_rfl) hg (fun hg => ?_) (fun hg => ?_)
      · refine W.seq ?_
        refine W.regG ?_
        refine RG.fin 1 [(200000, 200000)] (envOf [(4, Bl false)]) [(200000, ⟨7, [[.im 3 (a0_0.map c_T_api_Param), .im 2 (a0_1.map c_T_api_Type), .im 5 (a0_2.map c_T_api_Slot), .im 7 (a0_3.map c_T_api_Inst), .ow 1 (a0_4.map c_bool), .ow 1 (a0_5.map o_L7), .ow 1 (a0_6.map c_i64)]]⟩)] (by kernel_rfl) ?_
        obtain rfl := Option.some.inj hg
        exact W.ret ⟨rfl, Ends.of [(200000, 200000)] (by kernel_rfl)⟩
      refine W.skip ?_
      refine W.seq ?_
      refine W.regG ?_
      refine RG.fin 1 [(3, 3), (5, 5), (7, 7), (8, 8), (12, 12), (200000, 200000)] (envOf [(0, .pt 200000 [] 0 0), (3, .pt 3 [] 0 0), (5, .pt 5 [] 0 0), (7, .pt 7 [] 0 0), (8, .pt 8 [] 0 0), (12, .pt 12 [] 0 0), (30, .ag [I64 v1.1.d_, I64 v1.1.a_, I64 v1.1.b_, I64 v1.1.c_]), (31, I64 s1.1), (65, I64 s1.1)]) [(3, ⟨7, [[I64 a1.Op_, I64 a1.D_, I64 a1.A_, I64 a1.B_, I64 a1.C_, I64 a1.N_, .sc (.int .u32 a1.Bits_)]]⟩), (5, ⟨5, [[I64 v1.1.d_, I64 v1.1.a_, I64 v1.1.b_, I64 v1.1.c_, I64 v1.1.n_]]⟩), (7, ⟨2, [[I64 s1.2.1, I64 s1.2.2.1]]⟩), (8, ⟨2, [[I64 s1.2.2.2.1, I64 s1.2.2.2.2]]⟩), (12, ⟨2, [[I64 v4.1.Kind_, I64 v4.1.Param_]]⟩), (200000, ⟨7, [[.im 3 (a0_0.map c_T_api_Param), .im 2 (a0_1.map c_T_api_Type), .im 5 (a0_2.map c_T_api_Slot), .im 7 (a0_3.map c_T_api_Inst), .ow 1 (a0_4.map c_bool), .ow 1 (a0_5.map o_L7), .ow 1 (a0_6.map c_i64)]]⟩)] (by kernel_rfl) ?_
      refine W.block ?_
      refine W.seq ?_
      refine W.regG ?_
      refine RG.fin 2 [(3, 3), (5, 5), (7, 7), (8, 8), (12, 12), (200000, 200000)] (envOf [(0, .pt 200000 [] 0 0), (3, .pt 3 [] 0 0), (5, .pt 5 [] 0 0), (7, .pt 7 [] 0 0), (8, .pt 8 [] 0 0), (12, .pt 12 [] 0 0), (30, .ag [I64 v1.1.d_, I64 v1.1.a_, I64 v1.1.b_, I64 v1.1.c_]), (31, I64 s1.1), (65, I64 s1.1), (66, Bl (s1.1 == (0)))]) [(3, ⟨7, [[I64 a1.Op_, I64 a1.D_, I64 a1.A_, I64 a1.B_, I64 a1.C_, I64 a1.N_, .sc (.int .u32 a1.Bits_)]]⟩), (5, ⟨5, [[I64 v1.1.d_, I64 v1.1.a_, I64 v1.1.b_, I64 v1.1.c_, I64 v1.1.n_]]⟩), (7, ⟨2, [[I64 s1.2.1, I64 s1.2.2.1]]⟩), (8, ⟨2, [[I64 s1.2.2.2.1, I64 s1.2.2.2.2]]⟩), (12, ⟨2, [[I64 v4.1.Kind_, I64 v4.1.Param_]]⟩), (200000, ⟨7, [[.im 3 (a0_0.map c_T_api_Param), .im 2 (a0_1.map c_T_api_Type), .im 5 (a0_2.map c_T_api_Slot), .im 7 (a0_3.map c_T_api_Inst), .ow 1 (a0_4.map c_bool), .ow 1 (a0_5.map o_L7), .ow 1 (a0_6.map c_i64)]]⟩)] (by kernel_rfl) ?_
      refine W.condB (b := (s1.1 == (0))) (by kernel_rfl) hg (fun hg => ?_) (fun hg => ?_)
      · refine W.turnT 2 ⟨180, none, .st 2 (.tmp 7) (.tmp 68)⟩ [0] [68, 69, 180] (by kernel_rfl) (by kernel_rfl) (by kernel_rfl) ?_
        refine WD.rd (av := .ag [I64 v4.1.Kind_, I64 v4.1.Param_]) (by kernel_rfl) (by kernel_rfl) ?_
        refine WD.rd (av := .ag [I64 v4.1.Kind_, I64 v4.1.Param_]) (by kernel_rfl) (by kernel_rfl) ?_
        refine WD.nil (by kernel_rfl) (KT.mkE (kill (under 7 [] 0 2)) .un [(7, ⟨2, [[I64 v4.1.Kind_, I64 v4.1.Param_]]⟩), (3, ⟨7, [[I64 a1.Op_, I64 a1.D_, I64 a1.A_, I64 a1.B_, I64 a1.C_, I64 a1.N_, .sc (.int .u32 a1.Bits_)]]⟩), (5, ⟨5, [[I64 v1.1.d_, I64 v1.1.a_, I64 v1.1.b_, I64 v1.1.c_, I64 v1.1.n_]]⟩), (8, ⟨2, [[I64 s1.2.2.2.1, I64 s1.2.2.2.2]]⟩), (12, ⟨2, [[I64 v4.1.Kind_, I64 v4.1.Param_]]⟩), (200000, ⟨7, [[.im 3 (a0_0.map c_T_api_Param), .im 2 (a0_1.map c_T_api_Type), .im 5 (a0_2.map c_T_api_Slot), .im 7 (a0_3.map c_T_api_Inst), .ow 1 (a0_4.map c_bool), .ow 1 (a0_5.map o_L7), .ow 1 (a0_6.map c_i64)]]⟩)] (by kernel_rfl) (by kernel_rfl) (TurnOk.st (hN := [(7, ⟨2, [[I64 v4.1.Kind_, I64 v4.1.Param_]]⟩), (3, ⟨7, [[I64 a1.Op_, I64 a1.D_, I64 a1.A_, I64 a1.B_, I64 a1.C_, I64 a1.N_, .sc (.int .u32 a1.Bits_)]]⟩), (5, ⟨5, [[I64 v1.1.d_, I64 v1.1.a_, I64 v1.1.b_, I64 v1.1.c_, I64 v1.1.n_]]⟩), (8, ⟨2, [[I64 s1.2.2.2.1, I64 s1.2.2.2.2]]⟩), (12, ⟨2, [[I64 v4.1.Kind_, I64 v4.1.Param_]]⟩), (200000, ⟨7, [[.im 3 (a0_0.map c_T_api_Param), .im 2 (a0_1.map c_T_api_Type), .im 5 (a0_2.map c_T_api_Slot), .im 7 (a0_3.map c_T_api_Inst), .ow 1 (a0_4.map c_bool), .ow 1 (a0_5.map o_L7), .ow 1 (a0_6.map c_i64)]]⟩)]) (bad := under 7 [] 0 2) (by kernel_rfl) (by kernel_rfl)) rfl ⟨.inl (by kernel_rfl), .inr (.inr ⟨by kernel_rfl, _, rfl, by kernel_rfl⟩), trivial⟩ ?_)
        refine RG.fin 1 [(3, 3), (5, 5), (7, 7), (8, 8), (200000, 200000)] (envOf [(0, .pt 200000 [] 0 0), (3, .pt 3 [] 0 0), (5, .pt 5 [] 0 0), (7, .pt 7 [] 0 0), (8, .pt 8 [] 0 0), (30, .ag [I64 v1.1.d_, I64 v1.1.a_, I64 v1.1.b_, I64 v1.1.c_]), (31, I64 s1.1)]) [(3, ⟨7, [[I64 a1.Op_, I64 a1.D_, I64 a1.A_, I64 a1.B_, I64 a1.C_, I64 a1.N_, .sc (.int .u32 a1.Bits_)]]⟩), (5, ⟨5, [[I64 v1.1.d_, I64 v1.1.a_, I64 v1.1.b_, I64 v1.1.c_, I64 v1.1.n_]]⟩), (7, ⟨2, [[I64 v4.1.Kind_, I64 v4.1.Param_]]⟩), (8, ⟨2, [[I64 v4.1.Kind_, I64 v4.1.Param_]]⟩), (200000, ⟨7, [[.im 3 (a0_0.map c_T_api_Param), .im 2 (a0_1.map c_T_api_Type), .im 5 (a0_2.map c_T_api_Slot), .im 7 (a0_3.map c_T_api_Inst), .ow 1 (a0_4.map c_bool), .ow 1 (a0_5.map o_L7), .ow 1 (a0_6.map c_i64)]]⟩)] (by kernel_rfl) ?_
        refine W.regG ?_
        refine RG.fin 2 [(3, 3), (5, 5), (7, 7), (8, 8), (200000, 200000)] (envOf [(0, .pt 200000 [] 0 0), (3, .pt 3 [] 0 0), (5, .pt 5 [] 0 0), (7, .pt 7 [] 0 0), (8, .pt 8 [] 0 0), (30, .ag [I64 v1.1.d_, I64 v1.1.a_, I64 v1.1.b_, I64 v1.1.c_]), (31, I64 (IntKind.i64.wrap (s1.1 + (1))))]) [(3, ⟨7, [[I64 a1.Op_, I64 a1.D_, I64 a1.A_, I64 a1.B_, I64 a1.C_, I64 a1.N_, .sc (.int .u32 a1.Bits_)]]⟩), (5, ⟨5, [[I64 v1.1.d_, I64 v1.1.a_, I64 v1.1.b_, I64 v1.1.c_, I64 v1.1.n_]]⟩), (7, ⟨2, [[I64 v4.1.Kind_, I64 v4.1.Param_]]⟩), (8, ⟨2, [[I64 v4.1.Kind_, I64 v4.1.Param_]]⟩), (200000, ⟨7, [[.im 3 (a0_0.map c_T_api_Param), .im 2 (a0_1.map c_T_api_Type), .im 5 (a0_2.map c_T_api_Slot), .im 7 (a0_3.map c_T_api_Inst), .ow 1 (a0_4.map c_bool), .ow 1 (a0_5.map o_L7), .ow 1 (a0_6.map c_i64)]]⟩)] (by kernel_rfl) ?_
        obtain rfl := Option.some.inj hg
        exact ⟨rfl, by kernel_rfl, by kernel_rfl⟩
      refine W.seq ?_
      refine W.regG ?_
      refine RG.fin 2 [(3, 3), (5, 5), (7, 7), (8, 8), (12, 12), (200000, 200000)] (envOf [(0, .pt 200000 [] 0 0), (3, .pt 3 [] 0 0), (5, .pt 5 [] 0 0), (7, .pt 7 [] 0 0), (8, .pt 8 [] 0 0), (12, .pt 12 [] 0 0), (30, .ag [I64 v1.1.d_, I64 v1.1.a_, I64 v1.1.b_, I64 v1.1.c_]), (31, I64 s1.1), (70, Bl (s1.1 == (1)))]) [(3, ⟨7, [[I64 a1.Op_, I64 a1.D_, I64 a1.A_, I64 a1.B_, I64 a1.C_, I64 a1.N_, .sc (.int .u32 a1.Bits_)]]⟩), (5, ⟨5, [[I64 v1.1.d_, I64 v1.1.a_, I64 v1.1.b_, I64 v1.1.c_, I64 v1.1.n_]]⟩), (7, ⟨2, [[I64 s1.2.1, I64 s1.2.2.1]]⟩), (8, ⟨2, [[I64 s1.2.2.2.1, I64 s1.2.2.2.2]]⟩), (12, ⟨2, [[I64 v4.1.Kind_, I64 v4.1.Param_]]⟩), (200000, ⟨7, [[.im 3 (a0_0.map c_T_api_Param), .im 2 (a0_1.map c_T_api_Type), .im 5 (a0_2.map c_T_api_Slot), .im 7 (a0_3.map c_T_api_Inst), .ow 1 (a0_4.map c_bool), .ow 1 (a0_5.map o_L7), .ow 1 (a0_6.map c_i64)]]⟩)] (by kernel_rfl) ?_
      refine W.condB (b := (s1.1 == (1))) (by kernel_rfl) hg (fun hg => ?_) (fun hg => ?_)
      · refine W.seq ?_
        refine W.regG ?_
        refine RG.fin 3 [(3, 3), (5, 5), (7, 7), (8, 8), (12, 12), (200000, 200000)] (envOf [(0, .pt 200000 [] 0 0), (3, .pt 3 [] 0 0), (5, .pt 5 [] 0 0), (7, .pt 7 [] 0 0), (8, .pt 8 [] 0 0), (12, .pt 12 [] 0 0), (30, .ag [I64 v1.1.d_, I64 v1.1.a_, I64 v1.1.b_, I64 v1.1.c_]), (31, I64 s1.1), (74, Bl (v1.1.d_ == (0)))]) [(3, ⟨7, [[I64 a1.Op_, I64 a1.D_, I64 a1.A_, I64 a1.B_, I64 a1.C_, I64 a1.N_, .sc (.int .u32 a1.Bits_)]]⟩), (5, ⟨5, [[I64 v1.1.d_, I64 v1.1.a_, I64 v1.1.b_, I64 v1.1.c_, I64 v1.1.n_]]⟩), (7, ⟨2, [[I64 s1.2.1, I64 s1.2.2.1]]⟩), (8, ⟨2, [[I64 s1.2.2.2.1, I64 s1.2.2.2.2]]⟩), (12, ⟨2, [[I64 v4.1.Kind_, I64 v4.1.Param_]]⟩), (200000, ⟨7, [[.im 3 (a0_0.map c_T_api_Param), .im 2 (a0_1.map c_T_api_Type), .im 5 (a0_2.map c_T_api_Slot), .im 7 (a0_3.map c_T_api_Inst), .ow 1 (a0_4.map c_bool), .ow 1 (a0_5.map o_L7), .ow 1 (a0_6.map c_i64)]]⟩)] (by kernel_rfl) ?_
        refine W.condB (b := (v1.1.d_ == (0))) (by kernel_rfl) hg (fun hg => ?_) (fun hg => ?_)
        · refine W.regG ?_
          refine RG.fin 2 [(3, 3), (5, 5), (7, 7), (8, 8), (200000, 200000)] (envOf [(0, .pt 200000 [] 0 0), (3, .pt 3 [] 0 0), (5, .pt 5 [] 0 0), (7, .pt 7 [] 0 0), (8, .pt 8 [] 0 0), (30, .ag [I64 v1.1.d_, I64 v1.1.a_, I64 v1.1.b_, I64 v1.1.c_]), (31, I64 s1.1)]) [(3, ⟨7, [[I64 a1.Op_, I64 a1.D_, I64 a1.A_, I64 a1.B_, I64 a1.C_, I64 a1.N_, .sc (.int .u32 a1.Bits_)]]⟩), (5, ⟨5, [[I64 v1.1.d_, I64 v1.1.a_, I64 v1.1.b_, I64 v1.1.c_, I64 v1.1.n_]]⟩), (7, ⟨2, [[I64 s1.2.1, I64 s1.2.2.1]]⟩), (8, ⟨2, [[I64 v4.1.Kind_, I64 v4.1.Param_]]⟩), (200000, ⟨7, [[.im 3 (a0_0.map c_T_api_Param), .im 2 (a0_1.map c_T_api_Type), .im 5 (a0_2.map c_T_api_Slot), .im 7 (a0_3.map c_T_api_Inst), .ow 1 (a0_4.map c_bool), .ow 1 (a0_5.map o_L7), .ow 1 (a0_6.map c_i64)]]⟩)] (by kernel_rfl) ?_
          refine W.regG ?_
          refine RG.fin 2 [(3, 3), (5, 5), (7, 7), (8, 8), (200000, 200000)] (envOf [(0, .pt 200000 [] 0 0), (3, .pt 3 [] 0 0), (5, .pt 5 [] 0 0), (7, .pt 7 [] 0 0), (8, .pt 8 [] 0 0), (30, .ag [I64 v1.1.d_, I64 v1.1.a_, I64 v1.1.b_, I64 v1.1.c_]), (31, I64 (IntKind.i64.wrap (s1.1 + (1))))]) [(3, ⟨7, [[I64 a1.Op_, I64 a1.D_, I64 a1.A_, I64 a1.B_, I64 a1.C_, I64 a1.N_, .sc (.int .u32 a1.Bits_)]]⟩), (5, ⟨5, [[I64 v1.1.d_, I64 v1.1.a_, I64 v1.1.b_, I64 v1.1.c_, I64 v1.1.n_]]⟩), (7, ⟨2, [[I64 s1.2.1, I64 s1.2.2.1]]⟩), (8, ⟨2, [[I64 v4.1.Kind_, I64 v4.1.Param_]]⟩), (200000, ⟨7, [[.im 3 (a0_0.map c_T_api_Param), .im 2 (a0_1.map c_T_api_Type), .im 5 (a0_2.map c_T_api_Slot), .im 7 (a0_3.map c_T_api_Inst), .ow 1 (a0_4.map c_bool), .ow 1 (a0_5.map o_L7), .ow 1 (a0_6.map c_i64)]]⟩)] (by kernel_rfl) ?_
          obtain rfl := Option.some.inj hg
          exact ⟨rfl, by kernel_rfl, by kernel_rfl⟩
        refine W.skip ?_
        refine W.regG ?_
        refine RG.fin 2 [(3, 3), (5, 5), (7, 7), (8, 8), (200000, 200000)] (envOf [(0, .pt 200000 [] 0 0), (3, .pt 3 [] 0 0), (5, .pt 5 [] 0 0), (7, .pt 7 [] 0 0), (8, .pt 8 [] 0 0), (30, .ag [I64 v1.1.d_, I64 v1.1.a_, I64 v1.1.b_, I64 v1.1.c_]), (31, I64 (IntKind.i64.wrap (s1.1 + (1))))]) [(3, ⟨7, [[I64 a1.Op_, I64 a1.D_, I64 a1.A_, I64 a1.B_, I64 a1.C_, I64 a1.N_, .sc (.int .u32 a1.Bits_)]]⟩), (5, ⟨5, [[I64 v1.1.d_, I64 v1.1.a_, I64 v1.1.b_, I64 v1.1.c_, I64 v1.1.n_]]⟩), (7, ⟨2, [[I64 s1.2.1, I64 s1.2.2.1]]⟩), (8, ⟨2, [[I64 s1.2.2.2.1, I64 s1.2.2.2.2]]⟩), (200000, ⟨7, [[.im 3 (a0_0.map c_T_api_Param), .im 2 (a0_1.map c_T_api_Type), .im 5 (a0_2.map c_T_api_Slot), .im 7 (a0_3.map c_T_api_Inst), .ow 1 (a0_4.map c_bool), .ow 1 (a0_5.map o_L7), .ow 1 (a0_6.map c_i64)]]⟩)] (by kernel_rfl) ?_
        obtain rfl := Option.some.inj hg
        exact ⟨rfl, by kernel_rfl, by kernel_rfl⟩
      refine W.skip ?_
      refine W.regG ?_
      refine RG.fin 2 [(3, 3), (5, 5), (7, 7), (8, 8), (200000, 200000)] (envOf [(0, .pt 200000 [] 0 0), (3, .pt 3 [] 0 0), (5, .pt 5 [] 0 0), (7, .pt 7 [] 0 0), (8, .pt 8 [] 0 0), (30, .ag [I64 v1.1.d_, I64 v1.1.a_, I64 v1.1.b_, I64 v1.1.c_]), (31, I64 (IntKind.i64.wrap (s1.1 + (1))))]) [(3, ⟨7, [[I64 a1.Op_, I64 a1.D_, I64 a1.A_, I64 a1.B_, I64 a1.C_, I64 a1.N_, .sc (.int .u32 a1.Bits_)]]⟩), (5, ⟨5, [[I64 v1.1.d_, I64 v1.1.a_, I64 v1.1.b_, I64 v1.1.c_, I64 v1.1.n_]]⟩), (7, ⟨2, [[I64 s1.2.1, I64 s1.2.2.1]]⟩), (8, ⟨2, [[I64 s1.2.2.2.1, I64 s1.2.2.2.2]]⟩), (200000, ⟨7, [[.im 3 (a0_0.map c_T_api_Param), .im 2 (a0_1.map c_T_api_Type), .im 5 (a0_2.map c_T_api_Slot), .im 7 (a0_3.map c_T_api_Inst), .ow 1 (a0_4.map c_bool), .ow 1 (a0_5.map o_L7), .ow 1 (a0_6.map c_i64)]]⟩)] (by kernel_rfl) ?_
      obtain rfl := Option.some.inj hg
      exact ⟨rfl, by kernel_rfl, by kernel_rfl⟩
    refine W.norm [(3, 3), (5, 5), (7, 7), (8, 8), (200000, 200000)] [0, 3, 5, 7, 8, 30, 31, 32] (envOf [(0, .pt 200000 [] 0 0), (3, .pt 3 [] 0 0), (5, .pt 5 [] 0 0), (7, .pt 7 [] 0 0), (8, .pt 8 [] 0 0), (30, .ag [I64 v1.1.d_, I64 v1.1.a_, I64 v1.1.b_, I64 v1.1.c_]), (31, I64 s1.1), (32, Bl (decide (s1.1 < (4))))]) [(3, ⟨7, [[I64 a1.Op_, I64 a1.D_, I64 a1.A_, I64 a1.B_, I64 a1.C_, I64 a1.N_, .sc (.int .u32 a1.Bits_)]]⟩), (5, ⟨5, [[I64 v1.1.d_, I64 v1.1.a_, I64 v1.1.b_, I64 v1.1.c_, I64 v1.1.n_]]⟩), (7, ⟨2, [[I64 s1.2.1, I64 s1.2.2.1]]⟩), (8, ⟨2, [[I64 s1.2.2.2.1, I64 s1.2.2.2.2]]⟩), (200000, ⟨7, [[.im 3 (a0_0.map c_T_api_Param), .im 2 (a0_1.map c_T_api_Type), .im 5 (a0_2.map c_T_api_Slot), .im 7 (a0_3.map c_T_api_Inst), .ow 1 (a0_4.map c_bool), .ow 1 (a0_5.map o_L7), .ow 1 (a0_6.map c_i64)]]⟩)] (by kernel_rfl) ?_
    refine W.exit ?_
    obtain rfl := Option.some.inj hg
    exact ⟨rfl, by kernel_rfl, by kernel_rfl⟩
  refine W.seqJ (fun p1 : Bool => envOf [(0, .pt 200000 [] 0 0), (3, .pt 3 [] 0 0), (5, .pt 5 [] 0 0), (8, .pt 8 [] 0 0), (95, Bl p1)]) (fun p1 : Bool => [(3, ⟨7, [[I64 a1.Op_, I64 a1.D_, I64 a1.A_, I64 a1.B_, I64 a1.C_, I64 a1.N_, .sc (.int .u32 a1.Bits_)]]⟩), (5, ⟨5, [[I64 v1.1.d_, I64 v1.1.a_, I64 v1.1.b_, I64 v1.1.c_, I64 v1.1.n_]]⟩), (8, ⟨2, [[I64 t1.2.2.2.2.1, I64 t1.2.2.2.2.2]]⟩), (200000, ⟨7, [[.im 3 (a0_0.map c_T_api_Param), .im 2 (a0_1.map c_T_api_Type), .im 5 (a0_2.map c_T_api_Slot), .im 7 (a0_3.map c_T_api_Inst), .ow 1 (a0_4.map c_bool), .ow 1 (a0_5.map o_L7), .ow 1 (a0_6.map c_i64)]]⟩)]) hg (fun p1 hg => ?_) (fun hg => ?_)
  · refine W.seq ?_
    refine W.seq ?_
    refine W.regG ?_
    refine RG.fin 2 [(3, 3), (8, 8), (200000, 200000)] (envOf [(0, .pt 200000 [] 0 0), (3, .pt 3 [] 0 0), (8, .pt 8 [] 0 0), (97, I64 v1.1.n_)]) [(3, ⟨7, [[I64 a1.Op_, I64 a1.D_, I64 a1.A_, I64 a1.B_, I64 a1.C_, I64 a1.N_, .sc (.int .u32 a1.Bits_)]]⟩), (8, ⟨2, [[I64 t1.2.2.2.2.1, I64 t1.2.2.2.2.2]]⟩), (200000, ⟨7, [[.im 3 (a0_0.map c_T_api_Param), .im 2 (a0_1.map c_T_api_Type), .im 5 (a0_2.map c_T_api_Slot), .im 7 (a0_3.map c_T_api_Inst), .ow 1 (a0_4.map c_bool), .ow 1 (a0_5.map o_L7), .ow 1 (a0_6.map c_i64)]]⟩)] (by kernel_rfl) ?_
    refine W.block ?_
    refine W.seq ?_
    refine W.regG ?_
    refine RG.fin 2 [(3, 3), (8, 8), (200000, 200000)] (envOf [(0, .pt 200000 [] 0 0), (3, .pt 3 [] 0 0), (8, .pt 8 [] 0 0), (97, I64 v1.1.n_), (98, Bl (v1.1.n_ == (1)))]) [(3, ⟨7, [[I64 a1.Op_, I64 a1.D_, I64 a1.A_, I64 a1.B_, I64 a1.C_, I64 a1.N_, .sc (.int .u32 a1.Bits_)]]⟩), (8, ⟨2, [[I64 t1.2.2.2.2.1, I64 t1.2.2.2.2.2]]⟩), (200000, ⟨7, [[.im 3 (a0_0.map c_T_api_Param), .im 2 (a0_1.map c_T_api_Type), .im 5 (a0_2.map c_T_api_Slot), .im 7 (a0_3.map c_T_api_Inst), .ow 1 (a0_4.map c_bool), .ow 1 (a0_5.map o_L7), .ow 1 (a0_6.map c_i64)]]⟩)] (by kernel_rfl) ?_
    refine W.condB (b := (v1.1.n_ == (1))) (by kernel_rfl) hg (fun hg => ?_) (fun hg => ?_)
    · refine W.seq ?_
      refine W.regG ?_
      refine RG.cut 4 [(3, 3), (200000, 200000)] [3, 103, 104, 105, 106] (envOf [(3, .pt 3 [] 0 0), (103, Bl (decide (a1.N_ ≥ (0)))), (104, .un), (105, .un), (106, .un)]) [(3, ⟨7, [[I64 a1.Op_, I64 a1.D_, I64 a1.A_, I64 a1.B_, I64 a1.C_, I64 a1.N_, .sc (.int .u32 a1.Bits_)]]⟩), (200000, ⟨7, [[.im 3 (a0_0.map c_T_api_Param), .im 2 (a0_1.map c_T_api_Type), .im 5 (a0_2.map c_T_api_Slot), .im 7 (a0_3.map c_T_api_Inst), .ow 1 (a0_4.map c_bool), .ow 1 (a0_5.map o_L7), .ow 1 (a0_6.map c_i64)]]⟩)] (by kernel_rfl) ?_
      refine RG.guard (s := 103) (by kernel_rfl) hg (fun hg => ?_) (fun hg => ?_)
      · refine RG.fin 5 [(200000, 200000)] (envOf [(4, Bl (decide (a1.N_ ≤ (2147483647))))]) [(200000, ⟨7, [[.im 3 (a0_0.map c_T_api_Param), .im 2 (a0_1.map c_T_api_Type), .im 5 (a0_2.map c_T_api_Slot), .im 7 (a0_3.map c_T_api_Inst), .ow 1 (a0_4.map c_bool), .ow 1 (a0_5.map o_L7), .ow 1 (a0_6.map c_i64)]]⟩)] (by kernel_rfl) ?_
        obtain rfl := Option.some.inj hg
        exact W.ret (Ends.of [(200000, 200000)] (by kernel_rfl))
      refine RG.fin 5 [(200000, 200000)] (envOf [(4, Bl false)]) [(200000, ⟨7, [[.im 3 (a0_0.map c_T_api_Param), .im 2 (a0_1.map c_T_api_Type), .im 5 (a0_2.map c_T_api_Slot), .im 7 (a0_3.map c_T_api_Inst), .ow 1 (a0_4.map c_bool), .ow 1 (a0_5.map o_L7), .ow 1 (a0_6.map c_i64)]]⟩)] (by kernel_rfl) ?_
      obtain rfl := Option.some.inj hg
      exact W.ret (Ends.of [(200000, 200000)] (by kernel_rfl))
    refine W.seq ?_
    refine W.regG ?_
    refine RG.fin 2 [(3, 3), (8, 8), (200000, 200000)] (envOf [(0, .pt 200000 [] 0 0), (3, .pt 3 [] 0 0), (8, .pt 8 [] 0 0), (97, I64 v1.1.n_), (108, Bl (v1.1.n_ == (2)))]) [(3, ⟨7, [[I64 a1.Op_, I64 a1.D_, I64 a1.A_, I64 a1.B_, I64 a1.C_, I64 a1.N_, .sc (.int .u32 a1.Bits_)]]⟩), (8, ⟨2, [[I64 t1.2.2.2.2.1, I64 t1.2.2.2.2.2]]⟩), (200000, ⟨7, [[.im 3 (a0_0.map c_T_api_Param), .im 2 (a0_1.map c_T_api_Type), .im 5 (a0_2.map c_T_api_Slot), .im 7 (a0_3.map c_T_api_Inst), .ow 1 (a0_4.map c_bool), .ow 1 (a0_5.map o_L7), .ow 1 (a0_6.map c_i64)]]⟩)] (by kernel_rfl) ?_
    refine W.condB (b := (v1.1.n_ == (2))) (by kernel_rfl) hg (fun hg => ?_) (fun hg => ?_)
    · refine W.seq ?_
      refine W.drawG [110, 111, 112, 113, 114, 115, 116, 117, 118, 119, 120, 121, 122, 123, 124] (by kernel_rfl) (by kernel_rfl) ?_
      refine WD.rd (av := .pt 3 [] 0 5) (by kernel_rfl) (by kernel_rfl) ?_
      refine WD.rd (av := I64 a1.N_) (by kernel_rfl) (by kernel_rfl) ?_
      refine WD.rd (av := Bl (a1.N_ == (0))) (by kernel_rfl) (by kernel_rfl) ?_
      refine WD.rd (av := Bl (a1.N_ == (0))) (by kernel_rfl) (by kernel_rfl) ?_
      refine WD.guard (s := 113) (by kernel_rfl) hg (fun hg => ?_) (fun hg => ?_)
      · refine WD.skip (by kernel_rfl) ?_
        refine WD.skip (by kernel_rfl) ?_
        refine WD.skip (by kernel_rfl) ?_
        refine WD.skip (by kernel_rfl) ?_
        refine WD.skip (by kernel_rfl) ?_
        refine WD.skip (by kernel_rfl) ?_
        refine WD.skip (by kernel_rfl) ?_
        refine WD.skip (by kernel_rfl) ?_
        refine WD.skip (by kernel_rfl) ?_
        refine WD.skip (by kernel_rfl) ?_
        refine WD.skip (by kernel_rfl) ?_
        refine WD.done (by kernel_rfl) (by kernel_rfl) ?_
        refine RG.fin 7 [(200000, 200000)] (envOf [(4, Bl true)]) [(200000, ⟨7, [[.im 3 (a0_0.map c_T_api_Param), .im 2 (a0_1.map c_T_api_Type), .im 5 (a0_2.map c_T_api_Slot), .im 7 (a0_3.map c_T_api_Inst), .ow 1 (a0_4.map c_bool), .ow 1 (a0_5.map o_L7), .ow 1 (a0_6.map c_i64)]]⟩)] (by kernel_rfl) ?_
        obtain rfl := Option.some.inj hg
        exact W.ret (Ends.of [(200000, 200000)] (by kernel_rfl))
      refine WD.rd (av := .pt 3 [] 0 5) (by kernel_rfl) (by kernel_rfl) ?_
      refine WD.rd (av := I64 a1.N_) (by kernel_rfl) (by kernel_rfl) ?_
      refine WD.rd (av := Bl (a1.N_ == (1))) (by kernel_rfl) (by kernel_rfl) ?_
      refine WD.rd (av := Bl (a1.N_ == (1))) (by kernel_rfl) (by kernel_rfl) ?_
      refine WD.guard (s := 117) (by kernel_rfl) hg (fun hg => ?_) (fun hg => ?_)
      · refine WD.rd (av := .pt 200000 [] 0 0) (by kernel_rfl) (by kernel_rfl) ?_
        refine WD.rd (av := .pt 200000 [] 0 0) (by kernel_rfl) (by kernel_rfl) ?_
        refine WD.rd (av := .pt 200000 [] 0 0) (by kernel_rfl) (by kernel_rfl) ?_
        refine WD.rd (av := .pt 200000 [] 0 0) (by kernel_rfl) (by kernel_rfl) ?_
        refine WD.rd (av := .im 3 (a0_0.map c_T_api_Param)) (by kernel_rfl) (by kernel_rfl) ?_
        refine WD.rd (av := .pt 8 [] 0 1) (by kernel_rfl) (by kernel_rfl) ?_
        refine WD.rd (av := I64 t1.2.2.2.2.2) (by kernel_rfl) (by kernel_rfl) ?_
        refine WD.done (by kernel_rfl) (by kernel_rfl) ?_
        refine RG.iadIm (c := c_T_api_Param) (xs := a0_0) (i := t1.2.2.2.2.2) (k := .i64) (by kernel_rfl) (by kernel_rfl) (by kernel_rfl) hg (fun y3 _ hg => ?_)
        refine RG.fin 6 [(200000, 200000)] (envOf [(4, Bl (y3.Kind_ == (2)))]) [(200000, ⟨7, [[.im 3 (a0_0.map c_T_api_Param), .im 2 (a0_1.map c_T_api_Type), .im 5 (a0_2.map c_T_api_Slot), .im 7 (a0_3.map c_T_api_Inst), .ow 1 (a0_4.map c_bool), .ow 1 (a0_5.map o_L7), .ow 1 (a0_6.map c_i64)]]⟩)] (by kernel_rfl) ?_
        obtain rfl := Option.some.inj hg
        exact W.ret (Ends.of [(200000, 200000)] (by kernel_rfl))
      refine WD.skip (by kernel_rfl) ?_
      refine WD.skip (by kernel_rfl) ?_
      refine WD.skip (by kernel_rfl) ?_
      refine WD.skip (by kernel_rfl) ?_
      refine WD.skip (by kernel_rfl) ?_
      refine WD.skip (by kernel_rfl) ?_
      refine WD.skip (by kernel_rfl) ?_
      refine WD.done (by kernel_rfl) (by kernel_rfl) ?_
      refine RG.fin 7 [(200000, 200000)] (envOf [(4, Bl false)]) [(200000, ⟨7, [[.im 3 (a0_0.map c_T_api_Param), .im 2 (a0_1.map c_T_api_Type), .im 5 (a0_2.map c_T_api_Slot), .im 7 (a0_3.map c_T_api_Inst), .ow 1 (a0_4.map c_bool), .ow 1 (a0_5.map o_L7), .ow 1 (a0_6.map c_i64)]]⟩)] (by kernel_rfl) ?_
      obtain rfl := Option.some.inj hg
      exact W.ret (Ends.of [(200000, 200000)] (by kernel_rfl))
    refine W.seq ?_
    refine W.regG ?_
    refine RG.fin 2 [(3, 3), (8, 8), (200000, 200000)] (envOf [(0, .pt 200000 [] 0 0), (3, .pt 3 [] 0 0), (8, .pt 8 [] 0 0), (97, I64 v1.1.n_), (131, Bl (v1.1.n_ == (3)))]) [(3, ⟨7, [[I64 a1.Op_, I64 a1.D_, I64 a1.A_, I64 a1.B_, I64 a1.C_, I64 a1.N_, .sc (.int .u32 a1.Bits_)]]⟩), (8, ⟨2, [[I64 t1.2.2.2.2.1, I64 t1.2.2.2.2.2]]⟩), (200000, ⟨7, [[.im 3 (a0_0.map c_T_api_Param), .im 2 (a0_1.map c_T_api_Type), .im 5 (a0_2.map c_T_api_Slot), .im 7 (a0_3.map c_T_api_Inst), .ow 1 (a0_4.map c_bool), .ow 1 (a0_5.map o_L7), .ow 1 (a0_6.map c_i64)]]⟩)] (by kernel_rfl) ?_
    refine W.condB (b := (v1.1.n_ == (3))) (by kernel_rfl) hg (fun hg => ?_) (fun hg => ?_)
    · refine W.seq ?_
      refine W.drawG [133, 134, 135, 136, 137, 138, 139, 140, 141, 142, 143, 144, 145, 146, 147, 148, 149, 150, 151, 152, 153, 154, 155, 156, 157, 158] (by kernel_rfl) (by kernel_rfl) ?_
      refine WD.rd (av := .pt 3 [] 0 5) (by kernel_rfl) (by kernel_rfl) ?_
      refine WD.rd (av := I64 a1.N_) (by kernel_rfl) (by kernel_rfl) ?_
      refine WD.rd (av := Bl (decide (a1.N_ ≥ (0)))) (by kernel_rfl) (by kernel_rfl) ?_
      refine WD.rd (av := Bl (decide (a1.N_ ≥ (0)))) (by kernel_rfl) (by kernel_rfl) ?_
      refine WD.guard (s := 136) (by kernel_rfl) hg (fun hg => ?_) (fun hg => ?_)
      · refine WD.rd (av := .pt 3 [] 0 5) (by kernel_rfl) (by kernel_rfl) ?_
        refine WD.rd (av := I64 a1.N_) (by kernel_rfl) (by kernel_rfl) ?_
        refine WD.rd (av := .pt 200000 [] 0 0) (by kernel_rfl) (by kernel_rfl) ?_
        refine WD.rd (av := .pt 200000 [] 0 0) (by kernel_rfl) (by kernel_rfl) ?_
        refine WD.rd (av := .pt 200000 [] 0 0) (by kernel_rfl) (by kernel_rfl) ?_
        refine WD.rd (av := .pt 200000 [] 0 2) (by kernel_rfl) (by kernel_rfl) ?_
        refine WD.rd (av := .im 5 (a0_2.map c_T_api_Slot)) (by kernel_rfl) (by kernel_rfl) ?_
        refine WD.rd (av := I64 ((a0_2.map c_T_api_Slot).length : Int)) (by kernel_rfl) (by kernel_rfl) ?_
        refine WD.rd (av := Bl (decide (a1.N_ < ((a0_2.map c_T_api_Slot).length : Int)))) (by kernel_rfl) (by kernel_rfl) ?_
        refine WD.rd (av := Bl (decide (a1.N_ < ((a0_2.map c_T_api_Slot).length : Int)))) (by kernel_rfl) (by kernel_rfl) ?_
        refine WD.rd (av := Bl (decide (a1.N_ < ((a0_2.map c_T_api_Slot).length : Int)))) (by kernel_rfl) (by kernel_rfl) ?_
        refine WD.guard (s := 147) (by kernel_rfl) hg (fun hg => ?_) (fun hg => ?_)
        · refine WD.rd (av := .pt 200000 [] 0 0) (by kernel_rfl) (by kernel_rfl) ?_
          refine WD.rd (av := .pt 200000 [] 0 0) (by kernel_rfl) (by kernel_rfl) ?_
          refine WD.rd (av := .pt 200000 [] 0 0) (by kernel_rfl) (by kernel_rfl) ?_
          refine WD.rd (av := .pt 200000 [] 0 2) (by kernel_rfl) (by kernel_rfl) ?_
          refine WD.rd (av := .im 5 (a0_2.map c_T_api_Slot)) (by kernel_rfl) (by kernel_rfl) ?_
          refine WD.rd (av := .pt 3 [] 0 5) (by kernel_rfl) (by kernel_rfl) ?_
          refine WD.rd (av := I64 a1.N_) (by kernel_rfl) (by kernel_rfl) ?_
          refine WD.bindRd (fun _ => .ip 5 (a0_2.map c_T_api_Slot) a1.N_.toNat 0) (by kernel_rfl) hg (fun _ hz => rd_iadIm (k := .i64) (by kernel_rfl) (by kernel_rfl) hz) (fun y4 hy4 hg => ?_)
          refine WD.rd (av := .ip 5 (a0_2.map c_T_api_Slot) a1.N_.toNat 0) (by kernel_rfl) (by kernel_rfl) ?_
          refine WD.rd (av := .ag [I64 y4.Type_.Kind_, I64 y4.Type_.Param_]) (by kernel_rfl) (rd_loadIp (s := 5) (o := 0) (c := c_T_api_Slot) (xs := a0_2) (j := a1.N_) hy4 (by kernel_rfl) (by kernel_rfl)) ?_
          refine WD.rd (av := .ag [I64 t1.2.2.2.2.1, I64 t1.2.2.2.2.2]) (by kernel_rfl) (by kernel_rfl) ?_
          refine WD.done (by kernel_rfl) (by kernel_rfl) ?_
          refine RG.fin 3 [(200000, 200000)] (envOf [(4, Bl (y4.Type_.Kind_ == t1.2.2.2.2.1 && (y4.Type_.Param_ == t1.2.2.2.2.2 && true)))]) [(200000, ⟨7, [[.im 3 (a0_0.map c_T_api_Param), .im 2 (a0_1.map c_T_api_Type), .im 5 (a0_2.map c_T_api_Slot), .im 7 (a0_3.map c_T_api_Inst), .ow 1 (a0_4.map c_bool), .ow 1 (a0_5.map o_L7), .ow 1 (a0_6.map c_i64)]]⟩)] (by kernel_rfl) ?_
          obtain rfl := Option.some.inj hg
          exact W.ret (Ends.of [(200000, 200000)] (by kernel_rfl))
        refine WD.skip (by kernel_rfl) ?_
        refine WD.skip (by kernel_rfl) ?_
        refine WD.skip (by kernel_rfl) ?_
        refine WD.skip (by kernel_rfl) ?_
        refine WD.skip (by kernel_rfl) ?_
        refine WD.skip (by kernel_rfl) ?_
        refine WD.skip (by kernel_rfl) ?_
        refine WD.skip (by kernel_rfl) ?_
        refine WD.skip (by kernel_rfl) ?_
        refine WD.skip (by kernel_rfl) ?_
        refine WD.skip (by kernel_rfl) ?_
        refine WD.done (by kernel_rfl) (by kernel_rfl) ?_
        refine RG.fin 3 [(200000, 200000)] (envOf [(4, Bl false)]) [(200000, ⟨7, [[.im 3 (a0_0.map c_T_api_Param), .im 2 (a0_1.map c_T_api_Type), .im 5 (a0_2.map c_T_api_Slot), .im 7 (a0_3.map c_T_api_Inst), .ow 1 (a0_4.map c_bool), .ow 1 (a0_5.map o_L7), .ow 1 (a0_6.map c_i64)]]⟩)] (by kernel_rfl) ?_
        obtain rfl := Option.some.inj hg
        exact W.ret (Ends.of [(200000, 200000)] (by kernel_rfl))
      refine WD.skip (by kernel_rfl) ?_
      refine WD.skip (by kernel_rfl) ?_
      refine WD.skip (by kernel_rfl) ?_
      refine WD.skip (by kernel_rfl) ?_
      refine WD.skip (by kernel_rfl) ?_
      refine WD.skip (by kernel_rfl) ?_
      refine WD.skip (by kernel_rfl) ?_
      refine WD.skip (by kernel_rfl) ?_
      refine WD.skip (by kernel_rfl) ?_
      refine WD.rd (av := Bl false) (by kernel_rfl) (by kernel_rfl) ?_
      refine WD.rd (av := Bl false) (by kernel_rfl) (by kernel_rfl) ?_
      refine WD.skip (by kernel_rfl) ?_
      refine WD.skip (by kernel_rfl) ?_
      refine WD.skip (by kernel_rfl) ?_
      refine WD.skip (by kernel_rfl) ?_
      refine WD.skip (by kernel_rfl) ?_
      refine WD.skip (by kernel_rfl) ?_
      refine WD.skip (by kernel_rfl) ?_
      refine WD.skip (by kernel_rfl) ?_
      refine WD.skip (by kernel_rfl) ?_
      refine WD.skip (by kernel_rfl) ?_
      refine WD.skip (by kernel_rfl) ?_
      refine WD.done (by kernel_rfl) (by kernel_rfl) ?_
      refine RG.fin 3 [(200000, 200000)] (envOf [(4, Bl false)]) [(200000, ⟨7, [[.im 3 (a0_0.map c_T_api_Param), .im 2 (a0_1.map c_T_api_Type), .im 5 (a0_2.map c_T_api_Slot), .im 7 (a0_3.map c_T_api_Inst), .ow 1 (a0_4.map c_bool), .ow 1 (a0_5.map o_L7), .ow 1 (a0_6.map c_i64)]]⟩)] (by kernel_rfl) ?_
      obtain rfl := Option.some.inj hg
      exact W.ret (Ends.of [(200000, 200000)] (by kernel_rfl))
    refine W.seq ?_
    refine W.regG ?_
    refine RG.fin 2 [(3, 3), (200000, 200000)] (envOf [(0, .pt 200000 [] 0 0), (3, .pt 3 [] 0 0), (161, Bl (v1.1.n_ == (4)))]) [(3, ⟨7, [[I64 a1.Op_, I64 a1.D_, I64 a1.A_, I64 a1.B_, I64 a1.C_, I64 a1.N_, .sc (.int .u32 a1.Bits_)]]⟩), (200000, ⟨7, [[.im 3 (a0_0.map c_T_api_Param), .im 2 (a0_1.map c_T_api_Type), .im 5 (a0_2.map c_T_api_Slot), .im 7 (a0_3.map c_T_api_Inst), .ow 1 (a0_4.map c_bool), .ow 1 (a0_5.map o_L7), .ow 1 (a0_6.map c_i64)]]⟩)] (by kernel_rfl) ?_
    refine W.condB (b := (v1.1.n_ == (4))) (by kernel_rfl) hg (fun hg => ?_) (fun hg => ?_)
    · refine W.seq ?_
      refine W.drawG [163, 164, 165, 166, 167, 168, 169, 170, 171, 172, 173, 174] (by kernel_rfl) (by kernel_rfl) ?_
      refine WD.rd (av := .pt 3 [] 0 5) (by kernel_rfl) (by kernel_rfl) ?_
      refine WD.rd (av := I64 a1.N_) (by kernel_rfl) (by kernel_rfl) ?_
      refine WD.rd (av := Bl (decide (a1.N_ ≥ (0)))) (by kernel_rfl) (by kernel_rfl) ?_
      refine WD.rd (av := Bl (decide (a1.N_ ≥ (0)))) (by kernel_rfl) (by kernel_rfl) ?_
      refine WD.guard (s := 166) (by kernel_rfl) hg (fun hg => ?_) (fun hg => ?_)
      · refine WD.rd (av := .pt 3 [] 0 5) (by kernel_rfl) (by kernel_rfl) ?_
        refine WD.rd (av := I64 a1.N_) (by kernel_rfl) (by kernel_rfl) ?_
        refine WD.rd (av := .pt 200000 [] 0 0) (by kernel_rfl) (by kernel_rfl) ?_
        refine WD.rd (av := .pt 200000 [] 0 0) (by kernel_rfl) (by kernel_rfl) ?_
        refine WD.rd (av := .pt 200000 [] 0 0) (by kernel_rfl) (by kernel_rfl) ?_
        refine WD.rd (av := .pt 200000 [] 0 0) (by kernel_rfl) (by kernel_rfl) ?_
        refine WD.rd (av := .im 3 (a0_0.map c_T_api_Param)) (by kernel_rfl) (by kernel_rfl) ?_
        refine WD.rd (av := I64 ((a0_0.map c_T_api_Param).length : Int)) (by kernel_rfl) (by kernel_rfl) ?_
        refine WD.done (by kernel_rfl) (by kernel_rfl) ?_
        refine RG.fin 3 [(200000, 200000)] (envOf [(4, Bl (decide (a1.N_ < ((a0_0.map c_T_api_Param).length : Int))))]) [(200000, ⟨7, [[.im 3 (a0_0.map c_T_api_Param), .im 2 (a0_1.map c_T_api_Type), .im 5 (a0_2.map c_T_api_Slot), .im 7 (a0_3.map c_T_api_Inst), .ow 1 (a0_4.map c_bool), .ow 1 (a0_5.map o_L7), .ow 1 (a0_6.map c_i64)]]⟩)] (by kernel_rfl) ?_
        obtain rfl := Option.some.inj hg
        exact W.ret (Ends.of [(200000, 200000)] (by kernel_rfl))
      refine WD.skip (by kernel_rfl) ?_
      refine WD.skip (by kernel_rfl) ?_
      refine WD.skip (by kernel_rfl) ?_
      refine WD.skip (by kernel_rfl) ?_
      refine WD.skip (by kernel_rfl) ?_
      refine WD.skip (by kernel_rfl) ?_
      refine WD.skip (by kernel_rfl) ?_
      refine WD.skip (by kernel_rfl) ?_
      refine WD.done (by kernel_rfl) (by kernel_rfl) ?_
      refine RG.fin 3 [(200000, 200000)] (envOf [(4, Bl false)]) [(200000, ⟨7, [[.im 3 (a0_0.map c_T_api_Param), .im 2 (a0_1.map c_T_api_Type), .im 5 (a0_2.map c_T_api_Slot), .im 7 (a0_3.map c_T_api_Inst), .ow 1 (a0_4.map c_bool), .ow 1 (a0_5.map o_L7), .ow 1 (a0_6.map c_i64)]]⟩)] (by kernel_rfl) ?_
      obtain rfl := Option.some.inj hg
      exact W.ret (Ends.of [(200000, 200000)] (by kernel_rfl))
    refine W.skip ?_
    refine W.seq ?_
    refine W.regG ?_
    refine RG.fin 4 [(200000, 200000)] (envOf [(4, Bl (a1.N_ == (0)))]) [(200000, ⟨7, [[.im 3 (a0_0.map c_T_api_Param), .im 2 (a0_1.map c_T_api_Type), .im 5 (a0_2.map c_T_api_Slot), .im 7 (a0_3.map c_T_api_Inst), .ow 1 (a0_4.map c_bool), .ow 1 (a0_5.map o_L7), .ow 1 (a0_6.map c_i64)]]⟩)] (by kernel_rfl) ?_
    obtain rfl := Option.some.inj hg
    exact W.ret (Ends.of [(200000, 200000)] (by kernel_rfl))
  refine W.seq ?_
  refine W.regG ?_
  refine RG.cut 4 [(3, 3), (5, 5), (8, 8), (200000, 200000)] [0, 3, 5, 8, 80, 81, 82, 83, 84, 87, 88, 89, 90, 91, 92, 93, 94] (envOf [(0, .pt 200000 [] 0 0), (3, .pt 3 [] 0 0), (5, .pt 5 [] 0 0), (8, .pt 8 [] 0 0), (80, Bl (a1.Op_ == (1))), (81, .un), (82, .un), (83, .un), (84, .un), (87, .un), (88, .un), (89, .un), (90, .un), (91, .un), (92, .un), (93, .un), (94, .un)]) [(3, ⟨7, [[I64 a1.Op_, I64 a1.D_, I64 a1.A_, I64 a1.B_, I64 a1.C_, I64 a1.N_, .sc (.int .u32 a1.Bits_)]]⟩), (5, ⟨5, [[I64 v1.1.d_, I64 v1.1.a_, I64 v1.1.b_, I64 v1.1.c_, I64 v1.1.n_]]⟩), (8, ⟨2, [[I64 t1.2.2.2.2.1, I64 t1.2.2.2.2.2]]⟩), (200000, ⟨7, [[.im 3 (a0_0.map c_T_api_Param), .im 2 (a0_1.map c_T_api_Type), .im 5 (a0_2.map c_T_api_Slot), .im 7 (a0_3.map c_T_api_Inst), .ow 1 (a0_4.map c_bool), .ow 1 (a0_5.map o_L7), .ow 1 (a0_6.map c_i64)]]⟩)] (by kernel_rfl) ?_
  refine RG.guard (s := 80) (by kernel_rfl) hg (fun hg => ?_) (fun hg => ?_)
  · refine RG.cut 2 [(3, 3), (5, 5), (8, 8), (200000, 200000)] [0, 3, 5, 8, 80, 82, 83, 84, 87, 88, 89, 90, 91, 92, 93, 94] (envOf [(0, .pt 200000 [] 0 0), (3, .pt 3 [] 0 0), (5, .pt 5 [] 0 0), (8, .pt 8 [] 0 0), (80, Bl true), (82, .sc (.int .u32 a1.Bits_)), (83, .un), (84, .un), (87, .un), (88, .un), (89, .un), (90, .un), (91, .un), (92, .un), (93, .un), (94, .un)]) [(3, ⟨7, [[I64 a1.Op_, I64 a1.D_, I64 a1.A_, I64 a1.B_, I64 a1.C_, I64 a1.N_, .sc (.int .u32 a1.Bits_)]]⟩), (5, ⟨5, [[I64 v1.1.d_, I64 v1.1.a_, I64 v1.1.b_, I64 v1.1.c_, I64 v1.1.n_]]⟩), (8, ⟨2, [[I64 t1.2.2.2.2.1, I64 t1.2.2.2.2.2]]⟩), (200000, ⟨7, [[.im 3 (a0_0.map c_T_api_Param), .im 2 (a0_1.map c_T_api_Type), .im 5 (a0_2.map c_T_api_Slot), .im 7 (a0_3.map c_T_api_Inst), .ow 1 (a0_4.map c_bool), .ow 1 (a0_5.map o_L7), .ow 1 (a0_6.map c_i64)]]⟩)] (by kernel_rfl) ?_
    refine RG.callP [] [(3, 3), (5, 5), (8, 8), (200000, 200000)] [0, 3, 5, 8, 80, 83, 84, 87, 88, 89, 90, 91, 92, 93, 94] false [.sc (.int .u32 a1.Bits_)] (fun v6 => Bl v6) (fun v6 => []) (fun v6 => envOf [(0, .pt 200000 [] 0 0), (3, .pt 3 [] 0 0), (5, .pt 5 [] 0 0), (8, .pt 8 [] 0 0), (80, Bl true), (83, Bl v6), (84, .un), (87, .un), (88, .un), (89, .un), (90, .un), (91, .un), (92, .un), (93, .un), (94, .un)]) (fun v6 => [(3, ⟨7, [[I64 a1.Op_, I64 a1.D_, I64 a1.A_, I64 a1.B_, I64 a1.C_, I64 a1.N_, .sc (.int .u32 a1.Bits_)]]⟩), (5, ⟨5, [[I64 v1.1.d_, I64 v1.1.a_, I64 v1.1.b_, I64 v1.1.c_, I64 v1.1.n_]]⟩), (8, ⟨2, [[I64 t1.2.2.2.2.1, I64 t1.2.2.2.2.2]]⟩), (200000, ⟨7, [[.im 3 (a0_0.map c_T_api_Param), .im 2 (a0_1.map c_T_api_Type), .im 5 (a0_2.map c_T_api_Slot), .im 7 (a0_3.map c_T_api_Inst), .ow 1 (a0_4.map c_bool), .ow 1 (a0_5.map o_L7), .ow 1 (a0_6.map c_i64)]]⟩)]) (by kernel_rfl) hg (by kernel_rfl) (fun v6 hv => CallOk.toG (g52_ok a1.Bits_ v6 hv)) (by kernel_rfl) (fun v6 => by kernel_rfl) (fun h => by cases h) (fun v6 hv hg => ?_)
    refine RG.cut 3 [(3, 3), (5, 5), (8, 8), (200000, 200000)] [0, 3, 5, 8, 86, 87, 88, 89, 90, 91, 92, 93, 94] (envOf [(0, .pt 200000 [] 0 0), (3, .pt 3 [] 0 0), (5, .pt 5 [] 0 0), (8, .pt 8 [] 0 0), (86, Bl (!v6)), (87, .un), (88, .un), (89, .un), (90, .un), (91, .un), (92, .un), (93, .un), (94, .un)]) [(3, ⟨7, [[I64 a1.Op_, I64 a1.D_, I64 a1.A_, I64 a1.B_, I64 a1.C_, I64 a1.N_, .sc (.int .u32 a1.Bits_)]]⟩), (5, ⟨5, [[I64 v1.1.d_, I64 v1.1.a_, I64 v1.1.b_, I64 v1.1.c_, I64 v1.1.n_]]⟩), (8, ⟨2, [[I64 t1.2.2.2.2.1, I64 t1.2.2.2.2.2]]⟩), (200000, ⟨7, [[.im 3 (a0_0.map c_T_api_Param), .im 2 (a0_1.map c_T_api_Type), .im 5 (a0_2.map c_T_api_Slot), .im 7 (a0_3.map c_T_api_Inst), .ow 1 (a0_4.map c_bool), .ow 1 (a0_5.map o_L7), .ow 1 (a0_6.map c_i64)]]⟩)] (by kernel_rfl) ?_
    refine RG.guard (s := 86) (by kernel_rfl) hg (fun hg => ?_) (fun hg => ?_)
    · refine RG.fin 9 [(3, 3), (5, 5), (8, 8), (200000, 200000)] (envOf [(0, .pt 200000 [] 0 0), (3, .pt 3 [] 0 0), (5, .pt 5 [] 0 0), (8, .pt 8 [] 0 0), (95, Bl true)]) [(3, ⟨7, [[I64 a1.Op_, I64 a1.D_, I64 a1.A_, I64 a1.B_, I64 a1.C_, I64 a1.N_, .sc (.int .u32 a1.Bits_)]]⟩), (5, ⟨5, [[I64 v1.1.d_, I64 v1.1.a_, I64 v1.1.b_, I64 v1.1.c_, I64 v1.1.n_]]⟩), (8, ⟨2, [[I64 t1.2.2.2.2.1, I64 t1.2.2.2.2.2]]⟩), (200000, ⟨7, [[.im 3 (a0_0.map c_T_api_Param), .im 2 (a0_1.map c_T_api_Type), .im 5 (a0_2.map c_T_api_Slot), .im 7 (a0_3.map c_T_api_Inst), .ow 1 (a0_4.map c_bool), .ow 1 (a0_5.map o_L7), .ow 1 (a0_6.map c_i64)]]⟩)] (by kernel_rfl) ?_
      refine W.condT (by kernel_rfl) ?_
      refine W.seq ?_
      refine W.regG ?_
      refine RG.fin 1 [(200000, 200000)] (envOf [(4, Bl false)]) [(200000, ⟨7, [[.im 3 (a0_0.map c_T_api_Param), .im 2 (a0_1.map c_T_api_Type), .im 5 (a0_2.map c_T_api_Slot), .im 7 (a0_3.map c_T_api_Inst), .ow 1 (a0_4.map c_bool), .ow 1 (a0_5.map o_L7), .ow 1 (a0_6.map c_i64)]]⟩)] (by kernel_rfl) ?_
      obtain rfl := Option.some.inj hg
      exact W.ret (Ends.of [(200000, 200000)] (by kernel_rfl))
    refine RG.cut 4 [(3, 3), (5, 5), (8, 8), (200000, 200000)] [0, 3, 5, 8, 86, 90, 91, 92, 93, 94] (envOf [(0, .pt 200000 [] 0 0), (3, .pt 3 [] 0 0), (5, .pt 5 [] 0 0), (8, .pt 8 [] 0 0), (86, Bl false), (90, Bl (a1.Op_ != (1))), (91, .un), (92, .un), (93, .un), (94, .un)]) [(3, ⟨7, [[I64 a1.Op_, I64 a1.D_, I64 a1.A_, I64 a1.B_, I64 a1.C_, I64 a1.N_, .sc (.int .u32 a1.Bits_)]]⟩), (5, ⟨5, [[I64 v1.1.d_, I64 v1.1.a_, I64 v1.1.b_, I64 v1.1.c_, I64 v1.1.n_]]⟩), (8, ⟨2, [[I64 t1.2.2.2.2.1, I64 t1.2.2.2.2.2]]⟩), (200000, ⟨7, [[.im 3 (a0_0.map c_T_api_Param), .im 2 (a0_1.map c_T_api_Type), .im 5 (a0_2.map c_T_api_Slot), .im 7 (a0_3.map c_T_api_Inst), .ow 1 (a0_4.map c_bool), .ow 1 (a0_5.map o_L7), .ow 1 (a0_6.map c_i64)]]⟩)] (by kernel_rfl) ?_
    refine RG.guard (s := 90) (by kernel_rfl) hg (fun hg => ?_) (fun hg => ?_)
    · refine RG.fin 5 [(3, 3), (5, 5), (8, 8), (200000, 200000)] (envOf [(0, .pt 200000 [] 0 0), (3, .pt 3 [] 0 0), (5, .pt 5 [] 0 0), (8, .pt 8 [] 0 0), (95, Bl (a1.Bits_ != (0)))]) [(3, ⟨7, [[I64 a1.Op_, I64 a1.D_, I64 a1.A_, I64 a1.B_, I64 a1.C_, I64 a1.N_, .sc (.int .u32 a1.Bits_)]]⟩), (5, ⟨5, [[I64 v1.1.d_, I64 v1.1.a_, I64 v1.1.b_, I64 v1.1.c_, I64 v1.1.n_]]⟩), (8, ⟨2, [[I64 t1.2.2.2.2.1, I64 t1.2.2.2.2.2]]⟩), (200000, ⟨7, [[.im 3 (a0_0.map c_T_api_Param), .im 2 (a0_1.map c_T_api_Type), .im 5 (a0_2.map c_T_api_Slot), .im 7 (a0_3.map c_T_api_Inst), .ow 1 (a0_4.map c_bool), .ow 1 (a0_5.map o_L7), .ow 1 (a0_6.map c_i64)]]⟩)] (by kernel_rfl) ?_
      refine W.condB (b := (a1.Bits_ != (0))) (by kernel_rfl) hg (fun hg => ?_) (fun hg => ?_)
      · refine W.seq ?_
        refine W.regG ?_
        refine RG.fin 1 [(200000, 200000)] (envOf [(4, Bl false)]) [(200000, ⟨7, [[.im 3 (a0_0.map c_T_api_Param), .im 2 (a0_1.map c_T_api_Type), .im 5 (a0_2.map c_T_api_Slot), .im 7 (a0_3.map c_T_api_Inst), .ow 1 (a0_4.map c_bool), .ow 1 (a0_5.map o_L7), .ow 1 (a0_6.map c_i64)]]⟩)] (by kernel_rfl) ?_
        obtain rfl := Option.some.inj hg
        exact W.ret (Ends.of [(200000, 200000)] (by kernel_rfl))
      refine W.norm [(3, 3), (5, 5), (8, 8), (200000, 200000)] [0, 3, 5, 8, 95] (envOf [(0, .pt 200000 [] 0 0), (3, .pt 3 [] 0 0), (5, .pt 5 [] 0 0), (8, .pt 8 [] 0 0), (95, Bl (a1.Bits_ != (0)))]) [(3, ⟨7, [[I64 a1.Op_, I64 a1.D_, I64 a1.A_, I64 a1.B_, I64 a1.C_, I64 a1.N_, .sc (.int .u32 a1.Bits_)]]⟩), (5, ⟨5, [[I64 v1.1.d_, I64 v1.1.a_, I64 v1.1.b_, I64 v1.1.c_, I64 v1.1.n_]]⟩), (8, ⟨2, [[I64 t1.2.2.2.2.1, I64 t1.2.2.2.2.2]]⟩), (200000, ⟨7, [[.im 3 (a0_0.map c_T_api_Param), .im 2 (a0_1.map c_T_api_Type), .im 5 (a0_2.map c_T_api_Slot), .im 7 (a0_3.map c_T_api_Inst), .ow 1 (a0_4.map c_bool), .ow 1 (a0_5.map o_L7), .ow 1 (a0_6.map c_i64)]]⟩)] (by kernel_rfl) ?_
      refine W.skip ?_
      exact W.toJ (a1.Bits_ != (0)) hg (by kernel_rfl) (by kernel_rfl)
    refine RG.fin 5 [(3, 3), (5, 5), (8, 8), (200000, 200000)] (envOf [(0, .pt 200000 [] 0 0), (3, .pt 3 [] 0 0), (5, .pt 5 [] 0 0), (8, .pt 8 [] 0 0), (95, Bl false)]) [(3, ⟨7, [[I64 a1.Op_, I64 a1.D_, I64 a1.A_, I64 a1.B_, I64 a1.C_, I64 a1.N_, .sc (.int .u32 a1.Bits_)]]⟩), (5, ⟨5, [[I64 v1.1.d_, I64 v1.1.a_, I64 v1.1.b_, I64 v1.1.c_, I64 v1.1.n_]]⟩), (8, ⟨2, [[I64 t1.2.2.2.2.1, I64 t1.2.2.2.2.2]]⟩), (200000, ⟨7, [[.im 3 (a0_0.map c_T_api_Param), .im 2 (a0_1.map c_T_api_Type), .im 5 (a0_2.map c_T_api_Slot), .im 7 (a0_3.map c_T_api_Inst), .ow 1 (a0_4.map c_bool), .ow 1 (a0_5.map o_L7), .ow 1 (a0_6.map c_i64)]]⟩)] (by kernel_rfl) ?_
    refine W.condF (by kernel_rfl) ?_
    refine W.norm [(3, 3), (5, 5), (8, 8), (200000, 200000)] [0, 3, 5, 8, 95] (envOf [(0, .pt 200000 [] 0 0), (3, .pt 3 [] 0 0), (5, .pt 5 [] 0 0), (8, .pt 8 [] 0 0), (95, Bl false)]) [(3, ⟨7, [[I64 a1.Op_, I64 a1.D_, I64 a1.A_, I64 a1.B_, I64 a1.C_, I64 a1.N_, .sc (.int .u32 a1.Bits_)]]⟩), (5, ⟨5, [[I64 v1.1.d_, I64 v1.1.a_, I64 v1.1.b_, I64 v1.1.c_, I64 v1.1.n_]]⟩), (8, ⟨2, [[I64 t1.2.2.2.2.1, I64 t1.2.2.2.2.2]]⟩), (200000, ⟨7, [[.im 3 (a0_0.map c_T_api_Param), .im 2 (a0_1.map c_T_api_Type), .im 5 (a0_2.map c_T_api_Slot), .im 7 (a0_3.map c_T_api_Inst), .ow 1 (a0_4.map c_bool), .ow 1 (a0_5.map o_L7), .ow 1 (a0_6.map c_i64)]]⟩)] (by kernel_rfl) ?_
    refine W.skip ?_
    exact W.toJ false hg (by kernel_rfl) (by kernel_rfl)
  refine RG.cut 10 [(3, 3), (5, 5), (8, 8), (200000, 200000)] [0, 3, 5, 8, 86, 90, 91, 92, 93, 94] (envOf [(0, .pt 200000 [] 0 0), (3, .pt 3 [] 0 0), (5, .pt 5 [] 0 0), (8, .pt 8 [] 0 0), (86, Bl false), (90, Bl (a1.Op_ != (1))), (91, .un), (92, .un), (93, .un), (94, .un)]) [(3, ⟨7, [[I64 a1.Op_, I64 a1.D_, I64 a1.A_, I64 a1.B_, I64 a1.C_, I64 a1.N_, .sc (.int .u32 a1.Bits_)]]⟩), (5, ⟨5, [[I64 v1.1.d_, I64 v1.1.a_, I64 v1.1.b_, I64 v1.1.c_, I64 v1.1.n_]]⟩), (8, ⟨2, [[I64 t1.2.2.2.2.1, I64 t1.2.2.2.2.2]]⟩), (200000, ⟨7, [[.im 3 (a0_0.map c_T_api_Param), .im 2 (a0_1.map c_T_api_Type), .im 5 (a0_2.map c_T_api_Slot), .im 7 (a0_3.map c_T_api_Inst), .ow 1 (a0_4.map c_bool), .ow 1 (a0_5.map o_L7), .ow 1 (a0_6.map c_i64)]]⟩)] (by kernel_rfl) ?_
  refine RG.guard (s := 90) (by kernel_rfl) hg (fun hg => ?_) (fun hg => ?_)
  · refine RG.fin 5 [(3, 3), (5, 5), (8, 8), (200000, 200000)] (envOf [(0, .pt 200000 [] 0 0), (3, .pt 3 [] 0 0), (5, .pt 5 [] 0 0), (8, .pt 8 [] 0 0), (95, Bl (a1.Bits_ != (0)))]) [(3, ⟨7, [[I64 a1.Op_, I64 a1.D_, I64 a1.A_, I64 a1.B_, I64 a1.C_, I64 a1.N_, .sc (.int .u32 a1.Bits_)]]⟩), (5, ⟨5, [[I64 v1.1.d_, I64 v1.1.a_, I64 v1.1.b_, I64 v1.1.c_, I64 v1.1.n_]]⟩), (8, ⟨2, [[I64 t1.2.2.2.2.1, I64 t1.2.2.2.2.2]]⟩), (200000, ⟨7, [[.im 3 (a0_0.map c_T_api_Param), .im 2 (a0_1.map c_T_api_Type), .im 5 (a0_2.map c_T_api_Slot), .im 7 (a0_3.map c_T_api_Inst), .ow 1 (a0_4.map c_bool), .ow 1 (a0_5.map o_L7), .ow 1 (a0_6.map c_i64)]]⟩)] (by kernel_rfl) ?_
    refine W.condB (b := (a1.Bits_ != (0))) (by kernel_rfl) hg (fun hg => ?_) (fun hg => ?_)
    · refine W.seq ?_
      refine W.regG ?_
      refine RG.fin 1 [(200000, 200000)] (envOf [(4, Bl false)]) [(200000, ⟨7, [[.im 3 (a0_0.map c_T_api_Param), .im 2 (a0_1.map c_T_api_Type), .im 5 (a0_2.map c_T_api_Slot), .im 7 (a0_3.map c_T_api_Inst), .ow 1 (a0_4.map c_bool), .ow 1 (a0_5.map o_L7), .ow 1 (a0_6.map c_i64)]]⟩)] (by kernel_rfl) ?_
      obtain rfl := Option.some.inj hg
      exact W.ret (Ends.of [(200000, 200000)] (by kernel_rfl))
    refine W.norm [(3, 3), (5, 5), (8, 8), (200000, 200000)] [0, 3, 5, 8, 95] (envOf [(0, .pt 200000 [] 0 0), (3, .pt 3 [] 0 0), (5, .pt 5 [] 0 0), (8, .pt 8 [] 0 0), (95, Bl (a1.Bits_ != (0)))]) [(3, ⟨7, [[I64 a1.Op_, I64 a1.D_, I64 a1.A_, I64 a1.B_, I64 a1.C_, I64 a1.N_, .sc (.int .u32 a1.Bits_)]]⟩), (5, ⟨5, [[I64 v1.1.d_, I64 v1.1.a_, I64 v1.1.b_, I64 v1.1.c_, I64 v1.1.n_]]⟩), (8, ⟨2, [[I64 t1.2.2.2.2.1, I64 t1.2.2.2.2.2]]⟩), (200000, ⟨7, [[.im 3 (a0_0.map c_T_api_Param), .im 2 (a0_1.map c_T_api_Type), .im 5 (a0_2.map c_T_api_Slot), .im 7 (a0_3.map c_T_api_Inst), .ow 1 (a0_4.map c_bool), .ow 1 (a0_5.map o_L7), .ow 1 (a0_6.map c_i64)]]⟩)] (by kernel_rfl) ?_
    refine W.skip ?_
    exact W.toJ (a1.Bits_ != (0)) hg (by kernel_rfl) (by kernel_rfl)
  refine RG.fin 5 [(3, 3), (5, 5), (8, 8), (200000, 200000)] (envOf [(0, .pt 200000 [] 0 0), (3, .pt 3 [] 0 0), (5, .pt 5 [] 0 0), (8, .pt 8 [] 0 0), (95, Bl false)]) [(3, ⟨7, [[I64 a1.Op_, I64 a1.D_, I64 a1.A_, I64 a1.B_, I64 a1.C_, I64 a1.N_, .sc (.int .u32 a1.Bits_)]]⟩), (5, ⟨5, [[I64 v1.1.d_, I64 v1.1.a_, I64 v1.1.b_, I64 v1.1.c_, I64 v1.1.n_]]⟩), (8, ⟨2, [[I64 t1.2.2.2.2.1, I64 t1.2.2.2.2.2]]⟩), (200000, ⟨7, [[.im 3 (a0_0.map c_T_api_Param), .im 2 (a0_1.map c_T_api_Type), .im 5 (a0_2.map c_T_api_Slot), .im 7 (a0_3.map c_T_api_Inst), .ow 1 (a0_4.map c_bool), .ow 1 (a0_5.map o_L7), .ow 1 (a0_6.map c_i64)]]⟩)] (by kernel_rfl) ?_
  refine W.condF (by kernel_rfl) ?_
  refine W.norm [(3, 3), (5, 5), (8, 8), (200000, 200000)] [0, 3, 5, 8, 95] (envOf [(0, .pt 200000 [] 0 0), (3, .pt 3 [] 0 0), (5, .pt 5 [] 0 0), (8, .pt 8 [] 0 0), (95, Bl false)]) [(3, ⟨7, [[I64 a1.Op_, I64 a1.D_, I64 a1.A_, I64 a1.B_, I64 a1.C_, I64 a1.N_, .sc (.int .u32 a1.Bits_)]]⟩), (5, ⟨5, [[I64 v1.1.d_, I64 v1.1.a_, I64 v1.1.b_, I64 v1.1.c_, I64 v1.1.n_]]⟩), (8, ⟨2, [[I64 t1.2.2.2.2.1, I64 t1.2.2.2.2.2]]⟩), (200000, ⟨7, [[.im 3 (a0_0.map c_T_api_Param), .im 2 (a0_1.map c_T_api_Type), .im 5 (a0_2.map c_T_api_Slot), .im 7 (a0_3.map c_T_api_Inst), .ow 1 (a0_4.map c_bool), .ow 1 (a0_5.map o_L7), .ow 1 (a0_6.map c_i64)]]⟩)] (by kernel_rfl) ?_
  refine W.skip ?_
  exact W.toJ false hg (by kernel_rfl) (by kernel_rfl)
end Loom
