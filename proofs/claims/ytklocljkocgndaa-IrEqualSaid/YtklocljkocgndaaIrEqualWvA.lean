/- What the functions that IrEqual reaches answer, and that they do (part 1 of 2). -/
import Derived.Test.YtklocljkocgndaaIrEqualIc
import Derived.WalkKit
import Derived.WalkSpells
import Derived.WalkLawsBesides
import Derived.Lib.Bytealg
set_option linter.unusedVariables false
set_option linter.unusedSimpArgs false
namespace Loom
open Go Go.RowKit
set_option maxRecDepth 100000
structure T_api_Param where
  Name_ : ByteArray
  Kind_ : Int
  Len_ : Int
def c_u8 (x : Int) : List AV := [.sc (.int .u8 x)]
def c_T_api_Param (x : T_api_Param) : List AV := [St x.Name_, I64 x.Kind_, I64 x.Len_]
structure T_api_Type where
  Kind_ : Int
  Param_ : Int
structure T_api_Slot where
  Type_ : T_api_Type
  Keep_ : Bool
  Bits_ : Int
  Int_ : Int
structure T_api_Inst where
  Op_ : Int
  D_ : Int
  A_ : Int
  B_ : Int
  C_ : Int
  N_ : Int
  Bits_ : Int
structure T_api_Code where
  Sign_ : (List T_api_Param)
  Regs_ : (List T_api_Type)
  Slots_ : (List T_api_Slot)
  List_ : (List T_api_Inst)
def c_T_api_Type (x : T_api_Type) : List AV := [I64 x.Kind_, I64 x.Param_]
def c_T_api_Slot (x : T_api_Slot) : List AV := [I64 x.Type_.Kind_, I64 x.Type_.Param_, Bl x.Keep_, .sc (.int .u32 x.Bits_), I64 x.Int_]
def c_T_api_Inst (x : T_api_Inst) : List AV := [I64 x.Op_, I64 x.D_, I64 x.A_, I64 x.B_, I64 x.C_, I64 x.N_, .sc (.int .u32 x.Bits_)]
def c_bool (x : Bool) : List AV := [Bl x]
def c_i64 (x : Int) : List AV := [I64 x]
def o_L6 (x : (List Int)) : List AV := [.ow 1 (x.map c_i64)]
structure T_ir_row where
  d_ : Int
  a_ : Int
  b_ : Int
  c_ : Int
  n_ : Int
def c_T_api_Code (x : T_api_Code) : List AV := [.im 3 (x.Sign_.map c_T_api_Param), .im 2 (x.Regs_.map c_T_api_Type), .im 5 (x.Slots_.map c_T_api_Slot), .im 7 (x.List_.map c_T_api_Inst)]
set_option maxHeartbeats 1000000 in
theorem walk71 (s : ByteArray) (c : Int) (w : World) :
    Calls Go.Proofs.Try.prog 71 #[.string s, .int .u8 c] w fun e w' => e = .returned (.int .i64 (Lib.indexByte s.data.toList c.toNat.toUInt8)) ∧ w' = w := by
  go_enter Go.Proofs.Try.func71, Go.Proofs.Try.ntmps71
  go_wp2
  rw [run_callFunc_extern Go.Proofs.Try.func72 (by kernel_rfl) (by kernel_rfl) (by kernel_rfl) (e := Extern.BytealgIndexByte.indexByte) (by kernel_rfl), Lib.run_indexByteString]
  simp only [Result.andThen]
  rw [Oper.upon_value]
  go_wp2
  go_ret
  exact ⟨rfl, rfl⟩
def g71 (a0 : ByteArray) (a1 : Int) : Option Int := some (Lib.indexByte a0.data.toList a1.toNat.toUInt8)
theorem g71_ok (a0 : ByteArray) (a1 : Int) (r : Int) (hg : g71 a0 a1 = some r) : CallOk Go.Proofs.Try.prog 71 [St a0, .sc (.int .u8 a1)] [] (I64 r) [] := by
  obtain rfl := Option.some.inj hg
  exact CallOk.quiet (vs := [.string a0, .int .u8 a1]) fun w => walk71 a0 a1 w
def g68 (a0 : ByteArray) (a1 : Int) : Option Int := (g71 a0 a1).bind fun v1 => some v1
theorem g68_ok (a0 : ByteArray) (a1 : Int) (r : Int) (hg : g68 a0 a1 = some r) : CallOk Go.Proofs.Try.prog 68 [St a0, .sc (.int .u8 a1)] [] (I64 r) [] := by
  unfold g68 at hg
  refine CallG.narrow ?_ (by kernel_rfl) (by kernel_rfl)
  refine .of_S [0, 1] (envOf [(0, St a0), (1, .sc (.int .u8 a1))]) fn68 (by kernel_rfl) ?_
  refine W.seq ?_
  refine W.regG ?_
  refine RG.fin 1 [] (envOf [(0, St a0), (1, .sc (.int .u8 a1))]) [] (by kernel_rfl) ?_
  refine W.seq ?_
  refine W.regG ?_
  refine RG.cut 2 [] [5, 6] (envOf [(5, St a0), (6, .sc (.int .u8 a1))]) [] (by kernel_rfl) ?_
  refine RG.callP [] [] [7] false [St a0, .sc (.int .u8 a1)] (fun v1 => I64 v1) (fun v1 => []) (fun v1 => envOf [(7, I64 v1)]) (fun v1 => []) (by kernel_rfl) hg (by kernel_rfl) (fun v1 hv => CallOk.toG (g71_ok a0 a1 v1 hv)) (by kernel_rfl) (fun v1 => by kernel_rfl) (fun h => by cases h) (fun v1 hv hg => ?_)
  refine RG.fin 1 [] (envOf [(4, I64 v1)]) [] (by kernel_rfl) ?_
  obtain rfl := Option.some.inj hg
  exact W.ret (Ends.of [] (by kernel_rfl))
def g61_b1 (n : Nat) (a0 : ByteArray) (s1 : Int) : Option (Bo Int (Int × Bool) Bool) := bif (decide (s1 < (((bytesOf a0).map c_u8).length : Int))) then (idx (bytesOf a0) s1).bind fun y2 => joinJ (fun p4 : Bool => bif p4 then bif p4 then some (.go (IntKind.i64.wrap (s1 + (1)))) else some (.ret false) else joinJ (fun p5 : Bool => bif p5 then bif p5 then some (.go (IntKind.i64.wrap (s1 + (1)))) else some (.ret false) else joinJ (fun p6 : Bool => bif p6 then bif p6 then some (.go (IntKind.i64.wrap (s1 + (1)))) else some (.ret false) else (g68 ⟨#[95, 46, 47, 45]⟩ y2).bind fun v2 => bif (decide (v2 ≥ (0))) then some (.go (IntKind.i64.wrap (s1 + (1)))) else some (.ret false)) fun J6 => bif (decide (y2 ≥ (48))) then J6 (decide (y2 ≤ (57))) else J6 false) fun J5 => bif (decide (y2 ≥ (97))) then J5 (decide (y2 ≤ (122))) else J5 false) fun J4 => bif (decide (y2 ≥ (65))) then J4 (decide (y2 ≤ (90))) else J4 false else some (.out (s1, (decide (s1 < (((bytesOf a0).map c_u8).length : Int)))))
def g61 (n : Nat) (a0 : ByteArray) : Option Bool := bif (a0 == ⟨#[]⟩) then some false else bif (decide ((a0.size : Int) > (64))) then some false else (iter (g61_b1 n a0) n (0)).bind (Bo.then (fun t1 => some true) some)
theorem g61_ok (n : Nat) (a0 : ByteArray) (r : Bool) (hg : g61 n a0 = some r) : CallOk Go.Proofs.Try.prog 61 [St a0] [] (Bl r) [] := by
  unfold g61 at hg
  refine CallG.narrow ?_ (by kernel_rfl) (by kernel_rfl)
  refine .of_S [0] (envOf [(0, St a0)]) fn61 (by kernel_rfl) ?_
  refine W.seq ?_
  refine W.regG ?_
  refine RG.fin 1 [] (envOf [(0, St a0)]) [] (by kernel_rfl) ?_
  refine W.seq ?_
  refine W.seq ?_
  refine W.regG ?_
  refine RG.cut 3 [] [0, 7, 8, 9, 10] (envOf [(0, St a0), (7, Bl (a0 == ⟨#[]⟩)), (8, .un), (9, .un), (10, .un)]) [] (by kernel_rfl) ?_
  refine RG.guard (s := 7) (by kernel_rfl) hg (fun hg => ?_) (fun hg => ?_)
  · refine RG.fin 4 [] (envOf [(0, St a0), (11, Bl true)]) [] (by kernel_rfl) ?_
    refine W.condT (by kernel_rfl) ?_
    refine W.seq ?_
    refine W.regG ?_
    refine RG.fin 1 [] (envOf [(2, Bl false)]) [] (by kernel_rfl) ?_
    obtain rfl := Option.some.inj hg
    exact W.ret (Ends.of [] (by kernel_rfl))
  refine RG.fin 4 [] (envOf [(0, St a0), (11, Bl (decide ((a0.size : Int) > (64))))]) [] (by kernel_rfl) ?_
  refine W.condB (b := (decide ((a0.size : Int) > (64)))) (by kernel_rfl) hg (fun hg => ?_) (fun hg => ?_)
  · refine W.seq ?_
    refine W.regG ?_
    refine RG.fin 1 [] (envOf [(2, Bl false)]) [] (by kernel_rfl) ?_
    obtain rfl := Option.some.inj hg
    exact W.ret (Ends.of [] (by kernel_rfl))
  refine W.skip ?_
  refine W.seq ?_
  refine W.seq ?_
  refine W.regG ?_
  refine RG.fin 4 [] (envOf [(13, .im 1 ((bytesOf a0).map c_u8)), (14, I64 (((bytesOf a0).map c_u8).length : Int)), (15, I64 (0))]) [] (by kernel_rfl) ?_
  refine W.norm [] [13, 14, 15] (envOf [(13, .im 1 ((bytesOf a0).map c_u8)), (14, I64 (((bytesOf a0).map c_u8).length : Int)), (15, I64 (0))]) [] (by kernel_rfl) ?_
  refine W.loopB (fun s1 : Int => envOf [(13, .im 1 ((bytesOf a0).map c_u8)), (14, I64 (((bytesOf a0).map c_u8).length : Int)), (15, I64 s1)]) (fun s1 : Int => []) (fun t1 : Int × Bool => envOf [(13, .im 1 ((bytesOf a0).map c_u8)), (14, I64 (((bytesOf a0).map c_u8).length : Int)), (15, I64 t1.1), (16, Bl t1.2)]) (fun t1 : Int × Bool => []) (fun (r : Bool) e h => Ends [.t 2] [] (Bl r) [] .ret e h) hg (by kernel_rfl) (by kernel_rfl) (fun s1 bb hg => ?_) (fun r' hr e h q => by cases hr; exact q) (fun t1 hg => ?_)
  · unfold g61_b1 at hg
    refine W.seq ?_
    refine W.regG ?_
    refine RG.fin 1 [] (envOf [(13, .im 1 ((bytesOf a0).map c_u8)), (14, I64 (((bytesOf a0).map c_u8).length : Int)), (15, I64 s1), (16, Bl (decide (s1 < (((bytesOf a0).map c_u8).length : Int))))]) [] (by kernel_rfl) ?_
    refine W.seq ?_
    refine W.condB (b := (decide (s1 < (((bytesOf a0).map c_u8).length : Int)))) (by kernel_rfl) hg (fun hg => ?_) (fun hg => ?_)
    · refine W.skip ?_
      refine W.seq ?_
      refine W.block ?_
      refine W.seq ?_
      refine W.regG ?_
      refine RG.iadIm (c := c_u8) (xs := (bytesOf a0)) (i := s1) (k := .i64) (by kernel_rfl) (by kernel_rfl) (by kernel_rfl) hg (fun y2 _ hg => ?_)
      refine RG.fin 2 [] (envOf [(4, .sc (.int .u8 y2)), (13, .im 1 ((bytesOf a0).map c_u8)), (14, I64 (((bytesOf a0).map c_u8).length : Int)), (15, I64 s1)]) [] (by kernel_rfl) ?_
      refine W.block ?_
      refine W.seq ?_
      refine W.seqJ (fun p4 : Bool => envOf [(4, .sc (.int .u8 y2)), (13, .im 1 ((bytesOf a0).map c_u8)), (14, I64 (((bytesOf a0).map c_u8).length : Int)), (15, I64 s1), (19, Bl p4)]) (fun p4 : Bool => []) hg (fun p4 hg => ?_) (fun hg => ?_)
      · refine W.condB (b := p4) (by kernel_rfl) hg (fun hg => ?_) (fun hg => ?_)
        · refine W.skip ?_
          refine W.condB (b := p4) (by kernel_rfl) hg (fun hg => ?_) (fun hg => ?_)
          · refine W.skip ?_
            refine W.regG ?_
            refine RG.fin 2 [] (envOf [(13, .im 1 ((bytesOf a0).map c_u8)), (14, I64 (((bytesOf a0).map c_u8).length : Int)), (15, I64 (IntKind.i64.wrap (s1 + (1))))]) [] (by kernel_rfl) ?_
            obtain rfl := Option.some.inj hg
            exact ⟨rfl, by kernel_rfl, by kernel_rfl⟩
          refine W.seq ?_
          refine W.regG ?_
          refine RG.fin 1 [] (envOf [(2, Bl false)]) [] (by kernel_rfl) ?_
          obtain rfl := Option.some.inj hg
          exact W.ret ⟨rfl, Ends.of [] (by kernel_rfl)⟩
        refine W.seqJ (fun p5 : Bool => envOf [(4, .sc (.int .u8 y2)), (13, .im 1 ((bytesOf a0).map c_u8)), (14, I64 (((bytesOf a0).map c_u8).length : Int)), (15, I64 s1), (19, Bl p5)]) (fun p5 : Bool => []) hg (fun p5 hg => ?_) (fun hg => ?_)
        · refine W.condB (b := p5) (by kernel_rfl) hg (fun hg => ?_) (fun hg => ?_)
          · refine W.skip ?_
            refine W.condB (b := p5) (by kernel_rfl) hg (fun hg => ?_) (fun hg => ?_)
            · refine W.skip ?_
              refine W.regG ?_
              refine RG.fin 2 [] (envOf [(13, .im 1 ((bytesOf a0).map c_u8)), (14, I64 (((bytesOf a0).map c_u8).length : Int)), (15, I64 (IntKind.i64.wrap (s1 + (1))))]) [] (by kernel_rfl) ?_
              obtain rfl := Option.some.inj hg
              exact ⟨rfl, by kernel_rfl, by kernel_rfl⟩
            refine W.seq ?_
            refine W.regG ?_
            refine RG.fin 1 [] (envOf [(2, Bl false)]) [] (by kernel_rfl) ?_
            obtain rfl := Option.some.inj hg
            exact W.ret ⟨rfl, Ends.of [] (by kernel_rfl)⟩
          refine W.seqJ (fun p6 : Bool => envOf [(4, .sc (.int .u8 y2)), (13, .im 1 ((bytesOf a0).map c_u8)), (14, I64 (((bytesOf a0).map c_u8).length : Int)), (15, I64 s1), (19, Bl p6)]) (fun p6 : Bool => []) hg (fun p6 hg => ?_) (fun hg => ?_)
          · refine W.condB (b := p6) (by kernel_rfl) hg (fun hg => ?_) (fun hg => ?_)
            · refine W.skip ?_
              refine W.condB (b := p6) (by kernel_rfl) hg (fun hg => ?_) (fun hg => ?_)
              · refine W.skip ?_
                refine W.regG ?_
                refine RG.fin 2 [] (envOf [(13, .im 1 ((bytesOf a0).map c_u8)), (14, I64 (((bytesOf a0).map c_u8).length : Int)), (15, I64 (IntKind.i64.wrap (s1 + (1))))]) [] (by kernel_rfl) ?_
                obtain rfl := Option.some.inj hg
                exact ⟨rfl, by kernel_rfl, by kernel_rfl⟩
              refine W.seq ?_
              refine W.regG ?_
              refine RG.fin 1 [] (envOf [(2, Bl false)]) [] (by kernel_rfl) ?_
              obtain rfl := Option.some.inj hg
              exact W.ret ⟨rfl, Ends.of [] (by kernel_rfl)⟩
            refine W.regG ?_
            refine RG.cut 1 [] [13, 14, 15, 38] (envOf [(13, .im 1 ((bytesOf a0).map c_u8)), (14, I64 (((bytesOf a0).map c_u8).length : Int)), (15, I64 s1), (38, .sc (.int .u8 y2))]) [] (by kernel_rfl) ?_
            refine RG.callP [] [] [13, 14, 15, 39] false [St ⟨#[95, 46, 47, 45]⟩, .sc (.int .u8 y2)] (fun v2 => I64 v2) (fun v2 => []) (fun v2 => envOf [(13, .im 1 ((bytesOf a0).map c_u8)), (14, I64 (((bytesOf a0).map c_u8).length : Int)), (15, I64 s1), (39, I64 v2)]) (fun v2 => []) (by kernel_rfl) hg (by kernel_rfl) (fun v2 hv => CallOk.toG (g68_ok ⟨#[95, 46, 47, 45]⟩ y2 v2 hv)) (by kernel_rfl) (fun v2 => by kernel_rfl) (fun h => by cases h) (fun v2 hv hg => ?_)
            refine RG.fin 2 [] (envOf [(13, .im 1 ((bytesOf a0).map c_u8)), (14, I64 (((bytesOf a0).map c_u8).length : Int)), (15, I64 s1), (19, Bl (decide (v2 ≥ (0))))]) [] (by kernel_rfl) ?_
            refine W.condB (b := (decide (v2 ≥ (0)))) (by kernel_rfl) hg (fun hg => ?_) (fun hg => ?_)
            · refine W.skip ?_
              refine W.regG ?_
              refine RG.fin 2 [] (envOf [(13, .im 1 ((bytesOf a0).map c_u8)), (14, I64 (((bytesOf a0).map c_u8).length : Int)), (15, I64 (IntKind.i64.wrap (s1 + (1))))]) [] (by kernel_rfl) ?_
              obtain rfl := Option.some.inj hg
              exact ⟨rfl, by kernel_rfl, by kernel_rfl⟩
            refine W.seq ?_
            refine W.regG ?_
            refine RG.fin 1 [] (envOf [(2, Bl false)]) [] (by kernel_rfl) ?_
            obtain rfl := Option.some.inj hg
            exact W.ret ⟨rfl, Ends.of [] (by kernel_rfl)⟩
          refine W.regG ?_
          refine RG.cut 3 [] [4, 13, 14, 15, 34, 35, 36] (envOf [(4, .sc (.int .u8 y2)), (13, .im 1 ((bytesOf a0).map c_u8)), (14, I64 (((bytesOf a0).map c_u8).length : Int)), (15, I64 s1), (34, Bl (decide (y2 ≥ (48)))), (35, .un), (36, .un)]) [] (by kernel_rfl) ?_
          refine RG.guard (s := 34) (by kernel_rfl) hg (fun hg => ?_) (fun hg => ?_)
          · refine RG.fin 4 [] (envOf [(4, .sc (.int .u8 y2)), (13, .im 1 ((bytesOf a0).map c_u8)), (14, I64 (((bytesOf a0).map c_u8).length : Int)), (15, I64 s1), (19, Bl (decide (y2 ≤ (57))))]) [] (by kernel_rfl) ?_
            exact W.toJ (decide (y2 ≤ (57))) hg (by kernel_rfl) (by kernel_rfl)
          refine RG.fin 4 [] (envOf [(4, .sc (.int .u8 y2)), (13, .im 1 ((bytesOf a0).map c_u8)), (14, I64 (((bytesOf a0).map c_u8).length : Int)), (15, I64 s1), (19, Bl false)]) [] (by kernel_rfl) ?_
          exact W.toJ false hg (by kernel_rfl) (by kernel_rfl)
        refine W.regG ?_
        refine RG.cut 3 [] [4, 13, 14, 15, 28, 29, 30] (envOf [(4, .sc (.int .u8 y2)), (13, .im 1 ((bytesOf a0).map c_u8)), (14, I64 (((bytesOf a0).map c_u8).length : Int)), (15, I64 s1), (28, Bl (decide (y2 ≥ (97)))), (29, .un), (30, .un)]) [] (by kernel_rfl) ?_
        refine RG.guard (s := 28) (by kernel_rfl) hg (fun hg => ?_) (fun hg => ?_)
        · refine RG.fin 4 [] (envOf [(4, .sc (.int .u8 y2)), (13, .im 1 ((bytesOf a0).map c_u8)), (14, I64 (((bytesOf a0).map c_u8).length : Int)), (15, I64 s1), (19, Bl (decide (y2 ≤ (122))))]) [] (by kernel_rfl) ?_
          exact W.toJ (decide (y2 ≤ (122))) hg (by kernel_rfl) (by kernel_rfl)
        refine RG.fin 4 [] (envOf [(4, .sc (.int .u8 y2)), (13, .im 1 ((bytesOf a0).map c_u8)), (14, I64 (((bytesOf a0).map c_u8).length : Int)), (15, I64 s1), (19, Bl false)]) [] (by kernel_rfl) ?_
        exact W.toJ false hg (by kernel_rfl) (by kernel_rfl)
      refine W.regG ?_
      refine RG.cut 3 [] [4, 13, 14, 15, 22, 23, 24] (envOf [(4, .sc (.int .u8 y2)), (13, .im 1 ((bytesOf a0).map c_u8)), (14, I64 (((bytesOf a0).map c_u8).length : Int)), (15, I64 s1), (22, Bl (decide (y2 ≥ (65)))), (23, .un), (24, .un)]) [] (by kernel_rfl) ?_
      refine RG.guard (s := 22) (by kernel_rfl) hg (fun hg => ?_) (fun hg => ?_)
      · refine RG.fin 4 [] (envOf [(4, .sc (.int .u8 y2)), (13, .im 1 ((bytesOf a0).map c_u8)), (14, I64 (((bytesOf a0).map c_u8).length : Int)), (15, I64 s1), (19, Bl (decide (y2 ≤ (90))))]) [] (by kernel_rfl) ?_
        exact W.toJ (decide (y2 ≤ (90))) hg (by kernel_rfl) (by kernel_rfl)
      refine RG.fin 4 [] (envOf [(4, .sc (.int .u8 y2)), (13, .im 1 ((bytesOf a0).map c_u8)), (14, I64 (((bytesOf a0).map c_u8).length : Int)), (15, I64 s1), (19, Bl false)]) [] (by kernel_rfl) ?_
      exact W.toJ false hg (by kernel_rfl) (by kernel_rfl)
    refine W.norm [] [13, 14, 15, 16] (envOf [(13, .im 1 ((bytesOf a0).map c_u8)), (14, I64 (((bytesOf a0).map c_u8).length : Int)), (15, I64 s1), (16, Bl (decide (s1 < (((bytesOf a0).map c_u8).length : Int))))]) [] (by kernel_rfl) ?_
    refine W.exit ?_
    obtain rfl := Option.some.inj hg
    exact ⟨rfl, by kernel_rfl, by kernel_rfl⟩
  refine W.seq ?_
  refine W.regG ?_
  refine RG.fin 1 [] (envOf [(2, Bl true)]) [] (by kernel_rfl) ?_
  obtain rfl := Option.some.inj hg
  exact W.ret (Ends.of [] (by kernel_rfl))
def g48 (n : Nat) (a0 : T_api_Param) : Option Bool := (g61 n a0.Name_).bind fun v1 => bif v1 then bif (a0.Kind_ == (1)) then bif (decide (a0.Len_ ≥ (1))) then some (decide (a0.Len_ ≤ (4096))) else some false else bif (a0.Kind_ == (2)) then bif (decide (a0.Len_ ≥ (1))) then some (decide (a0.Len_ ≤ (4096))) else some false else some false else some false
theorem g48_ok (n : Nat) (a0 : T_api_Param) (r : Bool) (hg : g48 n a0 = some r) : CallOk Go.Proofs.Try.prog 48 [.ag [St a0.Name_, I64 a0.Kind_, I64 a0.Len_]] [] (Bl r) [] := by
  unfold g48 at hg
  refine CallG.narrow ?_ (by kernel_rfl) (by kernel_rfl)
  refine .of_S [0] (envOf [(0, .ag [St a0.Name_, I64 a0.Kind_, I64 a0.Len_])]) fn48 (by kernel_rfl) ?_
  refine W.seq ?_
  refine W.regG ?_
  refine RG.fin 2 [(1, 1)] (envOf [(1, .pt 1 [] 0 0)]) [(1, ⟨3, [[St a0.Name_, I64 a0.Kind_, I64 a0.Len_]]⟩)] (by kernel_rfl) ?_
  refine W.seq ?_
  refine W.regG ?_
  refine RG.cut 2 [(1, 1)] [1, 4, 7, 8, 9, 10, 11, 12, 13, 14, 17, 18, 19, 22, 23, 24] (envOf [(1, .pt 1 [] 0 0), (4, St a0.Name_), (7, .un), (8, .un), (9, .un), (10, .un), (11, .un), (12, .un), (13, .un), (14, .un), (17, .un), (18, .un), (19, .un), (22, .un), (23, .un), (24, .un)]) [(1, ⟨3, [[St a0.Name_, I64 a0.Kind_, I64 a0.Len_]]⟩)] (by kernel_rfl) ?_
  refine RG.callP [] [(1, 1)] [1, 5, 7, 8, 9, 10, 11, 12, 13, 14, 17, 18, 19, 22, 23, 24] false [St a0.Name_] (fun v1 => Bl v1) (fun v1 => []) (fun v1 => envOf [(1, .pt 1 [] 0 0), (5, Bl v1), (7, .un), (8, .un), (9, .un), (10, .un), (11, .un), (12, .un), (13, .un), (14, .un), (17, .un), (18, .un), (19, .un), (22, .un), (23, .un), (24, .un)]) (fun v1 => [(1, ⟨3, [[St a0.Name_, I64 a0.Kind_, I64 a0.Len_]]⟩)]) (by kernel_rfl) hg (by kernel_rfl) (fun v1 hv => CallOk.toG (g61_ok n a0.Name_ v1 hv)) (by kernel_rfl) (fun v1 => by kernel_rfl) (fun h => by cases h) (fun v1 hv hg => ?_)
  refine RG.cut 1 [(1, 1)] [1, 6, 7, 8, 9, 10, 11, 12, 13, 14, 17, 18, 19, 22, 23, 24] (envOf [(1, .pt 1 [] 0 0), (6, Bl v1), (7, .un), (8, .un), (9, .un), (10, .un), (11, .un), (12, .un), (13, .un), (14, .un), (17, .un), (18, .un), (19, .un), (22, .un), (23, .un), (24, .un)]) [(1, ⟨3, [[St a0.Name_, I64 a0.Kind_, I64 a0.Len_]]⟩)] (by kernel_rfl) ?_
  refine RG.guard (s := 6) (by kernel_rfl) hg (fun hg => ?_) (fun hg => ?_)
  · refine RG.cut 4 [(1, 1)] [1, 6, 10, 11, 12, 13, 14, 17, 18, 19, 22, 23, 24] (envOf [(1, .pt 1 [] 0 0), (6, Bl true), (10, Bl (a0.Kind_ == (1))), (11, .un), (12, .un), (13, .un), (14, .un), (17, .un), (18, .un), (19, .un), (22, .un), (23, .un), (24, .un)]) [(1, ⟨3, [[St a0.Name_, I64 a0.Kind_, I64 a0.Len_]]⟩)] (by kernel_rfl) ?_
    refine RG.guard (s := 10) (by kernel_rfl) hg (fun hg => ?_) (fun hg => ?_)
    · refine RG.cut 11 [(1, 1)] [1, 21, 22, 23, 24] (envOf [(1, .pt 1 [] 0 0), (21, Bl (decide (a0.Len_ ≥ (1)))), (22, .un), (23, .un), (24, .un)]) [(1, ⟨3, [[St a0.Name_, I64 a0.Kind_, I64 a0.Len_]]⟩)] (by kernel_rfl) ?_
      refine RG.guard (s := 21) (by kernel_rfl) hg (fun hg => ?_) (fun hg => ?_)
      · refine RG.fin 5 [] (envOf [(2, Bl (decide (a0.Len_ ≤ (4096))))]) [] (by kernel_rfl) ?_
        obtain rfl := Option.some.inj hg
        exact W.ret (Ends.of [] (by kernel_rfl))
      refine RG.fin 5 [] (envOf [(2, Bl false)]) [] (by kernel_rfl) ?_
      obtain rfl := Option.some.inj hg
      exact W.ret (Ends.of [] (by kernel_rfl))
    refine RG.cut 6 [(1, 1)] [1, 16, 17, 18, 19, 22, 23, 24] (envOf [(1, .pt 1 [] 0 0), (16, Bl (a0.Kind_ == (2))), (17, .un), (18, .un), (19, .un), (22, .un), (23, .un), (24, .un)]) [(1, ⟨3, [[St a0.Name_, I64 a0.Kind_, I64 a0.Len_]]⟩)] (by kernel_rfl) ?_
    refine RG.guard (s := 16) (by kernel_rfl) hg (fun hg => ?_) (fun hg => ?_)
    · refine RG.cut 5 [(1, 1)] [1, 21, 22, 23, 24] (envOf [(1, .pt 1 [] 0 0), (21, Bl (decide (a0.Len_ ≥ (1)))), (22, .un), (23, .un), (24, .un)]) [(1, ⟨3, [[St a0.Name_, I64 a0.Kind_, I64 a0.Len_]]⟩)] (by kernel_rfl) ?_
      refine RG.guard (s := 21) (by kernel_rfl) hg (fun hg => ?_) (fun hg => ?_)
      · refine RG.fin 5 [] (envOf [(2, Bl (decide (a0.Len_ ≤ (4096))))]) [] (by kernel_rfl) ?_
        obtain rfl := Option.some.inj hg
        exact W.ret (Ends.of [] (by kernel_rfl))
      refine RG.fin 5 [] (envOf [(2, Bl false)]) [] (by kernel_rfl) ?_
      obtain rfl := Option.some.inj hg
      exact W.ret (Ends.of [] (by kernel_rfl))
    refine RG.fin 10 [] (envOf [(2, Bl false)]) [] (by kernel_rfl) ?_
    obtain rfl := Option.some.inj hg
    exact W.ret (Ends.of [] (by kernel_rfl))
  refine RG.fin 20 [] (envOf [(2, Bl false)]) [] (by kernel_rfl) ?_
  obtain rfl := Option.some.inj hg
  exact W.ret (Ends.of [] (by kernel_rfl))
def g62 (n : Nat) (a0 : T_api_Param) : Option Int := (g48 n a0).bind fun v1 => bif (!v1) then some (0) else bif (a0.Kind_ == (2)) then some (IntKind.i64.wrap ((2) * a0.Len_)) else some a0.Len_
theorem g62_ok (n : Nat) (a0 : T_api_Param) (r : Int) (hg : g62 n a0 = some r) : CallOk Go.Proofs.Try.prog 62 [.ag [St a0.Name_, I64 a0.Kind_, I64 a0.Len_]] [] (I64 r) [] := by
  unfold g62 at hg
  refine CallG.narrow ?_ (by kernel_rfl) (by kernel_rfl)
  refine .of_S [0] (envOf [(0, .ag [St a0.Name_, I64 a0.Kind_, I64 a0.Len_])]) fn62 (by kernel_rfl) ?_
  refine W.seq ?_
  refine W.regG ?_
  refine RG.fin 2 [(1, 1)] (envOf [(1, .pt 1 [] 0 0)]) [(1, ⟨3, [[St a0.Name_, I64 a0.Kind_, I64 a0.Len_]]⟩)] (by kernel_rfl) ?_
  refine W.seq ?_
  refine W.block ?_
  refine W.seq ?_
  refine W.regG ?_
  refine RG.cut 1 [(1, 1)] [1, 4] (envOf [(1, .pt 1 [] 0 0), (4, .ag [St a0.Name_, I64 a0.Kind_, I64 a0.Len_])]) [(1, ⟨3, [[St a0.Name_, I64 a0.Kind_, I64 a0.Len_]]⟩)] (by kernel_rfl) ?_
  refine RG.callP [] [(1, 1)] [1, 5] false [.ag [St a0.Name_, I64 a0.Kind_, I64 a0.Len_]] (fun v1 => Bl v1) (fun v1 => []) (fun v1 => envOf [(1, .pt 1 [] 0 0), (5, Bl v1)]) (fun v1 => [(1, ⟨3, [[St a0.Name_, I64 a0.Kind_, I64 a0.Len_]]⟩)]) (by kernel_rfl) hg (by kernel_rfl) (fun v1 hv => CallOk.toG (g48_ok n a0 v1 hv)) (by kernel_rfl) (fun v1 => by kernel_rfl) (fun h => by cases h) (fun v1 hv hg => ?_)
  refine RG.fin 2 [(1, 1)] (envOf [(1, .pt 1 [] 0 0), (3, Bl (!v1))]) [(1, ⟨3, [[St a0.Name_, I64 a0.Kind_, I64 a0.Len_]]⟩)] (by kernel_rfl) ?_
  refine W.condB (b := (!v1)) (by kernel_rfl) hg (fun hg => ?_) (fun hg => ?_)
  · refine W.seq ?_
    refine W.regG ?_
    refine RG.fin 1 [] (envOf [(2, I64 (0))]) [] (by kernel_rfl) ?_
    obtain rfl := Option.some.inj hg
    exact W.ret (Ends.of [] (by kernel_rfl))
  refine W.seq ?_
  refine W.regG ?_
  refine RG.fin 4 [(1, 1)] (envOf [(1, .pt 1 [] 0 0), (7, Bl (a0.Kind_ == (2)))]) [(1, ⟨3, [[St a0.Name_, I64 a0.Kind_, I64 a0.Len_]]⟩)] (by kernel_rfl) ?_
  refine W.condB (b := (a0.Kind_ == (2))) (by kernel_rfl) hg (fun hg => ?_) (fun hg => ?_)
  · refine W.seq ?_
    refine W.regG ?_
    refine RG.fin 4 [] (envOf [(2, I64 (IntKind.i64.wrap ((2) * a0.Len_)))]) [] (by kernel_rfl) ?_
    obtain rfl := Option.some.inj hg
    exact W.ret (Ends.of [] (by kernel_rfl))
  refine W.skip ?_
  refine W.seq ?_
  refine W.regG ?_
  refine RG.fin 3 [] (envOf [(2, I64 a0.Len_)]) [] (by kernel_rfl) ?_
  obtain rfl := Option.some.inj hg
  exact W.ret (Ends.of [] (by kernel_rfl))
def g49_b1 (n : Nat) (a0 : (List T_api_Param)) (s1 : Int × Int) : Option (Bo (Int × Int) (Int × Int × Bool) Empty) := bif (decide (s1.2 < ((a0.map c_T_api_Param).length : Int))) then (idx a0 s1.2).bind fun y2 => (g62 n y2).bind fun v2 => some (.go ((IntKind.i64.wrap (s1.1 + v2)), (IntKind.i64.wrap (s1.2 + (1))))) else some (.out (s1.1, s1.2, (decide (s1.2 < ((a0.map c_T_api_Param).length : Int)))))
def g49 (n : Nat) (a0 : (List T_api_Param)) : Option Int := (iter (g49_b1 n a0) n ((0), (0))).bind (Bo.then (fun t1 => some t1.1) (fun r => r.elim))
theorem g49_ok (n : Nat) (a0 : (List T_api_Param)) (r : Int) (hg : g49 n a0 = some r) : CallOk Go.Proofs.Try.prog 49 [.im 3 (a0.map c_T_api_Param)] [] (I64 r) [] := by
  unfold g49 at hg
  refine CallG.narrow ?_ (by kernel_rfl) (by kernel_rfl)
  refine .of_S [0] (envOf [(0, .im 3 (a0.map c_T_api_Param))]) fn49 (by kernel_rfl) ?_
  refine W.seq ?_
  refine W.regG ?_
  refine RG.fin 1 [] (envOf [(0, .im 3 (a0.map c_T_api_Param))]) [] (by kernel_rfl) ?_
  refine W.seq ?_
  refine W.regG ?_
  refine RG.fin 1 [] (envOf [(0, .im 3 (a0.map c_T_api_Param)), (3, I64 (0))]) [] (by kernel_rfl) ?_
  refine W.seq ?_
  refine W.seq ?_
  refine W.regG ?_
  refine RG.fin 3 [] (envOf [(3, I64 (0)), (6, .im 3 (a0.map c_T_api_Param)), (7, I64 ((a0.map c_T_api_Param).length : Int)), (8, I64 (0))]) [] (by kernel_rfl) ?_
  refine W.norm [] [3, 6, 7, 8] (envOf [(3, I64 (0)), (6, .im 3 (a0.map c_T_api_Param)), (7, I64 ((a0.map c_T_api_Param).length : Int)), (8, I64 (0))]) [] (by kernel_rfl) ?_
  refine W.loopB (fun s1 : Int × Int => envOf [(3, I64 s1.1), (6, .im 3 (a0.map c_T_api_Param)), (7, I64 ((a0.map c_T_api_Param).length : Int)), (8, I64 s1.2)]) (fun s1 : Int × Int => []) (fun t1 : Int × Int × Bool => envOf [(3, I64 t1.1), (6, .im 3 (a0.map c_T_api_Param)), (7, I64 ((a0.map c_T_api_Param).length : Int)), (8, I64 t1.2.1), (9, Bl t1.2.2)]) (fun t1 : Int × Int × Bool => []) (fun (_ : Empty) _ _ => False) hg (by kernel_rfl) (by kernel_rfl) (fun s1 bb hg => ?_) (fun _ _ _ _ q => q.elim) (fun t1 hg => ?_)
  · unfold g49_b1 at hg
    refine W.seq ?_
    refine W.regG ?_
    refine RG.fin 1 [] (envOf [(3, I64 s1.1), (6, .im 3 (a0.map c_T_api_Param)), (7, I64 ((a0.map c_T_api_Param).length : Int)), (8, I64 s1.2), (9, Bl (decide (s1.2 < ((a0.map c_T_api_Param).length : Int))))]) [] (by kernel_rfl) ?_
    refine W.seq ?_
    refine W.condB (b := (decide (s1.2 < ((a0.map c_T_api_Param).length : Int)))) (by kernel_rfl) hg (fun hg => ?_) (fun hg => ?_)
    · refine W.skip ?_
      refine W.seq ?_
      refine W.block ?_
      refine W.seq ?_
      refine W.regG ?_
      refine RG.iadIm (c := c_T_api_Param) (xs := a0) (i := s1.2) (k := .i64) (by kernel_rfl) (by kernel_rfl) (by kernel_rfl) hg (fun y2 _ hg => ?_)
      refine RG.fin 3 [(5, 5)] (envOf [(3, I64 s1.1), (5, .pt 5 [] 0 0), (6, .im 3 (a0.map c_T_api_Param)), (7, I64 ((a0.map c_T_api_Param).length : Int)), (8, I64 s1.2)]) [(5, ⟨3, [[St y2.Name_, I64 y2.Kind_, I64 y2.Len_]]⟩)] (by kernel_rfl) ?_
      refine W.regG ?_
      refine RG.cut 2 [] [6, 7, 8, 12, 13] (envOf [(6, .im 3 (a0.map c_T_api_Param)), (7, I64 ((a0.map c_T_api_Param).length : Int)), (8, I64 s1.2), (12, I64 s1.1), (13, .ag [St y2.Name_, I64 y2.Kind_, I64 y2.Len_])]) [] (by kernel_rfl) ?_
      refine RG.callP [] [] [6, 7, 8, 12, 14] false [.ag [St y2.Name_, I64 y2.Kind_, I64 y2.Len_]] (fun v2 => I64 v2) (fun v2 => []) (fun v2 => envOf [(6, .im 3 (a0.map c_T_api_Param)), (7, I64 ((a0.map c_T_api_Param).length : Int)), (8, I64 s1.2), (12, I64 s1.1), (14, I64 v2)]) (fun v2 => []) (by kernel_rfl) hg (by kernel_rfl) (fun v2 hv => CallOk.toG (g62_ok n y2 v2 hv)) (by kernel_rfl) (fun v2 => by kernel_rfl) (fun h => by cases h) (fun v2 hv hg => ?_)
      refine RG.fin 2 [] (envOf [(3, I64 (IntKind.i64.wrap (s1.1 + v2))), (6, .im 3 (a0.map c_T_api_Param)), (7, I64 ((a0.map c_T_api_Param).length : Int)), (8, I64 s1.2)]) [] (by kernel_rfl) ?_
      refine W.regG ?_
      refine RG.fin 2 [] (envOf [(3, I64 (IntKind.i64.wrap (s1.1 + v2))), (6, .im 3 (a0.map c_T_api_Param)), (7, I64 ((a0.map c_T_api_Param).length : Int)), (8, I64 (IntKind.i64.wrap (s1.2 + (1))))]) [] (by kernel_rfl) ?_
      obtain rfl := Option.some.inj hg
      exact ⟨rfl, by kernel_rfl, by kernel_rfl⟩
    refine W.norm [] [3, 6, 7, 8, 9] (envOf [(3, I64 s1.1), (6, .im 3 (a0.map c_T_api_Param)), (7, I64 ((a0.map c_T_api_Param).length : Int)), (8, I64 s1.2), (9, Bl (decide (s1.2 < ((a0.map c_T_api_Param).length : Int))))]) [] (by kernel_rfl) ?_
    refine W.exit ?_
    obtain rfl := Option.some.inj hg
    exact ⟨rfl, by kernel_rfl, by kernel_rfl⟩
  refine W.seq ?_
  refine W.regG ?_
  refine RG.fin 2 [] (envOf [(2, I64 t1.1)]) [] (by kernel_rfl) ?_
  obtain rfl := Option.some.inj hg
  exact W.ret (Ends.of [] (by kernel_rfl))
def g43_b1 (n : Nat) (a0 : (List T_api_Param)) (a1 : (List T_api_Param)) (s1 : Int) : Option (Bo Int (Int × Bool) Bool) := bif (decide (s1 < ((a0.map c_T_api_Param).length : Int))) then (idx a0 s1).bind fun y3 => (idx a1 s1).bind fun y4 => bif (!(y3.Name_ == y4.Name_ && (y3.Kind_ == y4.Kind_ && (y3.Len_ == y4.Len_ && true)))) then some (.ret false) else some (.go (IntKind.i64.wrap (s1 + (1)))) else some (.out (s1, (decide (s1 < ((a0.map c_T_api_Param).length : Int)))))
def g43 (n : Nat) (a0 : (List T_api_Param)) (a1 : (List T_api_Param)) : Option Bool := bif (((a0.map c_T_api_Param).length : Int) != ((a1.map c_T_api_Param).length : Int)) then some false else (iter (g43_b1 n a0 a1) n (0)).bind (Bo.then (fun t1 => some true) some)
theorem g43_ok (n : Nat) (a0 : (List T_api_Param)) (a1 : (List T_api_Param)) (r : Bool) (hg : g43 n a0 a1 = some r) : CallOk Go.Proofs.Try.prog 43 [.im 3 (a0.map c_T_api_Param), .im 3 (a1.map c_T_api_Param)] [] (Bl r) [] := by
  unfold g43 at hg
  refine CallG.narrow ?_ (by kernel_rfl) (by kernel_rfl)
  refine .of_S [0, 1] (envOf [(0, .im 3 (a0.map c_T_api_Param)), (1, .im 3 (a1.map c_T_api_Param))]) fn43 (by kernel_rfl) ?_
  refine W.seq ?_
  refine W.regG ?_
  refine RG.fin 1 [] (envOf [(0, .im 3 (a0.map c_T_api_Param)), (1, .im 3 (a1.map c_T_api_Param))]) [] (by kernel_rfl) ?_
  refine W.seq ?_
  refine W.seq ?_
  refine W.regG ?_
  refine RG.fin 5 [] (envOf [(0, .im 3 (a0.map c_T_api_Param)), (1, .im 3 (a1.map c_T_api_Param)), (10, Bl (((a0.map c_T_api_Param).length : Int) != ((a1.map c_T_api_Param).length : Int)))]) [] (by kernel_rfl) ?_
  refine W.condB (b := (((a0.map c_T_api_Param).length : Int) != ((a1.map c_T_api_Param).length : Int))) (by kernel_rfl) hg (fun hg => ?_) (fun hg => ?_)
  · refine W.seq ?_
    refine W.regG ?_
    refine RG.fin 1 [] (envOf [(4, Bl false)]) [] (by kernel_rfl) ?_
    obtain rfl := Option.some.inj hg
    exact W.ret (Ends.of [] (by kernel_rfl))
  refine W.skip ?_
  refine W.seq ?_
  refine W.seq ?_
  refine W.regG ?_
  refine RG.fin 3 [] (envOf [(0, .im 3 (a0.map c_T_api_Param)), (1, .im 3 (a1.map c_T_api_Param)), (12, I64 ((a0.map c_T_api_Param).length : Int)), (13, I64 (0))]) [] (by kernel_rfl) ?_
  refine W.norm [] [0, 1, 12, 13] (envOf [(0, .im 3 (a0.map c_T_api_Param)), (1, .im 3 (a1.map c_T_api_Param)), (12, I64 ((a0.map c_T_api_Param).length : Int)), (13, I64 (0))]) [] (by kernel_rfl) ?_
  refine W.loopB (fun s1 : Int => envOf [(0, .im 3 (a0.map c_T_api_Param)), (1, .im 3 (a1.map c_T_api_Param)), (12, I64 ((a0.map c_T_api_Param).length : Int)), (13, I64 s1)]) (fun s1 : Int => []) (fun t1 : Int × Bool => envOf [(0, .im 3 (a0.map c_T_api_Param)), (1, .im 3 (a1.map c_T_api_Param)), (12, I64 ((a0.map c_T_api_Param).length : Int)), (13, I64 t1.1), (14, Bl t1.2)]) (fun t1 : Int × Bool => []) (fun (r : Bool) e h => Ends [.t 4] [] (Bl r) [] .ret e h) hg (by kernel_rfl) (by kernel_rfl) (fun s1 bb hg => ?_) (fun r' hr e h q => by cases hr; exact q) (fun t1 hg => ?_)
  · unfold g43_b1 at hg
    refine W.seq ?_
    refine W.regG ?_
    refine RG.fin 1 [] (envOf [(0, .im 3 (a0.map c_T_api_Param)), (1, .im 3 (a1.map c_T_api_Param)), (12, I64 ((a0.map c_T_api_Param).length : Int)), (13, I64 s1), (14, Bl (decide (s1 < ((a0.map c_T_api_Param).length : Int))))]) [] (by kernel_rfl) ?_
    refine W.seq ?_
    refine W.condB (b := (decide (s1 < ((a0.map c_T_api_Param).length : Int)))) (by kernel_rfl) hg (fun hg => ?_) (fun hg => ?_)
    · refine W.skip ?_
      refine W.seq ?_
      refine W.block ?_
      refine W.seq ?_
      refine W.regG ?_
      refine RG.fin 2 [] (envOf [(0, .im 3 (a0.map c_T_api_Param)), (1, .im 3 (a1.map c_T_api_Param)), (5, I64 s1), (12, I64 ((a0.map c_T_api_Param).length : Int)), (13, I64 s1)]) [] (by kernel_rfl) ?_
      refine W.seq ?_
      refine W.drawG [16, 17, 18, 19, 20, 21, 22, 23] (by kernel_rfl) (by kernel_rfl) ?_
      refine WD.rd (av := .im 3 (a0.map c_T_api_Param)) (by kernel_rfl) (by kernel_rfl) ?_
      refine WD.rd (av := I64 s1) (by kernel_rfl) (by kernel_rfl) ?_
      refine WD.bindRd (fun _ => .ip 3 (a0.map c_T_api_Param) s1.toNat 0) (by kernel_rfl) hg (fun _ hz => rd_iadIm (k := .i64) (by kernel_rfl) (by kernel_rfl) hz) (fun y3 hy3 hg => ?_)
      refine WD.rd (av := .ag [St y3.Name_, I64 y3.Kind_, I64 y3.Len_]) (by kernel_rfl) (rd_loadIp (s := 3) (o := 0) (c := c_T_api_Param) (xs := a0) (j := s1) hy3 (by kernel_rfl) (by kernel_rfl)) ?_
      refine WD.rd (av := .im 3 (a1.map c_T_api_Param)) (by kernel_rfl) (by kernel_rfl) ?_
      refine WD.rd (av := I64 s1) (by kernel_rfl) (by kernel_rfl) ?_
      refine WD.bindRd (fun _ => .ip 3 (a1.map c_T_api_Param) s1.toNat 0) (by kernel_rfl) hg (fun _ hz => rd_iadIm (k := .i64) (by kernel_rfl) (by kernel_rfl) hz) (fun y4 hy4 hg => ?_)
      refine WD.rd (av := .ag [St y4.Name_, I64 y4.Kind_, I64 y4.Len_]) (by kernel_rfl) (rd_loadIp (s := 3) (o := 0) (c := c_T_api_Param) (xs := a1) (j := s1) hy4 (by kernel_rfl) (by kernel_rfl)) ?_
      refine WD.done (by kernel_rfl) (by kernel_rfl) ?_
      refine RG.fin 1 [] (envOf [(0, .im 3 (a0.map c_T_api_Param)), (1, .im 3 (a1.map c_T_api_Param)), (12, I64 ((a0.map c_T_api_Param).length : Int)), (13, I64 s1), (24, Bl (!(y3.Name_ == y4.Name_ && (y3.Kind_ == y4.Kind_ && (y3.Len_ == y4.Len_ && true)))))]) [] (by kernel_rfl) ?_
      refine W.condB (b := (!(y3.Name_ == y4.Name_ && (y3.Kind_ == y4.Kind_ && (y3.Len_ == y4.Len_ && true))))) (by kernel_rfl) hg (fun hg => ?_) (fun hg => ?_)
      · refine W.seq ?_
        refine W.regG ?_
        refine RG.fin 1 [] (envOf [(4, Bl false)]) [] (by kernel_rfl) ?_
        obtain rfl := Option.some.inj hg
        exact W.ret ⟨rfl, Ends.of [] (by kernel_rfl)⟩
      refine W.skip ?_
      refine W.regG ?_
      refine RG.fin 2 [] (envOf [(0, .im 3 (a0.map c_T_api_Param)), (1, .im 3 (a1.map c_T_api_Param)), (12, I64 ((a0.map c_T_api_Param).length : Int)), (13, I64 (IntKind.i64.wrap (s1 + (1))))]) [] (by kernel_rfl) ?_
      obtain rfl := Option.some.inj hg
      exact ⟨rfl, by kernel_rfl, by kernel_rfl⟩
    refine W.norm [] [0, 1, 12, 13, 14] (envOf [(0, .im 3 (a0.map c_T_api_Param)), (1, .im 3 (a1.map c_T_api_Param)), (12, I64 ((a0.map c_T_api_Param).length : Int)), (13, I64 s1), (14, Bl (decide (s1 < ((a0.map c_T_api_Param).length : Int))))]) [] (by kernel_rfl) ?_
    refine W.exit ?_
    obtain rfl := Option.some.inj hg
    exact ⟨rfl, by kernel_rfl, by kernel_rfl⟩
  refine W.seq ?_
  refine W.regG ?_
  refine RG.fin 1 [] (envOf [(4, Bl true)]) [] (by kernel_rfl) ?_
  obtain rfl := Option.some.inj hg
  exact W.ret (Ends.of [] (by kernel_rfl))
def g44_b1 (n : Nat) (a0 : (List T_api_Type)) (a1 : (List T_api_Type)) (s1 : Int) : Option (Bo Int (Int × Bool) Bool) := bif (decide (s1 < ((a0.map c_T_api_Type).length : Int))) then (idx a0 s1).bind fun y3 => (idx a1 s1).bind fun y4 => bif (!(y3.Kind_ == y4.Kind_ && (y3.Param_ == y4.Param_ && true))) then some (.ret false) else some (.go (IntKind.i64.wrap (s1 + (1)))) else some (.out (s1, (decide (s1 < ((a0.map c_T_api_Type).length : Int)))))
def g44 (n : Nat) (a0 : (List T_api_Type)) (a1 : (List T_api_Type)) : Option Bool := bif (((a0.map c_T_api_Type).length : Int) != ((a1.map c_T_api_Type).length : Int)) then some false else (iter (g44_b1 n a0 a1) n (0)).bind (Bo.then (fun t1 => some true) some)
theorem g44_ok (n : Nat) (a0 : (List T_api_Type)) (a1 : (List T_api_Type)) (r : Bool) (hg : g44 n a0 a1 = some r) : CallOk Go.Proofs.Try.prog 44 [.im 2 (a0.map c_T_api_Type), .im 2 (a1.map c_T_api_Type)] [] (Bl r) [] := by
  unfold g44 at hg
  refine CallG.narrow ?_ (by kernel_rfl) (by kernel_rfl)
  refine .of_S [0, 1] (envOf [(0, .im 2 (a0.map c_T_api_Type)), (1, .im 2 (a1.map c_T_api_Type))]) fn44 (by kernel_rfl) ?_
  refine W.seq ?_
  refine W.regG ?_
  refine RG.fin 1 [] (envOf [(0, .im 2 (a0.map c_T_api_Type)), (1, .im 2 (a1.map c_T_api_Type))]) [] (by kernel_rfl) ?_
  refine W.seq ?_
  refine W.seq ?_
  refine W.regG ?_
  refine RG.fin 5 [] (envOf [(0, .im 2 (a0.map c_T_api_Type)), (1, .im 2 (a1.map c_T_api_Type)), (10, Bl (((a0.map c_T_api_Type).length : Int) != ((a1.map c_T_api_Type).length : Int)))]) [] (by kernel_rfl) ?_
  refine W.condB (b := (((a0.map c_T_api_Type).length : Int) != ((a1.map c_T_api_Type).length : Int))) (by kernel_rfl) hg (fun hg => ?_) (fun hg => ?_)
  · refine W.seq ?_
    refine W.regG ?_
    refine RG.fin 1 [] (envOf [(4, Bl false)]) [] (by kernel_rfl) ?_
    obtain rfl := Option.some.inj hg
    exact W.ret (Ends.of [] (by kernel_rfl))
  refine W.skip ?_
  refine W.seq ?_
  refine W.seq ?_
  refine W.regG ?_
  refine RG.fin 3 [] (envOf [(0, .im 2 (a0.map c_T_api_Type)), (1, .im 2 (a1.map c_T_api_Type)), (12, I64 ((a0.map c_T_api_Type).length : Int)), (13, I64 (0))]) [] (by kernel_rfl) ?_
  refine W.norm [] [0, 1, 12, 13] (envOf [(0, .im 2 (a0.map c_T_api_Type)), (1, .im 2 (a1.map c_T_api_Type)), (12, I64 ((a0.map c_T_api_Type).length : Int)), (13, I64 (0))]) [] (by kernel_rfl) ?_
  refine W.loopB (fun s1 : Int => envOf [(0, .im 2 (a0.map c_T_api_Type)), (1, .im 2 (a1.map c_T_api_Type)), (12, I64 ((a0.map c_T_api_Type).length : Int)), (13, I64 s1)]) (fun s1 : Int => []) (fun t1 : Int × Bool => envOf [(0, .im 2 (a0.map c_T_api_Type)), (1, .im 2 (a1.map c_T_api_Type)), (12, I64 ((a0.map c_T_api_Type).length : Int)), (13, I64 t1.1), (14, Bl t1.2)]) (fun t1 : Int × Bool => []) (fun (r : Bool) e h => Ends [.t 4] [] (Bl r) [] .ret e h) hg (by kernel_rfl) (by kernel_rfl) (fun s1 bb hg => ?_) (fun r' hr e h q => by cases hr; exact q) (fun t1 hg => ?_)
  · unfold g44_b1 at hg
    refine W.seq ?_
    refine W.regG ?_
    refine RG.fin 1 [] (envOf [(0, .im 2 (a0.map c_T_api_Type)), (1, .im 2 (a1.map c_T_api_Type)), (12, I64 ((a0.map c_T_api_Type).length : Int)), (13, I64 s1), (14, Bl (decide (s1 < ((a0.map c_T_api_Type).length : Int))))]) [] (by kernel_rfl) ?_
    refine W.seq ?_
    refine W.condB (b := (decide (s1 < ((a0.map c_T_api_Type).length : Int)))) (by kernel_rfl) hg (fun hg => ?_) (fun hg => ?_)
    · refine W.skip ?_
      refine W.seq ?_
      refine W.block ?_
      refine W.seq ?_
      refine W.regG ?_
      refine RG.fin 2 [] (envOf [(0, .im 2 (a0.map c_T_api_Type)), (1, .im 2 (a1.map c_T_api_Type)), (5, I64 s1), (12, I64 ((a0.map c_T_api_Type).length : Int)), (13, I64 s1)]) [] (by kernel_rfl) ?_
      refine W.seq ?_
      refine W.drawG [16, 17, 18, 19, 20, 21, 22, 23] (by kernel_rfl) (by kernel_rfl) ?_
      refine WD.rd (av := .im 2 (a0.map c_T_api_Type)) (by kernel_rfl) (by kernel_rfl) ?_
      refine WD.rd (av := I64 s1) (by kernel_rfl) (by kernel_rfl) ?_
      refine WD.bindRd (fun _ => .ip 2 (a0.map c_T_api_Type) s1.toNat 0) (by kernel_rfl) hg (fun _ hz => rd_iadIm (k := .i64) (by kernel_rfl) (by kernel_rfl) hz) (fun y3 hy3 hg => ?_)
      refine WD.rd (av := .ag [I64 y3.Kind_, I64 y3.Param_]) (by kernel_rfl) (rd_loadIp (s := 2) (o := 0) (c := c_T_api_Type) (xs := a0) (j := s1) hy3 (by kernel_rfl) (by kernel_rfl)) ?_
      refine WD.rd (av := .im 2 (a1.map c_T_api_Type)) (by kernel_rfl) (by kernel_rfl) ?_
      refine WD.rd (av := I64 s1) (by kernel_rfl) (by kernel_rfl) ?_
      refine WD.bindRd (fun _ => .ip 2 (a1.map c_T_api_Type) s1.toNat 0) (by kernel_rfl) hg (fun _ hz => rd_iadIm (k := .i64) (by kernel_rfl) (by kernel_rfl) hz) (fun y4 hy4 hg => ?_)
      refine WD.rd (av := .ag [I64 y4.Kind_, I64 y4.Param_]) (by kernel_rfl) (rd_loadIp (s := 2) (o := 0) (c := c_T_api_Type) (xs := a1) (j := s1) hy4 (by kernel_rfl) (by kernel_rfl)) ?_
      refine WD.done (by kernel_rfl) (by kernel_rfl) ?_
      refine RG.fin 1 [] (envOf [(0, .im 2 (a0.map c_T_api_Type)), (1, .im 2 (a1.map c_T_api_Type)), (12, I64 ((a0.map c_T_api_Type).length : Int)), (13, I64 s1), (24, Bl (!(y3.Kind_ == y4.Kind_ && (y3.Param_ == y4.Param_ && true))))]) [] (by kernel_rfl) ?_
      refine W.condB (b := (!(y3.Kind_ == y4.Kind_ && (y3.Param_ == y4.Param_ && true)))) (by kernel_rfl) hg (fun hg => ?_) (fun hg => ?_)
      · refine W.seq ?_
        refine W.regG ?_
        refine RG.fin 1 [] (envOf [(4, Bl false)]) [] (by kernel_rfl) ?_
        obtain rfl := Option.some.inj hg
        exact W.ret ⟨rfl, Ends.of [] (by kernel_rfl)⟩
      refine W.skip ?_
      refine W.regG ?_
      refine RG.fin 2 [] (envOf [(0, .im 2 (a0.map c_T_api_Type)), (1, .im 2 (a1.map c_T_api_Type)), (12, I64 ((a0.map c_T_api_Type).length : Int)), (13, I64 (IntKind.i64.wrap (s1 + (1))))]) [] (by kernel_rfl) ?_
      obtain rfl := Option.some.inj hg
      exact ⟨rfl, by kernel_rfl, by kernel_rfl⟩
    refine W.norm [] [0, 1, 12, 13, 14] (envOf [(0, .im 2 (a0.map c_T_api_Type)), (1, .im 2 (a1.map c_T_api_Type)), (12, I64 ((a0.map c_T_api_Type).length : Int)), (13, I64 s1), (14, Bl (decide (s1 < ((a0.map c_T_api_Type).length : Int))))]) [] (by kernel_rfl) ?_
    refine W.exit ?_
    obtain rfl := Option.some.inj hg
    exact ⟨rfl, by kernel_rfl, by kernel_rfl⟩
  refine W.seq ?_
  refine W.regG ?_
  refine RG.fin 1 [] (envOf [(4, Bl true)]) [] (by kernel_rfl) ?_
  obtain rfl := Option.some.inj hg
  exact W.ret (Ends.of [] (by kernel_rfl))
def g45_b1 (n : Nat) (a0 : (List T_api_Slot)) (a1 : (List T_api_Slot)) (s1 : Int) : Option (Bo Int (Int × Bool) Bool) := bif (decide (s1 < ((a0.map c_T_api_Slot).length : Int))) then (idx a0 s1).bind fun y3 => (idx a1 s1).bind fun y4 => bif (!(y3.Type_.Kind_ == y4.Type_.Kind_ && (y3.Type_.Param_ == y4.Type_.Param_ && (y3.Keep_ == y4.Keep_ && (y3.Bits_ == y4.Bits_ && (y3.Int_ == y4.Int_ && true)))))) then some (.ret false) else some (.go (IntKind.i64.wrap (s1 + (1)))) else some (.out (s1, (decide (s1 < ((a0.map c_T_api_Slot).length : Int)))))
def g45 (n : Nat) (a0 : (List T_api_Slot)) (a1 : (List T_api_Slot)) : Option Bool := bif (((a0.map c_T_api_Slot).length : Int) != ((a1.map c_T_api_Slot).length : Int)) then some false else (iter (g45_b1 n a0 a1) n (0)).bind (Bo.then (fun t1 => some true) some)
theorem g45_ok (n : Nat) (a0 : (List T_api_Slot)) (a1 : (List T_api_Slot)) (r : Bool) (hg : g45 n a0 a1 = some r) : CallOk Go.Proofs.Try.prog 45 [.im 5 (a0.map c_T_api_Slot), .im 5 (a1.map c_T_api_Slot)] [] (Bl r) [] := by
  unfold g45 at hg
  refine CallG.narrow ?_ (by kernel_rfl) (by kernel_rfl)
  refine .of_S [0, 1] (envOf [(0, .im 5 (a0.map c_T_api_Slot)), (1, .im 5 (a1.map c_T_api_Slot))]) fn45 (by kernel_rfl) ?_
  refine W.seq ?_
  refine W.regG ?_
  refine RG.fin 1 [] (envOf [(0, .im 5 (a0.map c_T_api_Slot)), (1, .im 5 (a1.map c_T_api_Slot))]) [] (by kernel_rfl) ?_
  refine W.seq ?_
  refine W.seq ?_
  refine W.regG ?_
  refine RG.fin 5 [] (envOf [(0, .im 5 (a0.map c_T_api_Slot)), (1, .im 5 (a1.map c_T_api_Slot)), (10, Bl (((a0.map c_T_api_Slot).length : Int) != ((a1.map c_T_api_Slot).length : Int)))]) [] (by kernel_rfl) ?_
  refine W.condB (b := (((a0.map c_T_api_Slot).length : Int) != ((a1.map c_T_api_Slot).length : Int))) (by kernel_rfl) hg (fun hg => ?_) (fun hg => ?_)
  · refine W.seq ?_
    refine W.regG ?_
    refine RG.fin 1 [] (envOf [(4, Bl false)]) [] (by kernel_rfl) ?_
    obtain rfl := Option.some.inj hg
    exact W.ret (Ends.of [] (by kernel_rfl))
  refine W.skip ?_
  refine W.seq ?_
  refine W.seq ?_
  refine W.regG ?_
  refine RG.fin 3 [] (envOf [(0, .im 5 (a0.map c_T_api_Slot)), (1, .im 5 (a1.map c_T_api_Slot)), (12, I64 ((a0.map c_T_api_Slot).length : Int)), (13, I64 (0))]) [] (by kernel_rfl) ?_
  refine W.norm [] [0, 1, 12, 13] (envOf [(0, .im 5 (a0.map c_T_api_Slot)), (1, .im 5 (a1.map c_T_api_Slot)), (12, I64 ((a0.map c_T_api_Slot).length : Int)), (13, I64 (0))]) [] (by kernel_rfl) ?_
  refine W.loopB (fun s1 : Int => envOf [(0, .im 5 (a0.map c_T_api_Slot)), (1, .im 5 (a1.map c_T_api_Slot)), (12, I64 ((a0.map c_T_api_Slot).length : Int)), (13, I64 s1)]) (fun s1 : Int => []) (fun t1 : Int × Bool => envOf [(0, .im 5 (a0.map c_T_api_Slot)), (1, .im 5 (a1.map c_T_api_Slot)), (12, I64 ((a0.map c_T_api_Slot).length : Int)), (13, I64 t1.1), (14, Bl t1.2)]) (fun t1 : Int × Bool => []) (fun (r : Bool) e h => Ends [.t 4] [] (Bl r) [] .ret e h) hg (by kernel_rfl) (by kernel_rfl) (fun s1 bb hg => ?_) (fun r' hr e h q => by cases hr; exact q) (fun t1 hg => ?_)
  · unfold g45_b1 at hg
    refine W.seq ?_
    refine W.regG ?_
    refine RG.fin 1 [] (envOf [(0, .im 5 (a0.map c_T_api_Slot)), (1, .im 5 (a1.map c_T_api_Slot)), (12, I64 ((a0.map c_T_api_Slot).length : Int)), (13, I64 s1), (14, Bl (decide (s1 < ((a0.map c_T_api_Slot).length : Int))))]) [] (by kernel_rfl) ?_
    refine W.seq ?_
    refine W.condB (b := (decide (s1 < ((a0.map c_T_api_Slot).length : Int)))) (by kernel_rfl) hg (fun hg => ?_) (fun hg => ?_)
    · refine W.skip ?_
      refine W.seq ?_
      refine W.block ?_
      refine W.seq ?_
      refine W.regG ?_
      refine RG.fin 2 [] (envOf [(0, .im 5 (a0.map c_T_api_Slot)), (1, .im 5 (a1.map c_T_api_Slot)), (5, I64 s1), (12, I64 ((a0.map c_T_api_Slot).length : Int)), (13, I64 s1)]) [] (by kernel_rfl) ?_
      refine W.seq ?_
      refine W.drawG [16, 17, 18, 19, 20, 21, 22, 23] (by kernel_rfl) (by kernel_rfl) ?_
      refine WD.rd (av := .im 5 (a0.map c_T_api_Slot)) (by kernel_rfl) (by kernel_rfl) ?_
      refine WD.rd (av := I64 s1) (by kernel_rfl) (by kernel_rfl) ?_
      refine WD.bindRd (fun _ => .ip 5 (a0.map c_T_api_Slot) s1.toNat 0) (by kernel_rfl) hg (fun _ hz => rd_iadIm (k := .i64) (by kernel_rfl) (by kernel_rfl) hz) (fun y3 hy3 hg => ?_)
      refine WD.rd (av := .ag [I64 y3.Type_.Kind_, I64 y3.Type_.Param_, Bl y3.Keep_, .sc (.int .u32 y3.Bits_), I64 y3.Int_]) (by kernel_rfl) (rd_loadIp (s := 5) (o := 0) (c := c_T_api_Slot) (xs := a0) (j := s1) hy3 (by kernel_rfl) (by kernel_rfl)) ?_
      refine WD.rd (av := .im 5 (a1.map c_T_api_Slot)) (by kernel_rfl) (by kernel_rfl) ?_
      refine WD.rd (av := I64 s1) (by kernel_rfl) (by kernel_rfl) ?_
      refine WD.bindRd (fun _ => .ip 5 (a1.map c_T_api_Slot) s1.toNat 0) (by kernel_rfl) hg (fun _ hz => rd_iadIm (k := .i64) (by kernel_rfl) (by kernel_rfl) hz) (fun y4 hy4 hg => ?_)
      refine WD.rd (av := .ag [I64 y4.Type_.Kind_, I64 y4.Type_.Param_, Bl y4.Keep_, .sc (.int .u32 y4.Bits_), I64 y4.Int_]) (by kernel_rfl) (rd_loadIp (s := 5) (o := 0) (c := c_T_api_Slot) (xs := a1) (j := s1) hy4 (by kernel_rfl) (by kernel_rfl)) ?_
      refine WD.done (by kernel_rfl) (by kernel_rfl) ?_
      refine RG.fin 1 [] (envOf [(0, .im 5 (a0.map c_T_api_Slot)), (1, .im 5 (a1.map c_T_api_Slot)), (12, I64 ((a0.map c_T_api_Slot).length : Int)), (13, I64 s1), (24, Bl (!(y3.Type_.Kind_ == y4.Type_.Kind_ && (y3.Type_.Param_ == y4.Type_.Param_ && (y3.Keep_ == y4.Keep_ && (y3.Bits_ == y4.Bits_ && (y3.Int_ == y4.Int_ && true)))))))]) [] (by kernel_rfl) ?_
      refine W.condB (b := (!(y3.Type_.Kind_ == y4.Type_.Kind_ && (y3.Type_.Param_ == y4.Type_.Param_ && (y3.Keep_ == y4.Keep_ && (y3.Bits_ == y4.Bits_ && (y3.Int_ == y4.Int_ && true))))))) (by kernel_rfl) hg (fun hg => ?_) (fun hg => ?_)
      · refine W.seq ?_
        refine W.regG ?_
        refine RG.fin 1 [] (envOf [(4, Bl false)]) [] (by kernel_rfl) ?_
        obtain rfl := Option.some.inj hg
        exact W.ret ⟨rfl, Ends.of [] (by kernel_rfl)⟩
      refine W.skip ?_
      refine W.regG ?_
      refine RG.fin 2 [] (envOf [(0, .im 5 (a0.map c_T_api_Slot)), (1, .im 5 (a1.map c_T_api_Slot)), (12, I64 ((a0.map c_T_api_Slot).length : Int)), (13, I64 (IntKind.i64.wrap (s1 + (1))))]) [] (by kernel_rfl) ?_
      obtain rfl := Option.some.inj hg
      exact ⟨rfl, by kernel_rfl, by kernel_rfl⟩
    refine W.norm [] [0, 1, 12, 13, 14] (envOf [(0, .im 5 (a0.map c_T_api_Slot)), (1, .im 5 (a1.map c_T_api_Slot)), (12, I64 ((a0.map c_T_api_Slot).length : Int)), (13, I64 s1), (14, Bl (decide (s1 < ((a0.map c_T_api_Slot).length : Int))))]) [] (by kernel_rfl) ?_
    refine W.exit ?_
    obtain rfl := Option.some.inj hg
    exact ⟨rfl, by kernel_rfl, by kernel_rfl⟩
  refine W.seq ?_
  refine W.regG ?_
  refine RG.fin 1 [] (envOf [(4, Bl true)]) [] (by kernel_rfl) ?_
  obtain rfl := Option.some.inj hg
  exact W.ret (Ends.of [] (by kernel_rfl))
def g46_b1 (n : Nat) (a0 : (List T_api_Inst)) (a1 : (List T_api_Inst)) (s1 : Int) : Option (Bo Int (Int × Bool) Bool) := bif (decide (s1 < ((a0.map c_T_api_Inst).length : Int))) then (idx a0 s1).bind fun y3 => (idx a1 s1).bind fun y4 => bif (!(y3.Op_ == y4.Op_ && (y3.D_ == y4.D_ && (y3.A_ == y4.A_ && (y3.B_ == y4.B_ && (y3.C_ == y4.C_ && (y3.N_ == y4.N_ && (y3.Bits_ == y4.Bits_ && true)))))))) then some (.ret false) else some (.go (IntKind.i64.wrap (s1 + (1)))) else some (.out (s1, (decide (s1 < ((a0.map c_T_api_Inst).length : Int)))))
def g46 (n : Nat) (a0 : (List T_api_Inst)) (a1 : (List T_api_Inst)) : Option Bool := bif (((a0.map c_T_api_Inst).length : Int) != ((a1.map c_T_api_Inst).length : Int)) then some false else (iter (g46_b1 n a0 a1) n (0)).bind (Bo.then (fun t1 => some true) some)
theorem g46_ok (n : Nat) (a0 : (List T_api_Inst)) (a1 : (List T_api_Inst)) (r : Bool) (hg : g46 n a0 a1 = some r) : CallOk Go.Proofs.Try.prog 46 [.im 7 (a0.map c_T_api_Inst), .im 7 (a1.map c_T_api_Inst)] [] (Bl r) [] := by
  unfold g46 at hg
  refine CallG.narrow ?_ (by kernel_rfl) (by kernel_rfl)
  refine .of_S [0, 1] (envOf [(0, .im 7 (a0.map c_T_api_Inst)), (1, .im 7 (a1.map c_T_api_Inst))]) fn46 (by kernel_rfl) ?_
  refine W.seq ?_
  refine W.regG ?_
  refine RG.fin 1 [] (envOf [(0, .im 7 (a0.map c_T_api_Inst)), (1, .im 7 (a1.map c_T_api_Inst))]) [] (by kernel_rfl) ?_
  refine W.seq ?_
  refine W.seq ?_
  refine W.regG ?_
  refine RG.fin 5 [] (envOf [(0, .im 7 (a0.map c_T_api_Inst)), (1, .im 7 (a1.map c_T_api_Inst)), (10, Bl (((a0.map c_T_api_Inst).length : Int) != ((a1.map c_T_api_Inst).length : Int)))]) [] (by kernel_rfl) ?_
  refine W.condB (b := (((a0.map c_T_api_Inst).length : Int) != ((a1.map c_T_api_Inst).length : Int))) (by kernel_rfl) hg (fun hg => ?_) (fun hg => ?_)
  · refine W.seq ?_
    refine W.regG ?_
    refine RG.fin 1 [] (envOf [(4, Bl false)]) [] (by kernel_rfl) ?_
    obtain rfl := Option.some.inj hg
    exact W.ret (Ends.of [] (by kernel_rfl))
  refine W.skip ?_
  refine W.seq ?_
  refine W.seq ?_
  refine W.regG ?_
  refine RG.fin 3 [] (envOf [(0, .im 7 (a0.map c_T_api_Inst)), (1, .im 7 (a1.map c_T_api_Inst)), (12, I64 ((a0.map c_T_api_Inst).length : Int)), (13, I64 (0))]) [] (by kernel_rfl) ?_
  refine W.norm [] [0, 1, 12, 13] (envOf [(0, .im 7 (a0.map c_T_api_Inst)), (1, .im 7 (a1.map c_T_api_Inst)), (12, I64 ((a0.map c_T_api_Inst).length : Int)), (13, I64 (0))]) [] (by kernel_rfl) ?_
  refine W.loopB (fun s1 : Int => envOf [(0, .im 7 (a0.map c_T_api_Inst)), (1, .im 7 (a1.map c_T_api_Inst)), (12, I64 ((a0.map c_T_api_Inst).length : Int)), (13, I64 s1)]) (fun s1 : Int => []) (fun t1 : Int × Bool => envOf [(0, .im 7 (a0.map c_T_api_Inst)), (1, .im 7 (a1.map c_T_api_Inst)), (12, I64 ((a0.map c_T_api_Inst).length : Int)), (13, I64 t1.1), (14, Bl t1.2)]) (fun t1 : Int × Bool => []) (fun (r : Bool) e h => Ends [.t 4] [] (Bl r) [] .ret e h) hg (by kernel_rfl) (by kernel_rfl) (fun s1 bb hg => ?_) (fun r' hr e h q => by cases hr; exact q) (fun t1 hg => ?_)
  · unfold g46_b1 at hg
    refine W.seq ?_
    refine W.regG ?_
    refine RG.fin 1 [] (envOf [(0, .im 7 (a0.map c_T_api_Inst)), (1, .im 7 (a1.map c_T_api_Inst)), (12, I64 ((a0.map c_T_api_Inst).length : Int)), (13, I64 s1), (14, Bl (decide (s1 < ((a0.map c_T_api_Inst).length : Int))))]) [] (by kernel_rfl) ?_
    refine W.seq ?_
    refine W.condB (b := (decide (s1 < ((a0.map c_T_api_Inst).length : Int)))) (by kernel_rfl) hg (fun hg => ?_) (fun hg => ?_)
    · refine W.skip ?_
      refine W.seq ?_
      refine W.block ?_
      refine W.seq ?_
      refine W.regG ?_
      refine RG.fin 2 [] (envOf [(0, .im 7 (a0.map c_T_api_Inst)), (1, .im 7 (a1.map c_T_api_Inst)), (5, I64 s1), (12, I64 ((a0.map c_T_api_Inst).length : Int)), (13, I64 s1)]) [] (by kernel_rfl) ?_
      refine W.seq ?_
      refine W.drawG [16, 17, 18, 19, 20, 21, 22, 23] (by kernel_rfl) (by kernel_rfl) ?_
      refine WD.rd (av := .im 7 (a0.map c_T_api_Inst)) (by kernel_rfl) (by kernel_rfl) ?_
      refine WD.rd (av := I64 s1) (by kernel_rfl) (by kernel_rfl) ?_
      refine WD.bindRd (fun _ => .ip 7 (a0.map c_T_api_Inst) s1.toNat 0) (by kernel_rfl) hg (fun _ hz => rd_iadIm (k := .i64) (by kernel_rfl) (by kernel_rfl) hz) (fun y3 hy3 hg => ?_)
      refine WD.rd (av := .ag [I64 y3.Op_, I64 y3.D_, I64 y3.A_, I64 y3.B_, I64 y3.C_, I64 y3.N_, .sc (.int .u32 y3.Bits_)]) (by kernel_rfl) (rd_loadIp (s := 7) (o := 0) (c := c_T_api_Inst) (xs := a0) (j := s1) hy3 (by kernel_rfl) (by kernel_rfl)) ?_
      refine WD.rd (av := .im 7 (a1.map c_T_api_Inst)) (by kernel_rfl) (by kernel_rfl) ?_
      refine WD.rd (av := I64 s1) (by kernel_rfl) (by kernel_rfl) ?_
      refine WD.bindRd (fun _ => .ip 7 (a1.map c_T_api_Inst) s1.toNat 0) (by kernel_rfl) hg (fun _ hz => rd_iadIm (k := .i64) (by kernel_rfl) (by kernel_rfl) hz) (fun y4 hy4 hg => ?_)
      refine WD.rd (av := .ag [I64 y4.Op_, I64 y4.D_, I64 y4.A_, I64 y4.B_, I64 y4.C_, I64 y4.N_, .sc (.int .u32 y4.Bits_)]) (by kernel_rfl) (rd_loadIp (s := 7) (o := 0) (c := c_T_api_Inst) (xs := a1) (j := s1) hy4 (by kernel_rfl) (by kernel_rfl)) ?_
      refine WD.done (by kernel_rfl) (by kernel_rfl) ?_
      refine RG.fin 1 [] (envOf [(0, .im 7 (a0.map c_T_api_Inst)), (1, .im 7 (a1.map c_T_api_Inst)), (12, I64 ((a0.map c_T_api_Inst).length : Int)), (13, I64 s1), (24, Bl (!(y3.Op_ == y4.Op_ && (y3.D_ == y4.D_ && (y3.A_ == y4.A_ && (y3.B_ == y4.B_ && (y3.C_ == y4.C_ && (y3.N_ == y4.N_ && (y3.Bits_ == y4.Bits_ && true)))))))))]) [] (by kernel_rfl) ?_
      refine W.condB (b := (!(y3.Op_ == y4.Op_ && (y3.D_ == y4.D_ && (y3.A_ == y4.A_ && (y3.B_ == y4.B_ && (y3.C_ == y4.C_ && (y3.N_ == y4.N_ && (y3.Bits_ == y4.Bits_ && true))))))))) (by kernel_rfl) hg (fun hg => ?_) (fun hg => ?_)
      · refine W.seq ?_
        refine W.regG ?_
        refine RG.fin 1 [] (envOf [(4, Bl false)]) [] (by kernel_rfl) ?_
        obtain rfl := Option.some.inj hg
        exact W.ret ⟨rfl, Ends.of [] (by kernel_rfl)⟩
      refine W.skip ?_
      refine W.regG ?_
      refine RG.fin 2 [] (envOf [(0, .im 7 (a0.map c_T_api_Inst)), (1, .im 7 (a1.map c_T_api_Inst)), (12, I64 ((a0.map c_T_api_Inst).length : Int)), (13, I64 (IntKind.i64.wrap (s1 + (1))))]) [] (by kernel_rfl) ?_
      obtain rfl := Option.some.inj hg
      exact ⟨rfl, by kernel_rfl, by kernel_rfl⟩
    refine W.norm [] [0, 1, 12, 13, 14] (envOf [(0, .im 7 (a0.map c_T_api_Inst)), (1, .im 7 (a1.map c_T_api_Inst)), (12, I64 ((a0.map c_T_api_Inst).length : Int)), (13, I64 s1), (14, Bl (decide (s1 < ((a0.map c_T_api_Inst).length : Int))))]) [] (by kernel_rfl) ?_
    refine W.exit ?_
    obtain rfl := Option.some.inj hg
    exact ⟨rfl, by kernel_rfl, by kernel_rfl⟩
  refine W.seq ?_
  refine W.regG ?_
  refine RG.fin 1 [] (envOf [(4, Bl true)]) [] (by kernel_rfl) ?_
  obtain rfl := Option.some.inj hg
  exact W.ret (Ends.of [] (by kernel_rfl))
def g22 (n : Nat) (a0 : T_api_Code) (a1 : T_api_Code) : Option Bool := (g43 n a0.Sign_ a1.Sign_).bind fun v1 => bif v1 then (g44 n a0.Regs_ a1.Regs_).bind fun v2 => bif v2 then (g45 n a0.Slots_ a1.Slots_).bind fun v3 => bif v3 then (g46 n a0.List_ a1.List_).bind fun v4 => some v4 else some false else some false else some false
theorem g22_ok (n : Nat) (a0 : T_api_Code) (a1 : T_api_Code) (r : Bool) (hg : g22 n a0 a1 = some r) : CallOk Go.Proofs.Try.prog 22 [.ag [.im 3 (a0.Sign_.map c_T_api_Param), .im 2 (a0.Regs_.map c_T_api_Type), .im 5 (a0.Slots_.map c_T_api_Slot), .im 7 (a0.List_.map c_T_api_Inst)], .ag [.im 3 (a1.Sign_.map c_T_api_Param), .im 2 (a1.Regs_.map c_T_api_Type), .im 5 (a1.Slots_.map c_T_api_Slot), .im 7 (a1.List_.map c_T_api_Inst)]] [] (Bl r) [] := by
  unfold g22 at hg
  refine CallG.narrow ?_ (by kernel_rfl) (by kernel_rfl)
  refine .of_S [0, 1] (envOf [(0, .ag [.im 3 (a0.Sign_.map c_T_api_Param), .im 2 (a0.Regs_.map c_T_api_Type), .im 5 (a0.Slots_.map c_T_api_Slot), .im 7 (a0.List_.map c_T_api_Inst)]), (1, .ag [.im 3 (a1.Sign_.map c_T_api_Param), .im 2 (a1.Regs_.map c_T_api_Type), .im 5 (a1.Slots_.map c_T_api_Slot), .im 7 (a1.List_.map c_T_api_Inst)])]) fn22 (by kernel_rfl) ?_
  refine W.seq ?_
  refine W.regG ?_
  refine RG.fin 3 [(2, 2), (3, 3)] (envOf [(2, .pt 2 [] 0 0), (3, .pt 3 [] 0 0)]) [(2, ⟨4, [[.im 3 (a0.Sign_.map c_T_api_Param), .im 2 (a0.Regs_.map c_T_api_Type), .im 5 (a0.Slots_.map c_T_api_Slot), .im 7 (a0.List_.map c_T_api_Inst)]]⟩), (3, ⟨4, [[.im 3 (a1.Sign_.map c_T_api_Param), .im 2 (a1.Regs_.map c_T_api_Type), .im 5 (a1.Slots_.map c_T_api_Slot), .im 7 (a1.List_.map c_T_api_Inst)]]⟩)] (by kernel_rfl) ?_
  refine W.seq ?_
  refine W.regG ?_
  refine RG.cut 4 [(2, 2), (3, 3)] [2, 3, 6, 8, 11, 12, 13, 14, 15, 18, 19, 20, 21, 22, 25, 26, 27, 28, 29] (envOf [(2, .pt 2 [] 0 0), (3, .pt 3 [] 0 0), (6, .im 3 (a0.Sign_.map c_T_api_Param)), (8, .im 3 (a1.Sign_.map c_T_api_Param)), (11, .un), (12, .un), (13, .un), (14, .un), (15, .un), (18, .un), (19, .un), (20, .un), (21, .un), (22, .un), (25, .un), (26, .un), (27, .un), (28, .un), (29, .un)]) [(2, ⟨4, [[.im 3 (a0.Sign_.map c_T_api_Param), .im 2 (a0.Regs_.map c_T_api_Type), .im 5 (a0.Slots_.map c_T_api_Slot), .im 7 (a0.List_.map c_T_api_Inst)]]⟩), (3, ⟨4, [[.im 3 (a1.Sign_.map c_T_api_Param), .im 2 (a1.Regs_.map c_T_api_Type), .im 5 (a1.Slots_.map c_T_api_Slot), .im 7 (a1.List_.map c_T_api_Inst)]]⟩)] (by kernel_rfl) ?_
  refine RG.callP [] [(2, 2), (3, 3)] [2, 3, 9, 11, 12, 13, 14, 15, 18, 19, 20, 21, 22, 25, 26, 27, 28, 29] false [.im 3 (a0.Sign_.map c_T_api_Param), .im 3 (a1.Sign_.map c_T_api_Param)] (fun v1 => Bl v1) (fun v1 => []) (fun v1 => envOf [(2, .pt 2 [] 0 0), (3, .pt 3 [] 0 0), (9, Bl v1), (11, .un), (12, .un), (13, .un), (14, .un), (15, .un), (18, .un), (19, .un), (20, .un), (21, .un), (22, .un), (25, .un), (26, .un), (27, .un), (28, .un), (29, .un)]) (fun v1 => [(2, ⟨4, [[.im 3 (a0.Sign_.map c_T_api_Param), .im 2 (a0.Regs_.map c_T_api_Type), .im 5 (a0.Slots_.map c_T_api_Slot), .im 7 (a0.List_.map c_T_api_Inst)]]⟩), (3, ⟨4, [[.im 3 (a1.Sign_.map c_T_api_Param), .im 2 (a1.Regs_.map c_T_api_Type), .im 5 (a1.Slots_.map c_T_api_Slot), .im 7 (a1.List_.map c_T_api_Inst)]]⟩)]) (by kernel_rfl) hg (by kernel_rfl) (fun v1 hv => CallOk.toG (g43_ok n a0.Sign_ a1.Sign_ v1 hv)) (by kernel_rfl) (fun v1 => by kernel_rfl) (fun h => by cases h) (fun v1 hv hg => ?_)
  refine RG.cut 1 [(2, 2), (3, 3)] [2, 3, 10, 11, 12, 13, 14, 15, 18, 19, 20, 21, 22, 25, 26, 27, 28, 29] (envOf [(2, .pt 2 [] 0 0), (3, .pt 3 [] 0 0), (10, Bl v1), (11, .un), (12, .un), (13, .un), (14, .un), (15, .un), (18, .un), (19, .un), (20, .un), (21, .un), (22, .un), (25, .un), (26, .un), (27, .un), (28, .un), (29, .un)]) [(2, ⟨4, [[.im 3 (a0.Sign_.map c_T_api_Param), .im 2 (a0.Regs_.map c_T_api_Type), .im 5 (a0.Slots_.map c_T_api_Slot), .im 7 (a0.List_.map c_T_api_Inst)]]⟩), (3, ⟨4, [[.im 3 (a1.Sign_.map c_T_api_Param), .im 2 (a1.Regs_.map c_T_api_Type), .im 5 (a1.Slots_.map c_T_api_Slot), .im 7 (a1.List_.map c_T_api_Inst)]]⟩)] (by kernel_rfl) ?_
  refine RG.guard (s := 10) (by kernel_rfl) hg (fun hg => ?_) (fun hg => ?_)
  · refine RG.cut 4 [(2, 2), (3, 3)] [2, 3, 10, 12, 14, 15, 18, 19, 20, 21, 22, 25, 26, 27, 28, 29] (envOf [(2, .pt 2 [] 0 0), (3, .pt 3 [] 0 0), (10, Bl true), (12, .im 2 (a0.Regs_.map c_T_api_Type)), (14, .im 2 (a1.Regs_.map c_T_api_Type)), (15, .un), (18, .un), (19, .un), (20, .un), (21, .un), (22, .un), (25, .un), (26, .un), (27, .un), (28, .un), (29, .un)]) [(2, ⟨4, [[.im 3 (a0.Sign_.map c_T_api_Param), .im 2 (a0.Regs_.map c_T_api_Type), .im 5 (a0.Slots_.map c_T_api_Slot), .im 7 (a0.List_.map c_T_api_Inst)]]⟩), (3, ⟨4, [[.im 3 (a1.Sign_.map c_T_api_Param), .im 2 (a1.Regs_.map c_T_api_Type), .im 5 (a1.Slots_.map c_T_api_Slot), .im 7 (a1.List_.map c_T_api_Inst)]]⟩)] (by kernel_rfl) ?_
    refine RG.callP [] [(2, 2), (3, 3)] [2, 3, 10, 15, 18, 19, 20, 21, 22, 25, 26, 27, 28, 29] false [.im 2 (a0.Regs_.map c_T_api_Type), .im 2 (a1.Regs_.map c_T_api_Type)] (fun v2 => Bl v2) (fun v2 => []) (fun v2 => envOf [(2, .pt 2 [] 0 0), (3, .pt 3 [] 0 0), (10, Bl true), (15, Bl v2), (18, .un), (19, .un), (20, .un), (21, .un), (22, .un), (25, .un), (26, .un), (27, .un), (28, .un), (29, .un)]) (fun v2 => [(2, ⟨4, [[.im 3 (a0.Sign_.map c_T_api_Param), .im 2 (a0.Regs_.map c_T_api_Type), .im 5 (a0.Slots_.map c_T_api_Slot), .im 7 (a0.List_.map c_T_api_Inst)]]⟩), (3, ⟨4, [[.im 3 (a1.Sign_.map c_T_api_Param), .im 2 (a1.Regs_.map c_T_api_Type), .im 5 (a1.Slots_.map c_T_api_Slot), .im 7 (a1.List_.map c_T_api_Inst)]]⟩)]) (by kernel_rfl) hg (by kernel_rfl) (fun v2 hv => CallOk.toG (g44_ok n a0.Regs_ a1.Regs_ v2 hv)) (by kernel_rfl) (fun v2 => by kernel_rfl) (fun h => by cases h) (fun v2 hv hg => ?_)
    refine RG.cut 2 [(2, 2), (3, 3)] [2, 3, 17, 18, 19, 20, 21, 22, 25, 26, 27, 28, 29] (envOf [(2, .pt 2 [] 0 0), (3, .pt 3 [] 0 0), (17, Bl v2), (18, .un), (19, .un), (20, .un), (21, .un), (22, .un), (25, .un), (26, .un), (27, .un), (28, .un), (29, .un)]) [(2, ⟨4, [[.im 3 (a0.Sign_.map c_T_api_Param), .im 2 (a0.Regs_.map c_T_api_Type), .im 5 (a0.Slots_.map c_T_api_Slot), .im 7 (a0.List_.map c_T_api_Inst)]]⟩), (3, ⟨4, [[.im 3 (a1.Sign_.map c_T_api_Param), .im 2 (a1.Regs_.map c_T_api_Type), .im 5 (a1.Slots_.map c_T_api_Slot), .im 7 (a1.List_.map c_T_api_Inst)]]⟩)] (by kernel_rfl) ?_
    refine RG.guard (s := 17) (by kernel_rfl) hg (fun hg => ?_) (fun hg => ?_)
    · refine RG.cut 4 [(2, 2), (3, 3)] [2, 3, 17, 19, 21, 22, 25, 26, 27, 28, 29] (envOf [(2, .pt 2 [] 0 0), (3, .pt 3 [] 0 0), (17, Bl true), (19, .im 5 (a0.Slots_.map c_T_api_Slot)), (21, .im 5 (a1.Slots_.map c_T_api_Slot)), (22, .un), (25, .un), (26, .un), (27, .un), (28, .un), (29, .un)]) [(2, ⟨4, [[.im 3 (a0.Sign_.map c_T_api_Param), .im 2 (a0.Regs_.map c_T_api_Type), .im 5 (a0.Slots_.map c_T_api_Slot), .im 7 (a0.List_.map c_T_api_Inst)]]⟩), (3, ⟨4, [[.im 3 (a1.Sign_.map c_T_api_Param), .im 2 (a1.Regs_.map c_T_api_Type), .im 5 (a1.Slots_.map c_T_api_Slot), .im 7 (a1.List_.map c_T_api_Inst)]]⟩)] (by kernel_rfl) ?_
      refine RG.callP [] [(2, 2), (3, 3)] [2, 3, 17, 22, 25, 26, 27, 28, 29] false [.im 5 (a0.Slots_.map c_T_api_Slot), .im 5 (a1.Slots_.map c_T_api_Slot)] (fun v3 => Bl v3) (fun v3 => []) (fun v3 => envOf [(2, .pt 2 [] 0 0), (3, .pt 3 [] 0 0), (17, Bl true), (22, Bl v3), (25, .un), (26, .un), (27, .un), (28, .un), (29, .un)]) (fun v3 => [(2, ⟨4, [[.im 3 (a0.Sign_.map c_T_api_Param), .im 2 (a0.Regs_.map c_T_api_Type), .im 5 (a0.Slots_.map c_T_api_Slot), .im 7 (a0.List_.map c_T_api_Inst)]]⟩), (3, ⟨4, [[.im 3 (a1.Sign_.map c_T_api_Param), .im 2 (a1.Regs_.map c_T_api_Type), .im 5 (a1.Slots_.map c_T_api_Slot), .im 7 (a1.List_.map c_T_api_Inst)]]⟩)]) (by kernel_rfl) hg (by kernel_rfl) (fun v3 hv => CallOk.toG (g45_ok n a0.Slots_ a1.Slots_ v3 hv)) (by kernel_rfl) (fun v3 => by kernel_rfl) (fun h => by cases h) (fun v3 hv hg => ?_)
      refine RG.cut 2 [(2, 2), (3, 3)] [2, 3, 24, 25, 26, 27, 28, 29] (envOf [(2, .pt 2 [] 0 0), (3, .pt 3 [] 0 0), (24, Bl v3), (25, .un), (26, .un), (27, .un), (28, .un), (29, .un)]) [(2, ⟨4, [[.im 3 (a0.Sign_.map c_T_api_Param), .im 2 (a0.Regs_.map c_T_api_Type), .im 5 (a0.Slots_.map c_T_api_Slot), .im 7 (a0.List_.map c_T_api_Inst)]]⟩), (3, ⟨4, [[.im 3 (a1.Sign_.map c_T_api_Param), .im 2 (a1.Regs_.map c_T_api_Type), .im 5 (a1.Slots_.map c_T_api_Slot), .im 7 (a1.List_.map c_T_api_Inst)]]⟩)] (by kernel_rfl) ?_
      refine RG.guard (s := 24) (by kernel_rfl) hg (fun hg => ?_) (fun hg => ?_)
      · refine RG.cut 4 [] [24, 26, 28, 29] (envOf [(24, Bl true), (26, .im 7 (a0.List_.map c_T_api_Inst)), (28, .im 7 (a1.List_.map c_T_api_Inst)), (29, .un)]) [] (by kernel_rfl) ?_
        refine RG.callP [] [] [24, 29] false [.im 7 (a0.List_.map c_T_api_Inst), .im 7 (a1.List_.map c_T_api_Inst)] (fun v4 => Bl v4) (fun v4 => []) (fun v4 => envOf [(24, Bl true), (29, Bl v4)]) (fun v4 => []) (by kernel_rfl) hg (by kernel_rfl) (fun v4 hv => CallOk.toG (g46_ok n a0.List_ a1.List_ v4 hv)) (by kernel_rfl) (fun v4 => by kernel_rfl) (fun h => by cases h) (fun v4 hv hg => ?_)
        refine RG.fin 2 [] (envOf [(4, Bl v4)]) [] (by kernel_rfl) ?_
        obtain rfl := Option.some.inj hg
        exact W.ret (Ends.of [] (by kernel_rfl))
      refine RG.fin 7 [] (envOf [(4, Bl false)]) [] (by kernel_rfl) ?_
      obtain rfl := Option.some.inj hg
      exact W.ret (Ends.of [] (by kernel_rfl))
    refine RG.fin 14 [] (envOf [(4, Bl false)]) [] (by kernel_rfl) ?_
    obtain rfl := Option.some.inj hg
    exact W.ret (Ends.of [] (by kernel_rfl))
  refine RG.fin 21 [] (envOf [(4, Bl false)]) [] (by kernel_rfl) ?_
  obtain rfl := Option.some.inj hg
  exact W.ret (Ends.of [] (by kernel_rfl))
def g23_b1 (n : Nat) (a0 : T_api_Code) (a1 : T_api_Code) (s1 : Int) : Option (Bo Int (Int × Bool) Bool) := bif (decide (s1 < ((a0.Sign_.map c_T_api_Param).length : Int))) then (idx a0.Sign_ s1).bind fun y3 => (idx a1.Sign_ s1).bind fun y4 => bif (!(y3.Name_ == y4.Name_ && (y3.Kind_ == y4.Kind_ && (y3.Len_ == y4.Len_ && true)))) then some (.ret false) else some (.go (IntKind.i64.wrap (s1 + (1)))) else some (.out (s1, (decide (s1 < ((a0.Sign_.map c_T_api_Param).length : Int)))))
def g23_b2 (n : Nat) (a0 : T_api_Code) (a1 : T_api_Code) (s2 : Int) : Option (Bo Int (Int × Bool) Bool) := bif (decide (s2 < ((a0.Regs_.map c_T_api_Type).length : Int))) then (idx a0.Regs_ s2).bind fun y7 => (idx a1.Regs_ s2).bind fun y8 => bif (!(y7.Kind_ == y8.Kind_ && (y7.Param_ == y8.Param_ && true))) then some (.ret false) else some (.go (IntKind.i64.wrap (s2 + (1)))) else some (.out (s2, (decide (s2 < ((a0.Regs_.map c_T_api_Type).length : Int)))))
def g23_b3 (n : Nat) (a0 : T_api_Code) (a1 : T_api_Code) (s3 : Int) : Option (Bo Int (Int × Bool) Bool) := bif (decide (s3 < ((a0.Slots_.map c_T_api_Slot).length : Int))) then (idx a0.Slots_ s3).bind fun y11 => (idx a1.Slots_ s3).bind fun y12 => bif (!(y11.Type_.Kind_ == y12.Type_.Kind_ && (y11.Type_.Param_ == y12.Type_.Param_ && (y11.Keep_ == y12.Keep_ && (y11.Bits_ == y12.Bits_ && (y11.Int_ == y12.Int_ && true)))))) then some (.ret false) else some (.go (IntKind.i64.wrap (s3 + (1)))) else some (.out (s3, (decide (s3 < ((a0.Slots_.map c_T_api_Slot).length : Int)))))
def g23_b4 (n : Nat) (a0 : T_api_Code) (a1 : T_api_Code) (s4 : Int) : Option (Bo Int (Int × Bool) Bool) := bif (decide (s4 < ((a0.List_.map c_T_api_Inst).length : Int))) then (idx a0.List_ s4).bind fun y15 => (idx a1.List_ s4).bind fun y16 => bif (!(y15.Op_ == y16.Op_ && (y15.D_ == y16.D_ && (y15.A_ == y16.A_ && (y15.B_ == y16.B_ && (y15.C_ == y16.C_ && (y15.N_ == y16.N_ && (y15.Bits_ == y16.Bits_ && true)))))))) then some (.ret false) else some (.go (IntKind.i64.wrap (s4 + (1)))) else some (.out (s4, (decide (s4 < ((a0.List_.map c_T_api_Inst).length : Int)))))
def g23 (n : Nat) (a0 : T_api_Code) (a1 : T_api_Code) : Option Bool := bif (((a0.Sign_.map c_T_api_Param).length : Int) != ((a1.Sign_.map c_T_api_Param).length : Int)) then some false else bif (((a0.Regs_.map c_T_api_Type).length : Int) != ((a1.Regs_.map c_T_api_Type).length : Int)) then some false else bif (((a0.Slots_.map c_T_api_Slot).length : Int) != ((a1.Slots_.map c_T_api_Slot).length : Int)) then some false else bif (((a0.List_.map c_T_api_Inst).length : Int) != ((a1.List_.map c_T_api_Inst).length : Int)) then some false else (iter (g23_b1 n a0 a1) n (0)).bind (Bo.then (fun t1 => (iter (g23_b2 n a0 a1) n (0)).bind (Bo.then (fun t2 => (iter (g23_b3 n a0 a1) n (0)).bind (Bo.then (fun t3 => (iter (g23_b4 n a0 a1) n (0)).bind (Bo.then (fun t4 => some true) some)) some)) some)) some)
theorem g23_ok (n : Nat) (a0 : T_api_Code) (a1 : T_api_Code) (r : Bool) (hg : g23 n a0 a1 = some r) : CallOk Go.Proofs.Try.prog 23 [.ag [.im 3 (a0.Sign_.map c_T_api_Param), .im 2 (a0.Regs_.map c_T_api_Type), .im 5 (a0.Slots_.map c_T_api_Slot), .im 7 (a0.List_.map c_T_api_Inst)], .ag [.im 3 (a1.Sign_.map c_T_api_Param), .im 2 (a1.Regs_.map c_T_api_Type), .im 5 (a1.Slots_.map c_T_api_Slot), .im 7 (a1.List_.map c_T_api_Inst)]] [] (Bl r) [] := by
  unfold g23 at hg
  refine CallG.narrow ?_ (by kernel_rfl) (by kernel_rfl)
  refine .of_S [0, 1] (envOf [(0, .ag [.im 3 (a0.Sign_.map c_T_api_Param), .im 2 (a0.Regs_.map c_T_api_Type), .im 5 (a0.Slots_.map c_T_api_Slot), .im 7 (a0.List_.map c_T_api_Inst)]), (1, .ag [.im 3 (a1.Sign_.map c_T_api_Param), .im 2 (a1.Regs_.map c_T_api_Type), .im 5 (a1.Slots_.map c_T_api_Slot), .im 7 (a1.List_.map c_T_api_Inst)])]) fn23 (by kernel_rfl) ?_
  refine W.seq ?_
  refine W.regG ?_
  refine RG.fin 3 [(2, 2), (3, 3)] (envOf [(2, .pt 2 [] 0 0), (3, .pt 3 [] 0 0)]) [(2, ⟨4, [[.im 3 (a0.Sign_.map c_T_api_Param), .im 2 (a0.Regs_.map c_T_api_Type), .im 5 (a0.Slots_.map c_T_api_Slot), .im 7 (a0.List_.map c_T_api_Inst)]]⟩), (3, ⟨4, [[.im 3 (a1.Sign_.map c_T_api_Param), .im 2 (a1.Regs_.map c_T_api_Type), .im 5 (a1.Slots_.map c_T_api_Slot), .im 7 (a1.List_.map c_T_api_Inst)]]⟩)] (by kernel_rfl) ?_
  refine W.seq ?_
  refine W.seq ?_
  refine W.regG ?_
  refine RG.cut 8 [(2, 2), (3, 3)] [2, 3, 16, 17, 18, 19, 20, 21, 22, 23, 26, 27, 28, 29, 30, 31, 32, 35, 36, 37, 38, 39, 40, 41] (envOf [(2, .pt 2 [] 0 0), (3, .pt 3 [] 0 0), (16, Bl (((a0.Sign_.map c_T_api_Param).length : Int) != ((a1.Sign_.map c_T_api_Param).length : Int))), (17, .un), (18, .un), (19, .un), (20, .un), (21, .un), (22, .un), (23, .un), (26, .un), (27, .un), (28, .un), (29, .un), (30, .un), (31, .un), (32, .un), (35, .un), (36, .un), (37, .un), (38, .un), (39, .un), (40, .un), (41, .un)]) [(2, ⟨4, [[.im 3 (a0.Sign_.map c_T_api_Param), .im 2 (a0.Regs_.map c_T_api_Type), .im 5 (a0.Slots_.map c_T_api_Slot), .im 7 (a0.List_.map c_T_api_Inst)]]⟩), (3, ⟨4, [[.im 3 (a1.Sign_.map c_T_api_Param), .im 2 (a1.Regs_.map c_T_api_Type), .im 5 (a1.Slots_.map c_T_api_Slot), .im 7 (a1.List_.map c_T_api_Inst)]]⟩)] (by kernel_rfl) ?_
  refine RG.guard (s := 16) (by kernel_rfl) hg (fun hg => ?_) (fun hg => ?_)
  · refine RG.fin 26 [(2, 2), (3, 3)] (envOf [(2, .pt 2 [] 0 0), (3, .pt 3 [] 0 0), (42, Bl true)]) [(2, ⟨4, [[.im 3 (a0.Sign_.map c_T_api_Param), .im 2 (a0.Regs_.map c_T_api_Type), .im 5 (a0.Slots_.map c_T_api_Slot), .im 7 (a0.List_.map c_T_api_Inst)]]⟩), (3, ⟨4, [[.im 3 (a1.Sign_.map c_T_api_Param), .im 2 (a1.Regs_.map c_T_api_Type), .im 5 (a1.Slots_.map c_T_api_Slot), .im 7 (a1.List_.map c_T_api_Inst)]]⟩)] (by kernel_rfl) ?_
    refine W.condT (by kernel_rfl) ?_
    refine W.seq ?_
    refine W.regG ?_
    refine RG.fin 1 [] (envOf [(4, Bl false)]) [] (by kernel_rfl) ?_
    obtain rfl := Option.some.inj hg
    exact W.ret (Ends.of [] (by kernel_rfl))
  refine RG.cut 9 [(2, 2), (3, 3)] [2, 3, 25, 26, 27, 28, 29, 30, 31, 32, 35, 36, 37, 38, 39, 40, 41] (envOf [(2, .pt 2 [] 0 0), (3, .pt 3 [] 0 0), (25, Bl (((a0.Regs_.map c_T_api_Type).length : Int) != ((a1.Regs_.map c_T_api_Type).length : Int))), (26, .un), (27, .un), (28, .un), (29, .un), (30, .un), (31, .un), (32, .un), (35, .un), (36, .un), (37, .un), (38, .un), (39, .un), (40, .un), (41, .un)]) [(2, ⟨4, [[.im 3 (a0.Sign_.map c_T_api_Param), .im 2 (a0.Regs_.map c_T_api_Type), .im 5 (a0.Slots_.map c_T_api_Slot), .im 7 (a0.List_.map c_T_api_Inst)]]⟩), (3, ⟨4, [[.im 3 (a1.Sign_.map c_T_api_Param), .im 2 (a1.Regs_.map c_T_api_Type), .im 5 (a1.Slots_.map c_T_api_Slot), .im 7 (a1.List_.map c_T_api_Inst)]]⟩)] (by kernel_rfl) ?_
  refine RG.guard (s := 25) (by kernel_rfl) hg (fun hg => ?_) (fun hg => ?_)
  · refine RG.fin 17 [(2, 2), (3, 3)] (envOf [(2, .pt 2 [] 0 0), (3, .pt 3 [] 0 0), (42, Bl true)]) [(2, ⟨4, [[.im 3 (a0.Sign_.map c_T_api_Param), .im 2 (a0.Regs_.map c_T_api_Type), .im 5 (a0.Slots_.map c_T_api_Slot), .im 7 (a0.List_.map c_T_api_Inst)]]⟩), (3, ⟨4, [[.im 3 (a1.Sign_.map c_T_api_Param), .im 2 (a1.Regs_.map c_T_api_Type), .im 5 (a1.Slots_.map c_T_api_Slot), .im 7 (a1.List_.map c_T_api_Inst)]]⟩)] (by kernel_rfl) ?_
    refine W.condT (by kernel_rfl) ?_
    refine W.seq ?_
    refine W.regG ?_
    refine RG.fin 1 [] (envOf [(4, Bl false)]) [] (by kernel_rfl) ?_
    obtain rfl := Option.some.inj hg
    exact W.ret (Ends.of [] (by kernel_rfl))
  refine RG.cut 9 [(2, 2), (3, 3)] [2, 3, 34, 35, 36, 37, 38, 39, 40, 41] (envOf [(2, .pt 2 [] 0 0), (3, .pt 3 [] 0 0), (34, Bl (((a0.Slots_.map c_T_api_Slot).length : Int) != ((a1.Slots_.map c_T_api_Slot).length : Int))), (35, .un), (36, .un), (37, .un), (38, .un), (39, .un), (40, .un), (41, .un)]) [(2, ⟨4, [[.im 3 (a0.Sign_.map c_T_api_Param), .im 2 (a0.Regs_.map c_T_api_Type), .im 5 (a0.Slots_.map c_T_api_Slot), .im 7 (a0.List_.map c_T_api_Inst)]]⟩), (3, ⟨4, [[.im 3 (a1.Sign_.map c_T_api_Param), .im 2 (a1.Regs_.map c_T_api_Type), .im 5 (a1.Slots_.map c_T_api_Slot), .im 7 (a1.List_.map c_T_api_Inst)]]⟩)] (by kernel_rfl) ?_
  refine RG.guard (s := 34) (by kernel_rfl) hg (fun hg => ?_) (fun hg => ?_)
  · refine RG.fin 8 [(2, 2), (3, 3)] (envOf [(2, .pt 2 [] 0 0), (3, .pt 3 [] 0 0), (42, Bl true)]) [(2, ⟨4, [[.im 3 (a0.Sign_.map c_T_api_Param), .im 2 (a0.Regs_.map c_T_api_Type), .im 5 (a0.Slots_.map c_T_api_Slot), .im 7 (a0.List_.map c_T_api_Inst)]]⟩), (3, ⟨4, [[.im 3 (a1.Sign_.map c_T_api_Param), .im 2 (a1.Regs_.map c_T_api_Type), .im 5 (a1.Slots_.map c_T_api_Slot), .im 7 (a1.List_.map c_T_api_Inst)]]⟩)] (by kernel_rfl) ?_
    refine W.condT (by kernel_rfl) ?_
    refine W.seq ?_
    refine W.regG ?_
    refine RG.fin 1 [] (envOf [(4, Bl false)]) [] (by kernel_rfl) ?_
    obtain rfl := Option.some.inj hg
    exact W.ret (Ends.of [] (by kernel_rfl))
  refine RG.fin 8 [(2, 2), (3, 3)] (envOf [(2, .pt 2 [] 0 0), (3, .pt 3 [] 0 0), (42, Bl (((a0.List_.map c_T_api_Inst).length : Int) != ((a1.List_.map c_T_api_Inst).length : Int)))]) [(2, ⟨4, [[.im 3 (a0.Sign_.map c_T_api_Param), .im 2 (a0.Regs_.map c_T_api_Type), .im 5 (a0.Slots_.map c_T_api_Slot), .im 7 (a0.List_.map c_T_api_Inst)]]⟩), (3, ⟨4, [[.im 3 (a1.Sign_.map c_T_api_Param), .im 2 (a1.Regs_.map c_T_api_Type), .im 5 (a1.Slots_.map c_T_api_Slot), .im 7 (a1.List_.map c_T_api_Inst)]]⟩)] (by kernel_rfl) ?_
  refine W.condB (b := (((a0.List_.map c_T_api_Inst).length : Int) != ((a1.List_.map c_T_api_Inst).length : Int))) (by kernel_rfl) hg (fun hg => ?_) (fun hg => ?_)
  · refine W.seq ?_
    refine W.regG ?_
    refine RG.fin 1 [] (envOf [(4, Bl false)]) [] (by kernel_rfl) ?_
    obtain rfl := Option.some.inj hg
    exact W.ret (Ends.of [] (by kernel_rfl))
  refine W.skip ?_
  refine W.seq ?_
  refine W.seq ?_
  refine W.regG ?_
  refine RG.fin 1 [(2, 2), (3, 3)] (envOf [(2, .pt 2 [] 0 0), (3, .pt 3 [] 0 0), (5, I64 (0))]) [(2, ⟨4, [[.im 3 (a0.Sign_.map c_T_api_Param), .im 2 (a0.Regs_.map c_T_api_Type), .im 5 (a0.Slots_.map c_T_api_Slot), .im 7 (a0.List_.map c_T_api_Inst)]]⟩), (3, ⟨4, [[.im 3 (a1.Sign_.map c_T_api_Param), .im 2 (a1.Regs_.map c_T_api_Type), .im 5 (a1.Slots_.map c_T_api_Slot), .im 7 (a1.List_.map c_T_api_Inst)]]⟩)] (by kernel_rfl) ?_
  refine W.norm [(2, 2), (3, 3)] [2, 3, 5] (envOf [(2, .pt 2 [] 0 0), (3, .pt 3 [] 0 0), (5, I64 (0))]) [(2, ⟨4, [[.im 3 (a0.Sign_.map c_T_api_Param), .im 2 (a0.Regs_.map c_T_api_Type), .im 5 (a0.Slots_.map c_T_api_Slot), .im 7 (a0.List_.map c_T_api_Inst)]]⟩), (3, ⟨4, [[.im 3 (a1.Sign_.map c_T_api_Param), .im 2 (a1.Regs_.map c_T_api_Type), .im 5 (a1.Slots_.map c_T_api_Slot), .im 7 (a1.List_.map c_T_api_Inst)]]⟩)] (by kernel_rfl) ?_
  refine W.loopB (fun s1 : Int => envOf [(2, .pt 2 [] 0 0), (3, .pt 3 [] 0 0), (5, I64 s1)]) (fun s1 : Int => [(2, ⟨4, [[.im 3 (a0.Sign_.map c_T_api_Param), .im 2 (a0.Regs_.map c_T_api_Type), .im 5 (a0.Slots_.map c_T_api_Slot), .im 7 (a0.List_.map c_T_api_Inst)]]⟩), (3, ⟨4, [[.im 3 (a1.Sign_.map c_T_api_Param), .im 2 (a1.Regs_.map c_T_api_Type), .im 5 (a1.Slots_.map c_T_api_Slot), .im 7 (a1.List_.map c_T_api_Inst)]]⟩)]) (fun t1 : Int × Bool => envOf [(2, .pt 2 [] 0 0), (3, .pt 3 [] 0 0), (5, I64 t1.1), (47, Bl t1.2)]) (fun t1 : Int × Bool => [(2, ⟨4, [[.im 3 (a0.Sign_.map c_T_api_Param), .im 2 (a0.Regs_.map c_T_api_Type), .im 5 (a0.Slots_.map c_T_api_Slot), .im 7 (a0.List_.map c_T_api_Inst)]]⟩), (3, ⟨4, [[.im 3 (a1.Sign_.map c_T_api_Param), .im 2 (a1.Regs_.map c_T_api_Type), .im 5 (a1.Slots_.map c_T_api_Slot), .im 7 (a1.List_.map c_T_api_Inst)]]⟩)]) (fun (r : Bool) e h => Ends [.t 4] [] (Bl r) [] .ret e h) hg (by kernel_rfl) (by kernel_rfl) (fun s1 bb hg => ?_) (fun r' hr e h q => by cases hr; exact q) (fun t1 hg => ?_)
  · unfold g23_b1 at hg
    refine W.seq ?_
    refine W.seq ?_
    refine W.regG ?_
    refine RG.fin 5 [(2, 2), (3, 3)] (envOf [(2, .pt 2 [] 0 0), (3, .pt 3 [] 0 0), (5, I64 s1), (47, Bl (decide (s1 < ((a0.Sign_.map c_T_api_Param).length : Int))))]) [(2, ⟨4, [[.im 3 (a0.Sign_.map c_T_api_Param), .im 2 (a0.Regs_.map c_T_api_Type), .im 5 (a0.Slots_.map c_T_api_Slot), .im 7 (a0.List_.map c_T_api_Inst)]]⟩), (3, ⟨4, [[.im 3 (a1.Sign_.map c_T_api_Param), .im 2 (a1.Regs_.map c_T_api_Type), .im 5 (a1.Slots_.map c_T_api_Slot), .im 7 (a1.List_.map c_T_api_Inst)]]⟩)] (by kernel_rfl) ?_
    refine W.condB (b := (decide (s1 < ((a0.Sign_.map c_T_api_Param).length : Int)))) (by kernel_rfl) hg (fun hg => ?_) (fun hg => ?_)
    · refine W.skip ?_
      refine W.seq ?_
      refine W.block ?_
      refine W.seq ?_
      refine W.drawG [50, 51, 52, 53, 54, 55, 56, 57, 58, 59] (by kernel_rfl) (by kernel_rfl) ?_
      refine WD.rd (av := .pt 2 [] 0 0) (by kernel_rfl) (by kernel_rfl) ?_
      refine WD.rd (av := .im 3 (a0.Sign_.map c_T_api_Param)) (by kernel_rfl) (by kernel_rfl) ?_
      refine WD.rd (av := I64 s1) (by kernel_rfl) (by kernel_rfl) ?_
      refine WD.bindRd (fun _ => .ip 3 (a0.Sign_.map c_T_api_Param) s1.toNat 0) (by kernel_rfl) hg (fun _ hz => rd_iadIm (k := .i64) (by kernel_rfl) (by kernel_rfl) hz) (fun y3 hy3 hg => ?_)
      refine WD.rd (av := .ag [St y3.Name_, I64 y3.Kind_, I64 y3.Len_]) (by kernel_rfl) (rd_loadIp (s := 3) (o := 0) (c := c_T_api_Param) (xs := a0.Sign_) (j := s1) hy3 (by kernel_rfl) (by kernel_rfl)) ?_
      refine WD.rd (av := .pt 3 [] 0 0) (by kernel_rfl) (by kernel_rfl) ?_
      refine WD.rd (av := .im 3 (a1.Sign_.map c_T_api_Param)) (by kernel_rfl) (by kernel_rfl) ?_
      refine WD.rd (av := I64 s1) (by kernel_rfl) (by kernel_rfl) ?_
      refine WD.bindRd (fun _ => .ip 3 (a1.Sign_.map c_T_api_Param) s1.toNat 0) (by kernel_rfl) hg (fun _ hz => rd_iadIm (k := .i64) (by kernel_rfl) (by kernel_rfl) hz) (fun y4 hy4 hg => ?_)
      refine WD.rd (av := .ag [St y4.Name_, I64 y4.Kind_, I64 y4.Len_]) (by kernel_rfl) (rd_loadIp (s := 3) (o := 0) (c := c_T_api_Param) (xs := a1.Sign_) (j := s1) hy4 (by kernel_rfl) (by kernel_rfl)) ?_
      refine WD.done (by kernel_rfl) (by kernel_rfl) ?_
      refine RG.fin 1 [(2, 2), (3, 3)] (envOf [(2, .pt 2 [] 0 0), (3, .pt 3 [] 0 0), (5, I64 s1), (60, Bl (!(y3.Name_ == y4.Name_ && (y3.Kind_ == y4.Kind_ && (y3.Len_ == y4.Len_ && true)))))]) [(2, ⟨4, [[.im 3 (a0.Sign_.map c_T_api_Param), .im 2 (a0.Regs_.map c_T_api_Type), .im 5 (a0.Slots_.map c_T_api_Slot), .im 7 (a0.List_.map c_T_api_Inst)]]⟩), (3, ⟨4, [[.im 3 (a1.Sign_.map c_T_api_Param), .im 2 (a1.Regs_.map c_T_api_Type), .im 5 (a1.Slots_.map c_T_api_Slot), .im 7 (a1.List_.map c_T_api_Inst)]]⟩)] (by kernel_rfl) ?_
      refine W.condB (b := (!(y3.Name_ == y4.Name_ && (y3.Kind_ == y4.Kind_ && (y3.Len_ == y4.Len_ && true))))) (by kernel_rfl) hg (fun hg => ?_) (fun hg => ?_)
      · refine W.seq ?_
        refine W.regG ?_
        refine RG.fin 1 [] (envOf [(4, Bl false)]) [] (by kernel_rfl) ?_
        obtain rfl := Option.some.inj hg
        exact W.ret ⟨rfl, Ends.of [] (by kernel_rfl)⟩
      refine W.skip ?_
      refine W.regG ?_
      refine RG.fin 3 [(2, 2), (3, 3)] (envOf [(2, .pt 2 [] 0 0), (3, .pt 3 [] 0 0), (5, I64 (IntKind.i64.wrap (s1 + (1))))]) [(2, ⟨4, [[.im 3 (a0.Sign_.map c_T_api_Param), .im 2 (a0.Regs_.map c_T_api_Type), .im 5 (a0.Slots_.map c_T_api_Slot), .im 7 (a0.List_.map c_T_api_Inst)]]⟩), (3, ⟨4, [[.im 3 (a1.Sign_.map c_T_api_Param), .im 2 (a1.Regs_.map c_T_api_Type), .im 5 (a1.Slots_.map c_T_api_Slot), .im 7 (a1.List_.map c_T_api_Inst)]]⟩)] (by kernel_rfl) ?_
      obtain rfl := Option.some.inj hg
      exact ⟨rfl, by kernel_rfl, by kernel_rfl⟩
    refine W.norm [(2, 2), (3, 3)] [2, 3, 5, 47] (envOf [(2, .pt 2 [] 0 0), (3, .pt 3 [] 0 0), (5, I64 s1), (47, Bl (decide (s1 < ((a0.Sign_.map c_T_api_Param).length : Int))))]) [(2, ⟨4, [[.im 3 (a0.Sign_.map c_T_api_Param), .im 2 (a0.Regs_.map c_T_api_Type), .im 5 (a0.Slots_.map c_T_api_Slot), .im 7 (a0.List_.map c_T_api_Inst)]]⟩), (3, ⟨4, [[.im 3 (a1.Sign_.map c_T_api_Param), .im 2 (a1.Regs_.map c_T_api_Type), .im 5 (a1.Slots_.map c_T_api_Slot), .im 7 (a1.List_.map c_T_api_Inst)]]⟩)] (by kernel_rfl) ?_
    refine W.exit ?_
    obtain rfl := Option.some.inj hg
    exact ⟨rfl, by kernel_rfl, by kernel_rfl⟩
  refine W.seq ?_
  refine W.seq ?_
  refine W.regG ?_
  refine RG.fin 1 [(2, 2), (3, 3)] (envOf [(2, .pt 2 [] 0 0), (3, .pt 3 [] 0 0), (6, I64 (0))]) [(2, ⟨4, [[.im 3 (a0.Sign_.map c_T_api_Param), .im 2 (a0.Regs_.map c_T_api_Type), .im 5 (a0.Slots_.map c_T_api_Slot), .im 7 (a0.List_.map c_T_api_Inst)]]⟩), (3, ⟨4, [[.im 3 (a1.Sign_.map c_T_api_Param), .im 2 (a1.Regs_.map c_T_api_Type), .im 5 (a1.Slots_.map c_T_api_Slot), .im 7 (a1.List_.map c_T_api_Inst)]]⟩)] (by kernel_rfl) ?_
  refine W.norm [(2, 2), (3, 3)] [2, 3, 6] (envOf [(2, .pt 2 [] 0 0), (3, .pt 3 [] 0 0), (6, I64 (0))]) [(2, ⟨4, [[.im 3 (a0.Sign_.map c_T_api_Param), .im 2 (a0.Regs_.map c_T_api_Type), .im 5 (a0.Slots_.map c_T_api_Slot), .im 7 (a0.List_.map c_T_api_Inst)]]⟩), (3, ⟨4, [[.im 3 (a1.Sign_.map c_T_api_Param), .im 2 (a1.Regs_.map c_T_api_Type), .im 5 (a1.Slots_.map c_T_api_Slot), .im 7 (a1.List_.map c_T_api_Inst)]]⟩)] (by kernel_rfl) ?_
  refine W.loopB (fun s2 : Int => envOf [(2, .pt 2 [] 0 0), (3, .pt 3 [] 0 0), (6, I64 s2)]) (fun s2 : Int => [(2, ⟨4, [[.im 3 (a0.Sign_.map c_T_api_Param), .im 2 (a0.Regs_.map c_T_api_Type), .im 5 (a0.Slots_.map c_T_api_Slot), .im 7 (a0.List_.map c_T_api_Inst)]]⟩), (3, ⟨4, [[.im 3 (a1.Sign_.map c_T_api_Param), .im 2 (a1.Regs_.map c_T_api_Type), .im 5 (a1.Slots_.map c_T_api_Slot), .im 7 (a1.List_.map c_T_api_Inst)]]⟩)]) (fun t2 : Int × Bool => envOf [(2, .pt 2 [] 0 0), (3, .pt 3 [] 0 0), (6, I64 t2.1), (65, Bl t2.2)]) (fun t2 : Int × Bool => [(2, ⟨4, [[.im 3 (a0.Sign_.map c_T_api_Param), .im 2 (a0.Regs_.map c_T_api_Type), .im 5 (a0.Slots_.map c_T_api_Slot), .im 7 (a0.List_.map c_T_api_Inst)]]⟩), (3, ⟨4, [[.im 3 (a1.Sign_.map c_T_api_Param), .im 2 (a1.Regs_.map c_T_api_Type), .im 5 (a1.Slots_.map c_T_api_Slot), .im 7 (a1.List_.map c_T_api_Inst)]]⟩)]) (fun (r : Bool) e h => Ends [.t 4] [] (Bl r) [] .ret e h) hg (by kernel_rfl) (by kernel_rfl) (fun s2 bb hg => ?_) (fun r' hr e h q => by cases hr; exact q) (fun t2 hg => ?_)
  · unfold g23_b2 at hg
    refine W.seq ?_
    refine W.seq ?_
    refine W.regG ?_
    refine RG.fin 5 [(2, 2), (3, 3)] (envOf [(2, .pt 2 [] 0 0), (3, .pt 3 [] 0 0), (6, I64 s2), (65, Bl (decide (s2 < ((a0.Regs_.map c_T_api_Type).length : Int))))]) [(2, ⟨4, [[.im 3 (a0.Sign_.map c_T_api_Param), .im 2 (a0.Regs_.map c_T_api_Type), .im 5 (a0.Slots_.map c_T_api_Slot), .im 7 (a0.List_.map c_T_api_Inst)]]⟩), (3, ⟨4, [[.im 3 (a1.Sign_.map c_T_api_Param), .im 2 (a1.Regs_.map c_T_api_Type), .im 5 (a1.Slots_.map c_T_api_Slot), .im 7 (a1.List_.map c_T_api_Inst)]]⟩)] (by kernel_rfl) ?_
    refine W.condB (b := (decide (s2 < ((a0.Regs_.map c_T_api_Type).length : Int)))) (by kernel_rfl) hg (fun hg => ?_) (fun hg => ?_)
    · refine W.skip ?_
      refine W.seq ?_
      refine W.block ?_
      refine W.seq ?_
      refine W.drawG [68, 69, 70, 71, 72, 73, 74, 75, 76, 77] (by kernel_rfl) (by kernel_rfl) ?_
      refine WD.rd (av := .pt 2 [] 0 1) (by kernel_rfl) (by kernel_rfl) ?_
      refine WD.rd (av := .im 2 (a0.Regs_.map c_T_api_Type)) (by kernel_rfl) (by kernel_rfl) ?_
      refine WD.rd (av := I64 s2) (by kernel_rfl) (by kernel_rfl) ?_
      refine WD.bindRd (fun _ => .ip 2 (a0.Regs_.map c_T_api_Type) s2.toNat 0) (by kernel_rfl) hg (fun _ hz => rd_iadIm (k := .i64) (by kernel_rfl) (by kernel_rfl) hz) (fun y7 hy7 hg => ?_)
      refine WD.rd (av := .ag [I64 y7.Kind_, I64 y7.Param_]) (by kernel_rfl) (rd_loadIp (s := 2) (o := 0) (c := c_T_api_Type) (xs := a0.Regs_) (j := s2) hy7 (by kernel_rfl) (by kernel_rfl)) ?_
      refine WD.rd (av := .pt 3 [] 0 1) (by kernel_rfl) (by kernel_rfl) ?_
      refine WD.rd (av := .im 2 (a1.Regs_.map c_T_api_Type)) (by kernel_rfl) (by kernel_rfl) ?_
      refine WD.rd (av := I64 s2) (by kernel_rfl) (by kernel_rfl) ?_
      refine WD.bindRd (fun _ => .ip 2 (a1.Regs_.map c_T_api_Type) s2.toNat 0) (by kernel_rfl) hg (fun _ hz => rd_iadIm (k := .i64) (by kernel_rfl) (by kernel_rfl) hz) (fun y8 hy8 hg => ?_)
      refine WD.rd (av := .ag [I64 y8.Kind_, I64 y8.Param_]) (by kernel_rfl) (rd_loadIp (s := 2) (o := 0) (c := c_T_api_Type) (xs := a1.Regs_) (j := s2) hy8 (by kernel_rfl) (by kernel_rfl)) ?_
      refine WD.done (by kernel_rfl) (by kernel_rfl) ?_
      refine RG.fin 1 [(2, 2), (3, 3)] (envOf [(2, .pt 2 [] 0 0), (3, .pt 3 [] 0 0), (6, I64 s2), (78, Bl (!(y7.Kind_ == y8.Kind_ && (y7.Param_ == y8.Param_ && true))))]) [(2, ⟨4, [[.im 3 (a0.Sign_.map c_T_api_Param), .im 2 (a0.Regs_.map c_T_api_Type), .im 5 (a0.Slots_.map c_T_api_Slot), .im 7 (a0.List_.map c_T_api_Inst)]]⟩), (3, ⟨4, [[.im 3 (a1.Sign_.map c_T_api_Param), .im 2 (a1.Regs_.map c_T_api_Type), .im 5 (a1.Slots_.map c_T_api_Slot), .im 7 (a1.List_.map c_T_api_Inst)]]⟩)] (by kernel_rfl) ?_
      refine W.condB (b := (!(y7.Kind_ == y8.Kind_ && (y7.Param_ == y8.Param_ && true)))) (by kernel_rfl) hg (fun hg => ?_) (fun hg => ?_)
      · refine W.seq ?_
        refine W.regG ?_
        refine RG.fin 1 [] (envOf [(4, Bl false)]) [] (by kernel_rfl) ?_
        obtain rfl := Option.some.inj hg
        exact W.ret ⟨rfl, Ends.of [] (by kernel_rfl)⟩
      refine W.skip ?_
      refine W.regG ?_
      refine RG.fin 3 [(2, 2), (3, 3)] (envOf [(2, .pt 2 [] 0 0), (3, .pt 3 [] 0 0), (6, I64 (IntKind.i64.wrap (s2 + (1))))]) [(2, ⟨4, [[.im 3 (a0.Sign_.map c_T_api_Param), .im 2 (a0.Regs_.map c_T_api_Type), .im 5 (a0.Slots_.map c_T_api_Slot), .im 7 (a0.List_.map c_T_api_Inst)]]⟩), (3, ⟨4, [[.im 3 (a1.Sign_.map c_T_api_Param), .im 2 (a1.Regs_.map c_T_api_Type), .im 5 (a1.Slots_.map c_T_api_Slot), .im 7 (a1.List_.map c_T_api_Inst)]]⟩)] (by kernel_rfl) ?_
      obtain rfl := Option.some.inj hg
      exact ⟨rfl, by kernel_rfl, by kernel_rfl⟩
    refine W.norm [(2, 2), (3, 3)] [2, 3, 6, 65] (envOf [(2, .pt 2 [] 0 0), (3, .pt 3 [] 0 0), (6, I64 s2), (65, Bl (decide (s2 < ((a0.Regs_.map c_T_api_Type).length : Int))))]) [(2, ⟨4, [[.im 3 (a0.Sign_.map c_T_api_Param), .im 2 (a0.Regs_.map c_T_api_Type), .im 5 (a0.Slots_.map c_T_api_Slot), .im 7 (a0.List_.map c_T_api_Inst)]]⟩), (3, ⟨4, [[.im 3 (a1.Sign_.map c_T_api_Param), .im 2 (a1.Regs_.map c_T_api_Type), .im 5 (a1.Slots_.map c_T_api_Slot), .im 7 (a1.List_.map c_T_api_Inst)]]⟩)] (by kernel_rfl) ?_
    refine W.exit ?_
    obtain rfl := Option.some.inj hg
    exact ⟨rfl, by kernel_rfl, by kernel_rfl⟩
  refine W.seq ?_
  refine W.seq ?_
  refine W.regG ?_
  refine RG.fin 1 [(2, 2), (3, 3)] (envOf [(2, .pt 2 [] 0 0), (3, .pt 3 [] 0 0), (7, I64 (0))]) [(2, ⟨4, [[.im 3 (a0.Sign_.map c_T_api_Param), .im 2 (a0.Regs_.map c_T_api_Type), .im 5 (a0.Slots_.map c_T_api_Slot), .im 7 (a0.List_.map c_T_api_Inst)]]⟩), (3, ⟨4, [[.im 3 (a1.Sign_.map c_T_api_Param), .im 2 (a1.Regs_.map c_T_api_Type), .im 5 (a1.Slots_.map c_T_api_Slot), .im 7 (a1.List_.map c_T_api_Inst)]]⟩)] (by kernel_rfl) ?_
  refine W.norm [(2, 2), (3, 3)] [2, 3, 7] (envOf [(2, .pt 2 [] 0 0), (3, .pt 3 [] 0 0), (7, I64 (0))]) [(2, ⟨4, [[.im 3 (a0.Sign_.map c_T_api_Param), .im 2 (a0.Regs_.map c_T_api_Type), .im 5 (a0.Slots_.map c_T_api_Slot), .im 7 (a0.List_.map c_T_api_Inst)]]⟩), (3, ⟨4, [[.im 3 (a1.Sign_.map c_T_api_Param), .im 2 (a1.Regs_.map c_T_api_Type), .im 5 (a1.Slots_.map c_T_api_Slot), .im 7 (a1.List_.map c_T_api_Inst)]]⟩)] (by kernel_rfl) ?_
  refine W.loopB (fun s3 : Int => envOf [(2, .pt 2 [] 0 0), (3, .pt 3 [] 0 0), (7, I64 s3)]) (fun s3 : Int => [(2, ⟨4, [[.im 3 (a0.Sign_.map c_T_api_Param), .im 2 (a0.Regs_.map c_T_api_Type), .im 5 (a0.Slots_.map c_T_api_Slot), .im 7 (a0.List_.map c_T_api_Inst)]]⟩), (3, ⟨4, [[.im 3 (a1.Sign_.map c_T_api_Param), .im 2 (a1.Regs_.map c_T_api_Type), .im 5 (a1.Slots_.map c_T_api_Slot), .im 7 (a1.List_.map c_T_api_Inst)]]⟩)]) (fun t3 : Int × Bool => envOf [(2, .pt 2 [] 0 0), (3, .pt 3 [] 0 0), (7, I64 t3.1), (83, Bl t3.2)]) (fun t3 : Int × Bool => [(2, ⟨4, [[.im 3 (a0.Sign_.map c_T_api_Param), .im 2 (a0.Regs_.map c_T_api_Type), .im 5 (a0.Slots_.map c_T_api_Slot), .im 7 (a0.List_.map c_T_api_Inst)]]⟩), (3, ⟨4, [[.im 3 (a1.Sign_.map c_T_api_Param), .im 2 (a1.Regs_.map c_T_api_Type), .im 5 (a1.Slots_.map c_T_api_Slot), .im 7 (a1.List_.map c_T_api_Inst)]]⟩)]) (fun (r : Bool) e h => Ends [.t 4] [] (Bl r) [] .ret e h) hg (by kernel_rfl) (by kernel_rfl) (fun s3 bb hg => ?_) (fun r' hr e h q => by cases hr; exact q) (fun t3 hg => ?_)
  · unfold g23_b3 at hg
    refine W.seq ?_
    refine W.seq ?_
    refine W.regG ?_
    refine RG.fin 5 [(2, 2), (3, 3)] (envOf [(2, .pt 2 [] 0 0), (3, .pt 3 [] 0 0), (7, I64 s3), (83, Bl (decide (s3 < ((a0.Slots_.map c_T_api_Slot).length : Int))))]) [(2, ⟨4, [[.im 3 (a0.Sign_.map c_T_api_Param), .im 2 (a0.Regs_.map c_T_api_Type), .im 5 (a0.Slots_.map c_T_api_Slot), .im 7 (a0.List_.map c_T_api_Inst)]]⟩), (3, ⟨4, [[.im 3 (a1.Sign_.map c_T_api_Param), .im 2 (a1.Regs_.map c_T_api_Type), .im 5 (a1.Slots_.map c_T_api_Slot), .im 7 (a1.List_.map c_T_api_Inst)]]⟩)] (by kernel_rfl) ?_
    refine W.condB (b := (decide (s3 < ((a0.Slots_.map c_T_api_Slot).length : Int)))) (by kernel_rfl) hg (fun hg => ?_) (fun hg => ?_)
    · refine W.skip ?_
      refine W.seq ?_
      refine W.block ?_
      refine W.seq ?_
      refine W.drawG [86, 87, 88, 89, 90, 91, 92, 93, 94, 95] (by kernel_rfl) (by kernel_rfl) ?_
      refine WD.rd (av := .pt 2 [] 0 2) (by kernel_rfl) (by kernel_rfl) ?_
      refine WD.rd (av := .im 5 (a0.Slots_.map c_T_api_Slot)) (by kernel_rfl) (by kernel_rfl) ?_
      refine WD.rd (av := I64 s3) (by kernel_rfl) (by kernel_rfl) ?_
      refine WD.bindRd (fun _ => .ip 5 (a0.Slots_.map c_T_api_Slot) s3.toNat 0) (by kernel_rfl) hg (fun _ hz => rd_iadIm (k := .i64) (by kernel_rfl) (by kernel_rfl) hz) (fun y11 hy11 hg => ?_)
      refine WD.rd (av := .ag [I64 y11.Type_.Kind_, I64 y11.Type_.Param_, Bl y11.Keep_, .sc (.int .u32 y11.Bits_), I64 y11.Int_]) (by kernel_rfl) (rd_loadIp (s := 5) (o := 0) (c := c_T_api_Slot) (xs := a0.Slots_) (j := s3) hy11 (by kernel_rfl) (by kernel_rfl)) ?_
      refine WD.rd (av := .pt 3 [] 0 2) (by kernel_rfl) (by kernel_rfl) ?_
      refine WD.rd (av := .im 5 (a1.Slots_.map c_T_api_Slot)) (by kernel_rfl) (by kernel_rfl) ?_
      refine WD.rd (av := I64 s3) (by kernel_rfl) (by kernel_rfl) ?_
      refine WD.bindRd (fun _ => .ip 5 (a1.Slots_.map c_T_api_Slot) s3.toNat 0) (by kernel_rfl) hg (fun _ hz => rd_iadIm (k := .i64) (by kernel_rfl) (by kernel_rfl) hz) (fun y12 hy12 hg => ?_)
      refine WD.rd (av := .ag [I64 y12.Type_.Kind_, I64 y12.Type_.Param_, Bl y12.Keep_, .sc (.int .u32 y12.Bits_), I64 y12.Int_]) (by kernel_rfl) (rd_loadIp (s := 5) (o := 0) (c := c_T_api_Slot) (xs := a1.Slots_) (j := s3) hy12 (by kernel_rfl) (by kernel_rfl)) ?_
      refine WD.done (by kernel_rfl) (by kernel_rfl) ?_
      refine RG.fin 1 [(2, 2), (3, 3)] (envOf [(2, .pt 2 [] 0 0), (3, .pt 3 [] 0 0), (7, I64 s3), (96, Bl (!(y11.Type_.Kind_ == y12.Type_.Kind_ && (y11.Type_.Param_ == y12.Type_.Param_ && (y11.Keep_ == y12.Keep_ && (y11.Bits_ == y12.Bits_ && (y11.Int_ == y12.Int_ && true)))))))]) [(2, ⟨4, [[.im 3 (a0.Sign_.map c_T_api_Param), .im 2 (a0.Regs_.map c_T_api_Type), .im 5 (a0.Slots_.map c_T_api_Slot), .im 7 (a0.List_.map c_T_api_Inst)]]⟩), (3, ⟨4, [[.im 3 (a1.Sign_.map c_T_api_Param), .im 2 (a1.Regs_.map c_T_api_Type), .im 5 (a1.Slots_.map c_T_api_Slot), .im 7 (a1.List_.map c_T_api_Inst)]]⟩)] (by kernel_rfl) ?_
      refine W.condB (b := (!(y11.Type_.Kind_ == y12.Type_.Kind_ && (y11.Type_.Param_ == y12.Type_.Param_ && (y11.Keep_ == y12.Keep_ && (y11.Bits_ == y12.Bits_ && (y11.Int_ == y12.Int_ && true))))))) (by kernel_rfl) hg (fun hg => ?_) (fun hg => ?_)
      · refine W.seq ?_
        refine W.regG ?_
        refine RG.fin 1 [] (envOf [(4, Bl false)]) [] (by kernel_rfl) ?_
        obtain rfl := Option.some.inj hg
        exact W.ret ⟨rfl, Ends.of [] (by kernel_rfl)⟩
      refine W.skip ?_
      refine W.regG ?_
      refine RG.fin 3 [(2, 2), (3, 3)] (envOf [(2, .pt 2 [] 0 0), (3, .pt 3 [] 0 0), (7, I64 (IntKind.i64.wrap (s3 + (1))))]) [(2, ⟨4, [[.im 3 (a0.Sign_.map c_T_api_Param), .im 2 (a0.Regs_.map c_T_api_Type), .im 5 (a0.Slots_.map c_T_api_Slot), .im 7 (a0.List_.map c_T_api_Inst)]]⟩), (3, ⟨4, [[.im 3 (a1.Sign_.map c_T_api_Param), .im 2 (a1.Regs_.map c_T_api_Type), .im 5 (a1.Slots_.map c_T_api_Slot), .im 7 (a1.List_.map c_T_api_Inst)]]⟩)] (by kernel_rfl) ?_
      obtain rfl := Option.some.inj hg
      exact ⟨rfl, by kernel_rfl, by kernel_rfl⟩
    refine W.norm [(2, 2), (3, 3)] [2, 3, 7, 83] (envOf [(2, .pt 2 [] 0 0), (3, .pt 3 [] 0 0), (7, I64 s3), (83, Bl (decide (s3 < ((a0.Slots_.map c_T_api_Slot).length : Int))))]) [(2, ⟨4, [[.im 3 (a0.Sign_.map c_T_api_Param), .im 2 (a0.Regs_.map c_T_api_Type), .im 5 (a0.Slots_.map c_T_api_Slot), .im 7 (a0.List_.map c_T_api_Inst)]]⟩), (3, ⟨4, [[.im 3 (a1.Sign_.map c_T_api_Param), .im 2 (a1.Regs_.map c_T_api_Type), .im 5 (a1.Slots_.map c_T_api_Slot), .im 7 (a1.List_.map c_T_api_Inst)]]⟩)] (by kernel_rfl) ?_
    refine W.exit ?_
    obtain rfl := Option.some.inj hg
    exact ⟨rfl, by kernel_rfl, by kernel_rfl⟩
  refine W.seq ?_
  refine W.seq ?_
  refine W.regG ?_
  refine RG.fin 1 [(2, 2), (3, 3)] (envOf [(2, .pt 2 [] 0 0), (3, .pt 3 [] 0 0), (8, I64 (0))]) [(2, ⟨4, [[.im 3 (a0.Sign_.map c_T_api_Param), .im 2 (a0.Regs_.map c_T_api_Type), .im 5 (a0.Slots_.map c_T_api_Slot), .im 7 (a0.List_.map c_T_api_Inst)]]⟩), (3, ⟨4, [[.im 3 (a1.Sign_.map c_T_api_Param), .im 2 (a1.Regs_.map c_T_api_Type), .im 5 (a1.Slots_.map c_T_api_Slot), .im 7 (a1.List_.map c_T_api_Inst)]]⟩)] (by kernel_rfl) ?_
  refine W.norm [(2, 2), (3, 3)] [2, 3, 8] (envOf [(2, .pt 2 [] 0 0), (3, .pt 3 [] 0 0), (8, I64 (0))]) [(2, ⟨4, [[.im 3 (a0.Sign_.map c_T_api_Param), .im 2 (a0.Regs_.map c_T_api_Type), .im 5 (a0.Slots_.map c_T_api_Slot), .im 7 (a0.List_.map c_T_api_Inst)]]⟩), (3, ⟨4, [[.im 3 (a1.Sign_.map c_T_api_Param), .im 2 (a1.Regs_.map c_T_api_Type), .im 5 (a1.Slots_.map c_T_api_Slot), .im 7 (a1.List_.map c_T_api_Inst)]]⟩)] (by kernel_rfl) ?_
  refine W.loopB (fun s4 : Int => envOf [(2, .pt 2 [] 0 0), (3, .pt 3 [] 0 0), (8, I64 s4)]) (fun s4 : Int => [(2, ⟨4, [[.im 3 (a0.Sign_.map c_T_api_Param), .im 2 (a0.Regs_.map c_T_api_Type), .im 5 (a0.Slots_.map c_T_api_Slot), .im 7 (a0.List_.map c_T_api_Inst)]]⟩), (3, ⟨4, [[.im 3 (a1.Sign_.map c_T_api_Param), .im 2 (a1.Regs_.map c_T_api_Type), .im 5 (a1.Slots_.map c_T_api_Slot), .im 7 (a1.List_.map c_T_api_Inst)]]⟩)]) (fun t4 : Int × Bool => envOf [(2, .pt 2 [] 0 0), (3, .pt 3 [] 0 0), (8, I64 t4.1), (101, Bl t4.2)]) (fun t4 : Int × Bool => [(2, ⟨4, [[.im 3 (a0.Sign_.map c_T_api_Param), .im 2 (a0.Regs_.map c_T_api_Type), .im 5 (a0.Slots_.map c_T_api_Slot), .im 7 (a0.List_.map c_T_api_Inst)]]⟩), (3, ⟨4, [[.im 3 (a1.Sign_.map c_T_api_Param), .im 2 (a1.Regs_.map c_T_api_Type), .im 5 (a1.Slots_.map c_T_api_Slot), .im 7 (a1.List_.map c_T_api_Inst)]]⟩)]) (fun (r : Bool) e h => Ends [.t 4] [] (Bl r) [] .ret e h) hg (by kernel_rfl) (by kernel_rfl) (fun s4 bb hg => ?_) (fun r' hr e h q => by cases hr; exact q) (fun t4 hg => ?_)
  · unfold g23_b4 at hg
    refine W.seq ?_
    refine W.seq ?_
    refine W.regG ?_
    refine RG.fin 5 [(2, 2), (3, 3)] (envOf [(2, .pt 2 [] 0 0), (3, .pt 3 [] 0 0), (8, I64 s4), (101, Bl (decide (s4 < ((a0.List_.map c_T_api_Inst).length : Int))))]) [(2, ⟨4, [[.im 3 (a0.Sign_.map c_T_api_Param), .im 2 (a0.Regs_.map c_T_api_Type), .im 5 (a0.Slots_.map c_T_api_Slot), .im 7 (a0.List_.map c_T_api_Inst)]]⟩), (3, ⟨4, [[.im 3 (a1.Sign_.map c_T_api_Param), .im 2 (a1.Regs_.map c_T_api_Type), .im 5 (a1.Slots_.map c_T_api_Slot), .im 7 (a1.List_.map c_T_api_Inst)]]⟩)] (by kernel_rfl) ?_
    refine W.condB (b := (decide (s4 < ((a0.List_.map c_T_api_Inst).length : Int)))) (by kernel_rfl) hg (fun hg => ?_) (fun hg => ?_)
    · refine W.skip ?_
      refine W.seq ?_
      refine W.block ?_
      refine W.seq ?_
      refine W.drawG [104, 105, 106, 107, 108, 109, 110, 111, 112, 113] (by kernel_rfl) (by kernel_rfl) ?_
      refine WD.rd (av := .pt 2 [] 0 3) (by kernel_rfl) (by kernel_rfl) ?_
      refine WD.rd (av := .im 7 (a0.List_.map c_T_api_Inst)) (by kernel_rfl) (by kernel_rfl) ?_
      refine WD.rd (av := I64 s4) (by kernel_rfl) (by kernel_rfl) ?_
      refine WD.bindRd (fun _ => .ip 7 (a0.List_.map c_T_api_Inst) s4.toNat 0) (by kernel_rfl) hg (fun _ hz => rd_iadIm (k := .i64) (by kernel_rfl) (by kernel_rfl) hz) (fun y15 hy15 hg => ?_)
      refine WD.rd (av := .ag [I64 y15.Op_, I64 y15.D_, I64 y15.A_, I64 y15.B_, I64 y15.C_, I64 y15.N_, .sc (.int .u32 y15.Bits_)]) (by kernel_rfl) (rd_loadIp (s := 7) (o := 0) (c := c_T_api_Inst) (xs := a0.List_) (j := s4) hy15 (by kernel_rfl) (by kernel_rfl)) ?_
      refine WD.rd (av := .pt 3 [] 0 3) (by kernel_rfl) (by kernel_rfl) ?_
      refine WD.rd (av := .im 7 (a1.List_.map c_T_api_Inst)) (by kernel_rfl) (by kernel_rfl) ?_
      refine WD.rd (av := I64 s4) (by kernel_rfl) (by kernel_rfl) ?_
      refine WD.bindRd (fun _ => .ip 7 (a1.List_.map c_T_api_Inst) s4.toNat 0) (by kernel_rfl) hg (fun _ hz => rd_iadIm (k := .i64) (by kernel_rfl) (by kernel_rfl) hz) (fun y16 hy16 hg => ?_)
      refine WD.rd (av := .ag [I64 y16.Op_, I64 y16.D_, I64 y16.A_, I64 y16.B_, I64 y16.C_, I64 y16.N_, .sc (.int .u32 y16.Bits_)]) (by kernel_rfl) (rd_loadIp (s := 7) (o := 0) (c := c_T_api_Inst) (xs := a1.List_) (j := s4) hy16 (by kernel_rfl) (by kernel_rfl)) ?_
      refine WD.done (by kernel_rfl) (by kernel_rfl) ?_
      refine RG.fin 1 [(2, 2), (3, 3)] (envOf [(2, .pt 2 [] 0 0), (3, .pt 3 [] 0 0), (8, I64 s4), (114, Bl (!(y15.Op_ == y16.Op_ && (y15.D_ == y16.D_ && (y15.A_ == y16.A_ && (y15.B_ == y16.B_ && (y15.C_ == y16.C_ && (y15.N_ == y16.N_ && (y15.Bits_ == y16.Bits_ && true)))))))))]) [(2, ⟨4, [[.im 3 (a0.Sign_.map c_T_api_Param), .im 2 (a0.Regs_.map c_T_api_Type), .im 5 (a0.Slots_.map c_T_api_Slot), .im 7 (a0.List_.map c_T_api_Inst)]]⟩), (3, ⟨4, [[.im 3 (a1.Sign_.map c_T_api_Param), .im 2 (a1.Regs_.map c_T_api_Type), .im 5 (a1.Slots_.map c_T_api_Slot), .im 7 (a1.List_.map c_T_api_Inst)]]⟩)] (by kernel_rfl) ?_
      refine W.condB (b := (!(y15.Op_ == y16.Op_ && (y15.D_ == y16.D_ && (y15.A_ == y16.A_ && (y15.B_ == y16.B_ && (y15.C_ == y16.C_ && (y15.N_ == y16.N_ && (y15.Bits_ == y16.Bits_ && true))))))))) (by kernel_rfl) hg (fun hg => ?_) (fun hg => ?_)
      · refine W.seq ?_
        refine W.regG ?_
        refine RG.fin 1 [] (envOf [(4, Bl false)]) [] (by kernel_rfl) ?_
        obtain rfl := Option.some.inj hg
        exact W.ret ⟨rfl, Ends.of [] (by kernel_rfl)⟩
      refine W.skip ?_
      refine W.regG ?_
      refine RG.fin 3 [(2, 2), (3, 3)] (envOf [(2, .pt 2 [] 0 0), (3, .pt 3 [] 0 0), (8, I64 (IntKind.i64.wrap (s4 + (1))))]) [(2, ⟨4, [[.im 3 (a0.Sign_.map c_T_api_Param), .im 2 (a0.Regs_.map c_T_api_Type), .im 5 (a0.Slots_.map c_T_api_Slot), .im 7 (a0.List_.map c_T_api_Inst)]]⟩), (3, ⟨4, [[.im 3 (a1.Sign_.map c_T_api_Param), .im 2 (a1.Regs_.map c_T_api_Type), .im 5 (a1.Slots_.map c_T_api_Slot), .im 7 (a1.List_.map c_T_api_Inst)]]⟩)] (by kernel_rfl) ?_
      obtain rfl := Option.some.inj hg
      exact ⟨rfl, by kernel_rfl, by kernel_rfl⟩
    refine W.norm [(2, 2), (3, 3)] [2, 3, 8, 101] (envOf [(2, .pt 2 [] 0 0), (3, .pt 3 [] 0 0), (8, I64 s4), (101, Bl (decide (s4 < ((a0.List_.map c_T_api_Inst).length : Int))))]) [(2, ⟨4, [[.im 3 (a0.Sign_.map c_T_api_Param), .im 2 (a0.Regs_.map c_T_api_Type), .im 5 (a0.Slots_.map c_T_api_Slot), .im 7 (a0.List_.map c_T_api_Inst)]]⟩), (3, ⟨4, [[.im 3 (a1.Sign_.map c_T_api_Param), .im 2 (a1.Regs_.map c_T_api_Type), .im 5 (a1.Slots_.map c_T_api_Slot), .im 7 (a1.List_.map c_T_api_Inst)]]⟩)] (by kernel_rfl) ?_
    refine W.exit ?_
    obtain rfl := Option.some.inj hg
    exact ⟨rfl, by kernel_rfl, by kernel_rfl⟩
  refine W.seq ?_
  refine W.regG ?_
  refine RG.fin 1 [] (envOf [(4, Bl true)]) [] (by kernel_rfl) ?_
  obtain rfl := Option.some.inj hg
  exact W.ret (Ends.of [] (by kernel_rfl))
def g19 (a0 : T_api_Code) : Option T_api_Code := need ((a0.Sign_ : List T_api_Param).length * 32 ≤ 140737488355328) (need ((a0.Regs_ : List T_api_Type).length * 16 ≤ 140737488355328) (need ((a0.Slots_ : List T_api_Slot).length * 32 ≤ 140737488355328) (need ((a0.List_ : List T_api_Inst).length * 56 ≤ 140737488355328) (some a0))))
theorem g19_ok (a0 : T_api_Code) (r : T_api_Code) (hg : g19 a0 = some r) : CallOk Go.Proofs.Try.prog 19 [.ag [.im 3 (a0.Sign_.map c_T_api_Param), .im 2 (a0.Regs_.map c_T_api_Type), .im 5 (a0.Slots_.map c_T_api_Slot), .im 7 (a0.List_.map c_T_api_Inst)]] [] (.ag [.sl 100000 [(0, 0)] 0 ((r.Sign_.map c_T_api_Param).length), .sl 100000 [(0, 1)] 0 ((r.Regs_.map c_T_api_Type).length), .sl 100000 [(0, 2)] 0 ((r.Slots_.map c_T_api_Slot).length), .sl 100000 [(0, 3)] 0 ((r.List_.map c_T_api_Inst).length)]) [(100000, ⟨4, [[.ow 3 (r.Sign_.map c_T_api_Param), .ow 2 (r.Regs_.map c_T_api_Type), .ow 5 (r.Slots_.map c_T_api_Slot), .ow 7 (r.List_.map c_T_api_Inst)]]⟩)] := by
  unfold g19 at hg
  refine CallG.narrow ?_ (by kernel_rfl) (by simp [noImH, noImE, noImC, noIm, noImE_map, c_T_api_Inst, c_T_api_Param, c_T_api_Slot, c_T_api_Type, c_u8])
  refine .of_S [0] (envOf [(0, .ag [.im 3 (a0.Sign_.map c_T_api_Param), .im 2 (a0.Regs_.map c_T_api_Type), .im 5 (a0.Slots_.map c_T_api_Slot), .im 7 (a0.List_.map c_T_api_Inst)])]) fn19 (by kernel_rfl) ?_
  refine W.seq ?_
  refine W.regG ?_
  refine RG.fin 2 [(1, 1), (2, 2)] (envOf [(1, .pt 1 [] 0 0), (2, .pt 2 [] 0 0)]) [(1, ⟨4, [[.im 3 (a0.Sign_.map c_T_api_Param), .im 2 (a0.Regs_.map c_T_api_Type), .im 5 (a0.Slots_.map c_T_api_Slot), .im 7 (a0.List_.map c_T_api_Inst)]]⟩), (2, ⟨4, [[.zs, .zs, .zs, .zs]]⟩)] (by kernel_rfl) ?_
  refine W.seq ?_
  refine W.regG ?_
  refine RG.fin 3 [(1, 1), (2, 2), (3, 3)] (envOf [(1, .pt 1 [] 0 0), (2, .pt 2 [] 0 0), (3, .pt 3 [] 0 0)]) [(1, ⟨4, [[.im 3 (a0.Sign_.map c_T_api_Param), .im 2 (a0.Regs_.map c_T_api_Type), .im 5 (a0.Slots_.map c_T_api_Slot), .im 7 (a0.List_.map c_T_api_Inst)]]⟩), (2, ⟨4, [[.zs, .zs, .zs, .zs]]⟩), (3, ⟨4, [[.zs, .zs, .zs, .zs]]⟩)] (by kernel_rfl) ?_
  refine W.seq ?_
  refine W.regG ?_
  refine RG.cut 4 [(1, 1), (2, 2), (3, 3)] [1, 2, 3, 6, 8] (envOf [(1, .pt 1 [] 0 0), (2, .pt 2 [] 0 0), (3, .pt 3 [] 0 0), (6, .zs), (8, .im 3 (a0.Sign_.map c_T_api_Param))]) [(1, ⟨4, [[.im 3 (a0.Sign_.map c_T_api_Param), .im 2 (a0.Regs_.map c_T_api_Type), .im 5 (a0.Slots_.map c_T_api_Slot), .im 7 (a0.List_.map c_T_api_Inst)]]⟩), (2, ⟨4, [[.zs, .zs, .zs, .zs]]⟩), (3, ⟨4, [[.zs, .zs, .zs, .zs]]⟩)] (by kernel_rfl) ?_
  refine RG.appNil (o := c_T_api_Param) (ws := a0.Sign_) (mv := none) (by kernel_rfl) (by kernel_rfl) (by kernel_rfl) (by kernel_rfl) hg (fun hg => ?_)
  refine RG.cut 1 [(1, 1), (2, 2), (3, 3), (9, 9)] [1, 2, 3, 9, 10] (envOf [(1, .pt 1 [] 0 0), (2, .pt 2 [] 0 0), (3, .pt 3 [] 0 0), (9, .sl 9 [] 0 ((a0.Sign_.map c_T_api_Param).length)), (10, .pt 3 [] 0 0)]) [(1, ⟨4, [[.im 3 (a0.Sign_.map c_T_api_Param), .im 2 (a0.Regs_.map c_T_api_Type), .im 5 (a0.Slots_.map c_T_api_Slot), .im 7 (a0.List_.map c_T_api_Inst)]]⟩), (2, ⟨4, [[.zs, .zs, .zs, .zs]]⟩), (3, ⟨4, [[.zs, .zs, .zs, .zs]]⟩), (9, ⟨3, (a0.Sign_.map c_T_api_Param)⟩)] (by kernel_rfl) ?_
  refine RG.st (k := 3) (p := []) (i := 0) (c := 0) (r0 := ⟨4, [[.zs, .zs, .zs, .zs]]⟩) (s := 4) (ys := [[.zs, .zs, .zs, .zs]]) (x0 := [.zs, .zs, .zs, .zs]) (vs := [.sl 9 [] 0 ((a0.Sign_.map c_T_api_Param).length)]) (by kernel_rfl) (by kernel_rfl) (by kernel_rfl) (by kernel_rfl) (by kernel_rfl) (by kernel_rfl) (by kernel_rfl) (by kernel_rfl) (Abs.row (k := 9) (s := 3) (xs := (a0.Sign_.map c_T_api_Param)) (by kernel_rfl) (Abs.nil)) ?_
  refine RG.fin 0 [(1, 1), (2, 2), (3, 3)] (envOf [(1, .pt 1 [] 0 0), (2, .pt 2 [] 0 0), (3, .pt 3 [] 0 0)]) [(1, ⟨4, [[.im 3 (a0.Sign_.map c_T_api_Param), .im 2 (a0.Regs_.map c_T_api_Type), .im 5 (a0.Slots_.map c_T_api_Slot), .im 7 (a0.List_.map c_T_api_Inst)]]⟩), (2, ⟨4, [[.zs, .zs, .zs, .zs]]⟩), (3, ⟨4, [[.ow 3 (a0.Sign_.map c_T_api_Param), .zs, .zs, .zs]]⟩)] (by kernel_rfl) ?_
  refine W.seq ?_
  refine W.regG ?_
  refine RG.cut 4 [(1, 1), (2, 2), (3, 3)] [1, 2, 3, 12, 14] (envOf [(1, .pt 1 [] 0 0), (2, .pt 2 [] 0 0), (3, .pt 3 [] 0 0), (12, .zs), (14, .im 2 (a0.Regs_.map c_T_api_Type))]) [(1, ⟨4, [[.im 3 (a0.Sign_.map c_T_api_Param), .im 2 (a0.Regs_.map c_T_api_Type), .im 5 (a0.Slots_.map c_T_api_Slot), .im 7 (a0.List_.map c_T_api_Inst)]]⟩), (2, ⟨4, [[.zs, .zs, .zs, .zs]]⟩), (3, ⟨4, [[.ow 3 (a0.Sign_.map c_T_api_Param), .zs, .zs, .zs]]⟩)] (by kernel_rfl) ?_
  refine RG.appNil (o := c_T_api_Type) (ws := a0.Regs_) (mv := none) (by kernel_rfl) (by kernel_rfl) (by kernel_rfl) (by kernel_rfl) hg (fun hg => ?_)
  refine RG.cut 1 [(1, 1), (2, 2), (3, 3), (15, 15)] [1, 2, 3, 15, 16] (envOf [(1, .pt 1 [] 0 0), (2, .pt 2 [] 0 0), (3, .pt 3 [] 0 0), (15, .sl 15 [] 0 ((a0.Regs_.map c_T_api_Type).length)), (16, .pt 3 [] 0 1)]) [(1, ⟨4, [[.im 3 (a0.Sign_.map c_T_api_Param), .im 2 (a0.Regs_.map c_T_api_Type), .im 5 (a0.Slots_.map c_T_api_Slot), .im 7 (a0.List_.map c_T_api_Inst)]]⟩), (2, ⟨4, [[.zs, .zs, .zs, .zs]]⟩), (3, ⟨4, [[.ow 3 (a0.Sign_.map c_T_api_Param), .zs, .zs, .zs]]⟩), (15, ⟨2, (a0.Regs_.map c_T_api_Type)⟩)] (by kernel_rfl) ?_
  refine RG.st (k := 3) (p := []) (i := 0) (c := 1) (r0 := ⟨4, [[.ow 3 (a0.Sign_.map c_T_api_Param), .zs, .zs, .zs]]⟩) (s := 4) (ys := [[.ow 3 (a0.Sign_.map c_T_api_Param), .zs, .zs, .zs]]) (x0 := [.ow 3 (a0.Sign_.map c_T_api_Param), .zs, .zs, .zs]) (vs := [.sl 15 [] 0 ((a0.Regs_.map c_T_api_Type).length)]) (by kernel_rfl) (by kernel_rfl) (by kernel_rfl) (by kernel_rfl) (by kernel_rfl) (by kernel_rfl) (by kernel_rfl) (by kernel_rfl) (Abs.row (k := 15) (s := 2) (xs := (a0.Regs_.map c_T_api_Type)) (by kernel_rfl) (Abs.nil)) ?_
  refine RG.fin 0 [(1, 1), (2, 2), (3, 3)] (envOf [(1, .pt 1 [] 0 0), (2, .pt 2 [] 0 0), (3, .pt 3 [] 0 0)]) [(1, ⟨4, [[.im 3 (a0.Sign_.map c_T_api_Param), .im 2 (a0.Regs_.map c_T_api_Type), .im 5 (a0.Slots_.map c_T_api_Slot), .im 7 (a0.List_.map c_T_api_Inst)]]⟩), (2, ⟨4, [[.zs, .zs, .zs, .zs]]⟩), (3, ⟨4, [[.ow 3 (a0.Sign_.map c_T_api_Param), .ow 2 (a0.Regs_.map c_T_api_Type), .zs, .zs]]⟩)] (by kernel_rfl) ?_
  refine W.seq ?_
  refine W.regG ?_
  refine RG.cut 4 [(1, 1), (2, 2), (3, 3)] [1, 2, 3, 18, 20] (envOf [(1, .pt 1 [] 0 0), (2, .pt 2 [] 0 0), (3, .pt 3 [] 0 0), (18, .zs), (20, .im 5 (a0.Slots_.map c_T_api_Slot))]) [(1, ⟨4, [[.im 3 (a0.Sign_.map c_T_api_Param), .im 2 (a0.Regs_.map c_T_api_Type), .im 5 (a0.Slots_.map c_T_api_Slot), .im 7 (a0.List_.map c_T_api_Inst)]]⟩), (2, ⟨4, [[.zs, .zs, .zs, .zs]]⟩), (3, ⟨4, [[.ow 3 (a0.Sign_.map c_T_api_Param), .ow 2 (a0.Regs_.map c_T_api_Type), .zs, .zs]]⟩)] (by kernel_rfl) ?_
  refine RG.appNil (o := c_T_api_Slot) (ws := a0.Slots_) (mv := none) (by kernel_rfl) (by kernel_rfl) (by kernel_rfl) (by kernel_rfl) hg (fun hg => ?_)
  refine RG.cut 1 [(1, 1), (2, 2), (3, 3), (21, 21)] [1, 2, 3, 21, 22] (envOf [(1, .pt 1 [] 0 0), (2, .pt 2 [] 0 0), (3, .pt 3 [] 0 0), (21, .sl 21 [] 0 ((a0.Slots_.map c_T_api_Slot).length)), (22, .pt 3 [] 0 2)]) [(1, ⟨4, [[.im 3 (a0.Sign_.map c_T_api_Param), .im 2 (a0.Regs_.map c_T_api_Type), .im 5 (a0.Slots_.map c_T_api_Slot), .im 7 (a0.List_.map c_T_api_Inst)]]⟩), (2, ⟨4, [[.zs, .zs, .zs, .zs]]⟩), (3, ⟨4, [[.ow 3 (a0.Sign_.map c_T_api_Param), .ow 2 (a0.Regs_.map c_T_api_Type), .zs, .zs]]⟩), (21, ⟨5, (a0.Slots_.map c_T_api_Slot)⟩)] (by kernel_rfl) ?_
  refine RG.st (k := 3) (p := []) (i := 0) (c := 2) (r0 := ⟨4, [[.ow 3 (a0.Sign_.map c_T_api_Param), .ow 2 (a0.Regs_.map c_T_api_Type), .zs, .zs]]⟩) (s := 4) (ys := [[.ow 3 (a0.Sign_.map c_T_api_Param), .ow 2 (a0.Regs_.map c_T_api_Type), .zs, .zs]]) (x0 := [.ow 3 (a0.Sign_.map c_T_api_Param), .ow 2 (a0.Regs_.map c_T_api_Type), .zs, .zs]) (vs := [.sl 21 [] 0 ((a0.Slots_.map c_T_api_Slot).length)]) (by kernel_rfl) (by kernel_rfl) (by kernel_rfl) (by kernel_rfl) (by kernel_rfl) (by kernel_rfl) (by kernel_rfl) (by kernel_rfl) (Abs.row (k := 21) (s := 5) (xs := (a0.Slots_.map c_T_api_Slot)) (by kernel_rfl) (Abs.nil)) ?_
  refine RG.fin 0 [(1, 1), (2, 2), (3, 3)] (envOf [(1, .pt 1 [] 0 0), (2, .pt 2 [] 0 0), (3, .pt 3 [] 0 0)]) [(1, ⟨4, [[.im 3 (a0.Sign_.map c_T_api_Param), .im 2 (a0.Regs_.map c_T_api_Type), .im 5 (a0.Slots_.map c_T_api_Slot), .im 7 (a0.List_.map c_T_api_Inst)]]⟩), (2, ⟨4, [[.zs, .zs, .zs, .zs]]⟩), (3, ⟨4, [[.ow 3 (a0.Sign_.map c_T_api_Param), .ow 2 (a0.Regs_.map c_T_api_Type), .ow 5 (a0.Slots_.map c_T_api_Slot), .zs]]⟩)] (by kernel_rfl) ?_
  refine W.seq ?_
  refine W.regG ?_
  refine RG.cut 4 [(2, 2), (3, 3)] [2, 3, 24, 26] (envOf [(2, .pt 2 [] 0 0), (3, .pt 3 [] 0 0), (24, .zs), (26, .im 7 (a0.List_.map c_T_api_Inst))]) [(2, ⟨4, [[.zs, .zs, .zs, .zs]]⟩), (3, ⟨4, [[.ow 3 (a0.Sign_.map c_T_api_Param), .ow 2 (a0.Regs_.map c_T_api_Type), .ow 5 (a0.Slots_.map c_T_api_Slot), .zs]]⟩)] (by kernel_rfl) ?_
  refine RG.appNil (o := c_T_api_Inst) (ws := a0.List_) (mv := none) (by kernel_rfl) (by kernel_rfl) (by kernel_rfl) (by kernel_rfl) hg (fun hg => ?_)
  refine RG.cut 1 [(2, 2), (3, 3), (27, 27)] [2, 3, 27, 28] (envOf [(2, .pt 2 [] 0 0), (3, .pt 3 [] 0 0), (27, .sl 27 [] 0 ((a0.List_.map c_T_api_Inst).length)), (28, .pt 3 [] 0 3)]) [(2, ⟨4, [[.zs, .zs, .zs, .zs]]⟩), (3, ⟨4, [[.ow 3 (a0.Sign_.map c_T_api_Param), .ow 2 (a0.Regs_.map c_T_api_Type), .ow 5 (a0.Slots_.map c_T_api_Slot), .zs]]⟩), (27, ⟨7, (a0.List_.map c_T_api_Inst)⟩)] (by kernel_rfl) ?_
  refine RG.st (k := 3) (p := []) (i := 0) (c := 3) (r0 := ⟨4, [[.ow 3 (a0.Sign_.map c_T_api_Param), .ow 2 (a0.Regs_.map c_T_api_Type), .ow 5 (a0.Slots_.map c_T_api_Slot), .zs]]⟩) (s := 4) (ys := [[.ow 3 (a0.Sign_.map c_T_api_Param), .ow 2 (a0.Regs_.map c_T_api_Type), .ow 5 (a0.Slots_.map c_T_api_Slot), .zs]]) (x0 := [.ow 3 (a0.Sign_.map c_T_api_Param), .ow 2 (a0.Regs_.map c_T_api_Type), .ow 5 (a0.Slots_.map c_T_api_Slot), .zs]) (vs := [.sl 27 [] 0 ((a0.List_.map c_T_api_Inst).length)]) (by kernel_rfl) (by kernel_rfl) (by kernel_rfl) (by kernel_rfl) (by kernel_rfl) (by kernel_rfl) (by kernel_rfl) (by kernel_rfl) (Abs.row (k := 27) (s := 7) (xs := (a0.List_.map c_T_api_Inst)) (by kernel_rfl) (Abs.nil)) ?_
  refine RG.fin 0 [(2, 2), (3, 3)] (envOf [(2, .pt 2 [] 0 0), (3, .pt 3 [] 0 0)]) [(2, ⟨4, [[.zs, .zs, .zs, .zs]]⟩), (3, ⟨4, [[.ow 3 (a0.Sign_.map c_T_api_Param), .ow 2 (a0.Regs_.map c_T_api_Type), .ow 5 (a0.Slots_.map c_T_api_Slot), .ow 7 (a0.List_.map c_T_api_Inst)]]⟩)] (by kernel_rfl) ?_
  refine W.seq ?_
  refine W.regG ?_
  refine RG.cut 1 [(2, 2), (3, 3)] [2, 29] (envOf [(2, .pt 2 [] 0 0), (29, .ag [.sl 3 [(0, 0)] 0 ((a0.Sign_.map c_T_api_Param).length), .sl 3 [(0, 1)] 0 ((a0.Regs_.map c_T_api_Type).length), .sl 3 [(0, 2)] 0 ((a0.Slots_.map c_T_api_Slot).length), .sl 3 [(0, 3)] 0 ((a0.List_.map c_T_api_Inst).length)])]) [(2, ⟨4, [[.zs, .zs, .zs, .zs]]⟩), (3, ⟨4, [[.ow 3 (a0.Sign_.map c_T_api_Param), .ow 2 (a0.Regs_.map c_T_api_Type), .ow 5 (a0.Slots_.map c_T_api_Slot), .ow 7 (a0.List_.map c_T_api_Inst)]]⟩)] (by kernel_rfl) ?_
  refine RG.ghost (Ghost.detach (k := 3) (i := 0) (c := 0) (s := 3) 400000 (r := ⟨4, [[.ow 3 (a0.Sign_.map c_T_api_Param), .ow 2 (a0.Regs_.map c_T_api_Type), .ow 5 (a0.Slots_.map c_T_api_Slot), .ow 7 (a0.List_.map c_T_api_Inst)]]⟩) (x := [.ow 3 (a0.Sign_.map c_T_api_Param), .ow 2 (a0.Regs_.map c_T_api_Type), .ow 5 (a0.Slots_.map c_T_api_Slot), .ow 7 (a0.List_.map c_T_api_Inst)]) (xs := (a0.Sign_.map c_T_api_Param)) (by kernel_rfl) (by kernel_rfl) (by kernel_rfl) (by kernel_rfl) (by kernel_rfl)) ?_
  refine RG.ghost (Ghost.detach (k := 3) (i := 0) (c := 1) (s := 2) 400001 (r := ⟨4, [[.un, .ow 2 (a0.Regs_.map c_T_api_Type), .ow 5 (a0.Slots_.map c_T_api_Slot), .ow 7 (a0.List_.map c_T_api_Inst)]]⟩) (x := [.un, .ow 2 (a0.Regs_.map c_T_api_Type), .ow 5 (a0.Slots_.map c_T_api_Slot), .ow 7 (a0.List_.map c_T_api_Inst)]) (xs := (a0.Regs_.map c_T_api_Type)) (by kernel_rfl) (by kernel_rfl) (by kernel_rfl) (by kernel_rfl) (by kernel_rfl)) ?_
  refine RG.ghost (Ghost.detach (k := 3) (i := 0) (c := 2) (s := 5) 400002 (r := ⟨4, [[.un, .un, .ow 5 (a0.Slots_.map c_T_api_Slot), .ow 7 (a0.List_.map c_T_api_Inst)]]⟩) (x := [.un, .un, .ow 5 (a0.Slots_.map c_T_api_Slot), .ow 7 (a0.List_.map c_T_api_Inst)]) (xs := (a0.Slots_.map c_T_api_Slot)) (by kernel_rfl) (by kernel_rfl) (by kernel_rfl) (by kernel_rfl) (by kernel_rfl)) ?_
  refine RG.ghost (Ghost.detach (k := 3) (i := 0) (c := 3) (s := 7) 400003 (r := ⟨4, [[.un, .un, .un, .ow 7 (a0.List_.map c_T_api_Inst)]]⟩) (x := [.un, .un, .un, .ow 7 (a0.List_.map c_T_api_Inst)]) (xs := (a0.List_.map c_T_api_Inst)) (by kernel_rfl) (by kernel_rfl) (by kernel_rfl) (by kernel_rfl) (by kernel_rfl)) ?_
  refine RG.st (k := 2) (p := []) (i := 0) (c := 0) (r0 := ⟨4, [[.zs, .zs, .zs, .zs]]⟩) (s := 4) (ys := [[.zs, .zs, .zs, .zs]]) (x0 := [.zs, .zs, .zs, .zs]) (vs := [.sl 400000 [] 0 ((a0.Sign_.map c_T_api_Param).length), .sl 400001 [] 0 ((a0.Regs_.map c_T_api_Type).length), .sl 400002 [] 0 ((a0.Slots_.map c_T_api_Slot).length), .sl 400003 [] 0 ((a0.List_.map c_T_api_Inst).length)]) (by kernel_rfl) (by kernel_rfl) (by kernel_rfl) (by kernel_rfl) (by kernel_rfl) (by kernel_rfl) (by kernel_rfl) (by kernel_rfl) (Abs.row (k := 400000) (s := 3) (xs := (a0.Sign_.map c_T_api_Param)) (by kernel_rfl) (Abs.row (k := 400001) (s := 2) (xs := (a0.Regs_.map c_T_api_Type)) (by kernel_rfl) (Abs.row (k := 400002) (s := 5) (xs := (a0.Slots_.map c_T_api_Slot)) (by kernel_rfl) (Abs.row (k := 400003) (s := 7) (xs := (a0.List_.map c_T_api_Inst)) (by kernel_rfl) (Abs.nil))))) ?_
  refine RG.fin 0 [(2, 2)] (envOf [(2, .pt 2 [] 0 0)]) [(2, ⟨4, [[.ow 3 (a0.Sign_.map c_T_api_Param), .ow 2 (a0.Regs_.map c_T_api_Type), .ow 5 (a0.Slots_.map c_T_api_Slot), .ow 7 (a0.List_.map c_T_api_Inst)]]⟩)] (by kernel_rfl) ?_
  obtain rfl := Option.some.inj hg
  exact W.ret (Ends.of [(100000, 2)] (by kernel_rfl))
def g20 (a0 : (List T_api_Inst)) : Option T_api_Code := need ((a0 : List T_api_Inst).length * 56 ≤ 140737488355328) (some (⟨([(⟨⟨#[119]⟩, (1), (3)⟩ : T_api_Param)] : List T_api_Param), ([(⟨(1), (0)⟩ : T_api_Type), (⟨(3), (0)⟩ : T_api_Type), (⟨(2), (0)⟩ : T_api_Type)] : List T_api_Type), [], a0⟩ : T_api_Code))
theorem g20_ok (a0 : (List T_api_Inst)) (r : T_api_Code) (hg : g20 a0 = some r) : CallOk Go.Proofs.Try.prog 20 [.im 7 (a0.map c_T_api_Inst)] [] (.ag [.sl 100000 [(0, 0)] 0 ((r.Sign_.map c_T_api_Param).length), .sl 100000 [(0, 1)] 0 ((r.Regs_.map c_T_api_Type).length), .zs, .sl 100000 [(0, 3)] 0 ((r.List_.map c_T_api_Inst).length)]) [(100000, ⟨4, [[.ow 3 (r.Sign_.map c_T_api_Param), .ow 2 (r.Regs_.map c_T_api_Type), .zs, .ow 7 (r.List_.map c_T_api_Inst)]]⟩)] := by
  unfold g20 at hg
  refine CallG.narrow ?_ (by kernel_rfl) (by simp [noImH, noImE, noImC, noIm, noImE_map, c_T_api_Inst, c_T_api_Param, c_T_api_Slot, c_T_api_Type, c_u8])
  refine .of_S [0] (envOf [(0, .im 7 (a0.map c_T_api_Inst))]) fn20 (by kernel_rfl) ?_
  refine W.seq ?_
  refine W.regG ?_
  refine RG.fin 1 [(2, 2)] (envOf [(0, .im 7 (a0.map c_T_api_Inst)), (2, .pt 2 [] 0 0)]) [(2, ⟨4, [[.zs, .zs, .zs, .zs]]⟩)] (by kernel_rfl) ?_
  refine W.seq ?_
  refine W.regG ?_
  refine RG.fin 1 [(2, 2)] (envOf [(0, .im 7 (a0.map c_T_api_Inst)), (2, .pt 2 [] 0 0), (3, .zs)]) [(2, ⟨4, [[.zs, .zs, .zs, .zs]]⟩)] (by kernel_rfl) ?_
  refine W.seq ?_
  refine W.regG ?_
  refine RG.cut 2 [(2, 2)] [2, 4, 5] (envOf [(2, .pt 2 [] 0 0), (4, .zs), (5, .im 7 (a0.map c_T_api_Inst))]) [(2, ⟨4, [[.zs, .zs, .zs, .zs]]⟩)] (by kernel_rfl) ?_
  refine RG.appNil (o := c_T_api_Inst) (ws := a0) (mv := none) (by kernel_rfl) (by kernel_rfl) (by kernel_rfl) (by kernel_rfl) hg (fun hg => ?_)
  refine RG.fin 1 [(2, 2), (6, 6)] (envOf [(2, .pt 2 [] 0 0), (3, .sl 6 [] 0 ((a0.map c_T_api_Inst).length))]) [(2, ⟨4, [[.zs, .zs, .zs, .zs]]⟩), (6, ⟨7, (a0.map c_T_api_Inst)⟩)] (by kernel_rfl) ?_
  refine W.seq ?_
  refine W.regG ?_
  refine RG.cut 8 [(2, 2), (6, 6), (8, 8), (12, 12)] [2, 14] (envOf [(2, .pt 2 [] 0 0), (14, .ag [.sl 8 [] 0 ((([(⟨⟨#[119]⟩, (1), (3)⟩ : T_api_Param)] : List T_api_Param).map c_T_api_Param).length), .sl 12 [] 0 ((([(⟨(1), (0)⟩ : T_api_Type), (⟨(3), (0)⟩ : T_api_Type), (⟨(2), (0)⟩ : T_api_Type)] : List T_api_Type).map c_T_api_Type).length), .zs, .sl 6 [] 0 ((a0.map c_T_api_Inst).length)])]) [(2, ⟨4, [[.zs, .zs, .zs, .zs]]⟩), (6, ⟨7, (a0.map c_T_api_Inst)⟩), (8, ⟨3, (([(⟨⟨#[119]⟩, (1), (3)⟩ : T_api_Param)] : List T_api_Param).map c_T_api_Param)⟩), (12, ⟨2, (([(⟨(1), (0)⟩ : T_api_Type), (⟨(3), (0)⟩ : T_api_Type), (⟨(2), (0)⟩ : T_api_Type)] : List T_api_Type).map c_T_api_Type)⟩)] (by kernel_rfl) ?_
  refine RG.st (k := 2) (p := []) (i := 0) (c := 0) (r0 := ⟨4, [[.zs, .zs, .zs, .zs]]⟩) (s := 4) (ys := [[.zs, .zs, .zs, .zs]]) (x0 := [.zs, .zs, .zs, .zs]) (vs := [.sl 8 [] 0 ((([(⟨⟨#[119]⟩, (1), (3)⟩ : T_api_Param)] : List T_api_Param).map c_T_api_Param).length), .sl 12 [] 0 ((([(⟨(1), (0)⟩ : T_api_Type), (⟨(3), (0)⟩ : T_api_Type), (⟨(2), (0)⟩ : T_api_Type)] : List T_api_Type).map c_T_api_Type).length), .zs, .sl 6 [] 0 ((a0.map c_T_api_Inst).length)]) (by kernel_rfl) (by kernel_rfl) (by kernel_rfl) (by kernel_rfl) (by kernel_rfl) (by kernel_rfl) (by kernel_rfl) (by kernel_rfl) (Abs.row (k := 8) (s := 3) (xs := (([(⟨⟨#[119]⟩, (1), (3)⟩ : T_api_Param)] : List T_api_Param).map c_T_api_Param)) (by kernel_rfl) (Abs.row (k := 12) (s := 2) (xs := (([(⟨(1), (0)⟩ : T_api_Type), (⟨(3), (0)⟩ : T_api_Type), (⟨(2), (0)⟩ : T_api_Type)] : List T_api_Type).map c_T_api_Type)) (by kernel_rfl) (Abs.zs (Abs.row (k := 6) (s := 7) (xs := (a0.map c_T_api_Inst)) (by kernel_rfl) (Abs.nil))))) ?_
  refine RG.fin 0 [(2, 2)] (envOf [(2, .pt 2 [] 0 0)]) [(2, ⟨4, [[.ow 3 (([(⟨⟨#[119]⟩, (1), (3)⟩ : T_api_Param)] : List T_api_Param).map c_T_api_Param), .ow 2 (([(⟨(1), (0)⟩ : T_api_Type), (⟨(3), (0)⟩ : T_api_Type), (⟨(2), (0)⟩ : T_api_Type)] : List T_api_Type).map c_T_api_Type), .zs, .ow 7 (a0.map c_T_api_Inst)]]⟩)] (by kernel_rfl) ?_
  obtain rfl := Option.some.inj hg
  exact W.ret (Ends.of [(100000, 2)] (by kernel_rfl))
/-- sign.Check over the parameters: none: one may not be; else the names, each once. -/
def g28_l (n : Nat) : List T_api_Param → List ByteArray → Option (Option (List ByteArray))
  | [], ks => some (some ks)
  | p :: l, ks => (g48 n p).bind fun v => bif v then g28_l n l (bif has p.Name_ ks then ks else ks ++ [p.Name_]) else some none
def g28_r (n : Nat) (a0 : List T_api_Param) : Option (List ByteArray) → Option Int
  | none => some 100
  | some ks => bif decide ((ks.length : Int) < ((a0.map c_T_api_Param).length : Int)) then some 101 else (g49 n a0).bind fun v => bif decide (v > 65536) then some 102 else some 0
def g28 (n : Nat) (a0 : List T_api_Param) : Option Int := bif decide (((a0.map c_T_api_Param).length : Int) > 64) then some 2 else (g28_l n a0 []).bind (g28_r n a0)

namespace F28
noncomputable abbrev P : Program := Go.Proofs.Try.prog
noncomputable def b : Code := (Go.Proofs.Try.f28.body).getD .skip
theorem body : Go.Proofs.Try.f28.body = some b := by kernel_rfl
theorem e1 : b = .seq (lf b) (.seq (lf (rt b)) (.seq (.region (rid (lf (rt (rt b)))) (rops (lf (rt (rt b)))) false) (.seq (lf (rt (rt (rt b)))) (rt (rt (rt (rt b))))))) := by kernel_rfl
noncomputable abbrev R3 : Array Oper := rops (lf (rt (rt b)))
noncomputable def z : Code := lf (rt (rt (rt b)))
noncomputable def q : Code := rt (rt (rt (rt b)))
noncomputable def l : Code := lf (lf (rt z))
theorem e2 : z = .seq (lf z) (.block 0 (.loop l)) := by kernel_rfl
theorem e3 : l = .seq (lf l) (.seq (.cond (.tmp 13) .skip (.exit 0)) (.seq (.block 1 (.seq (lf (lf (lf (rt (rt l))))) (.seq (lf (rt (lf (lf (rt (rt l)))))) (.region (rid (rt (rt (lf (lf (rt (rt l))))))) (rops (rt (rt (lf (lf (rt (rt l))))))) false)))) (rt (rt (rt l))))) := by kernel_rfl
noncomputable abbrev R9 : Array Oper := rops (rt (rt (lf (lf (rt (rt l))))))
theorem e4 : q = .seq (.block 2 (.seq (.region (rid (lf (lf (lf q)))) (rops (lf (lf (lf q)))) false) (rt (lf (lf q))))) (rt q) := by kernel_rfl
noncomputable abbrev R11 : Array Oper := rops (lf (lf (lf q)))
end F28
namespace F28
abbrev xs (a0 : List T_api_Param) : Els := a0.map c_T_api_Param
abbrev mp (b : Nat) : AV := .sc (.map (some b))
/-- The slots at the loop's head. -/
abbrev EL (a0 : List T_api_Param) (b : Nat) (i : Int) : Env := envOf [(0, .im 3 (xs a0)), (3, mp b), (10, .im 3 (xs a0)), (11, I64 ((xs a0).length : Int)), (12, I64 i)]
abbrev EL' (a0 : List T_api_Param) (b : Nat) (i : Int) : Env := envOf [(0, .im 3 (xs a0)), (3, mp b), (10, .im 3 (xs a0)), (11, I64 ((xs a0).length : Int)), (12, I64 i), (13, Bl (decide (i < ((xs a0).length : Int))))]
theorem ut : P.underlying 89 = some (.map 9 3) := by kernel_rfl
theorem uk : P.underlying 9 = some .string := by kernel_rfl
theorem uz (w : World) : (zeroValue 3).run P w = .ok (.int .i64 0) w := by kernel_rfl

theorem body9 {w0 w : World} {a : Act} {a0 : List T_api_Param} {bm : Nat} {ks : List ByteArray} {i : Int} {p : T_api_Param} {Q : Exit → Act → World → Prop}
    (n : Now 35 w0 (some (bm, ks)) (envOf [(0, .im 3 (xs a0)), (3, mp bm), (5, .pt 5 [] 0 0), (10, .im 3 (xs a0)), (11, I64 ((xs a0).length : Int)), (12, I64 i), (18, Bl false)]) [(5, ⟨3, [[St p.Name_, I64 p.Kind_, I64 p.Len_]]⟩)] a w)
    (hK : ∀ a' w', Now 35 w0 (some (bm, bif has p.Name_ ks then ks else ks ++ [p.Name_])) (EL a0 bm i) [] a' w' → Q .normal a' w') :
    (Code.region (rid (rt (rt (lf (lf (rt (rt l))))))) R9 false).wp P Q a w := by
  refine wp_region ?_
  have hr : List.range R9.size = [0, 1, 2, 3, 4, 5] := by kernel_rfl
  rw [hr]
  refine n.rda (d := 19) (b := .mov (.tmp 3)) (mp bm) (by kernel_rfl) (by kernel_rfl) fun a w n => ?_
  refine n.rda (d := 20) (b := .fad 0 (.tmp 5)) (.pt 5 [] 0 0) (by kernel_rfl) (by kernel_rfl) fun a w n => ?_
  refine n.rda (d := 21) (b := .load false 1 (.tmp 20)) (St p.Name_) (by kernel_rfl) (by kernel_rfl) fun a w n => ?_
  obtain ⟨o, ho, hg, hd, hop⟩ := op_is (ops := R9) (i := 3) (g := none) (d := some 22) (op := .lookup 89 (.tmp 19) (.tmp 21) false) (by kernel_rfl)
  obtain ⟨c, hc⟩ := (n.km bm ks rfl).1.lookup (P := P) ut uk (uz w) p.Name_
  have hm : a.eval (.tmp 19) = .map (some bm) := n.eval rfl
  have hk : a.eval (.tmp 21) = .string p.Name_ := n.eval rfl
  refine n.val (v := .int .i64 c) ho hg hd (by decide) (by simp only [execOp, hop, hm, hk, Sem.run_bind, hc, Result.andThen]; rfl) fun a n => ?_
  refine n.rda (d := 23) (b := .bin .add (.tmp 22) (.const (.int .i64 1))) (I64 (IntKind.i64.wrap (c + 1))) (by kernel_rfl) (by kernel_rfl) fun a w n => ?_
  obtain ⟨o, ho, hg, hd, hop⟩ := op_is (ops := R9) (i := 5) (g := none) (d := none) (op := .mapUpdate 89 (.tmp 19) (.tmp 21) (.tmp 23)) (by kernel_rfl)
  refine n.upd ho hg hd hop ut uk rfl rfl rfl fun a w n => ?_
  exact hK _ _ (n.gh (Ghost.norm (P := P) (bm := []) (S := [0, 3, 10, 11, 12]) (by kernel_rfl)))

theorem loop {n : Nat} {w0 : World} {a0 : List T_api_Param} {bm : Nat} {r : Int} {Q : Exit → Act → World → Prop} (he : ∀ ks a w, g28_r n a0 (some ks) = some r → Now 35 w0 (some (bm, ks)) (EL' a0 bm a0.length) [] a w → Q (.exit 0) a w)
    (hr : ∀ m e' h' a' w', resAV e' h' [.t 2] = some (I64 r) → Now 35 w0 m e' h' a' w' → Q .ret a' w') : ∀ (rest pre : List T_api_Param) (ks : List ByteArray) (a : Act) (w : World), a0 = pre ++ rest → a0.length ≤ 64 → (g28_l n rest ks).bind (g28_r n a0) = some r →
    Now 35 w0 (some (bm, ks)) (EL a0 bm pre.length) [] a w → LoopAt P F28.l Q a w := by
  intro rest
  induction rest with
  | nil =>
    intro pre ks a w hp hlen hg nw
    refine LoopAt.step (Eq.mpr (congrArg (fun X : Code => X.wp P (Exit.then (LoopAt P F28.l Q) Q) a w) e3) ?_)
    focus
      refine wp_seq (nw.ex (c := .reg [0, 3, 10, 11, 12, 13] [⟨13, none, .rd (.bin .lss (.tmp 12) (.tmp 11))⟩]) (R := fun o e h => o = .normal ∧ e = EL' a0 bm pre.length ∧ h = []) ⟨[[0, 3, 10, 11, 12, 13]], [], by kernel_rfl⟩ (W.regG (RG.fin 1 [] _ [] (by kernel_rfl) ⟨rfl, rfl, rfl⟩)) ?_)
      rintro o e h a w ⟨rfl, rfl, rfl⟩ nw
      refine wp_seq (wp_cond (t := false) ?_ (wp_exit ?_))
      · rw [nw.eval (v := .bool (decide ((pre.length : Int) < ((xs a0).length : Int)))) rfl]
        simp [xs, hp]
      · refine he ks a w ?_ ?_
        · simpa [g28_l] using hg
        · have : pre.length = a0.length := by simp [hp]
          rw [← this]; exact nw
  | cons p rest ih =>
    intro pre ks a w hp hlen hg nw
    have hi : idx a0 (pre.length : Int) = some p := by
      simp [idx, hp]
    have hl : pre.length < a0.length := by simp [hp]
    refine LoopAt.step (Eq.mpr (congrArg (fun X : Code => X.wp P (Exit.then (LoopAt P F28.l Q) Q) a w) e3) ?_)
    focus
      refine wp_seq (nw.ex (c := .reg [0, 3, 10, 11, 12, 13] [⟨13, none, .rd (.bin .lss (.tmp 12) (.tmp 11))⟩]) (R := fun o e h => o = .normal ∧ e = EL' a0 bm pre.length ∧ h = []) ⟨[[0, 3, 10, 11, 12, 13]], [], by kernel_rfl⟩ (W.regG (RG.fin 1 [] _ [] (by kernel_rfl) ⟨rfl, rfl, rfl⟩)) ?_)
      rintro o e h a w ⟨rfl, rfl, rfl⟩ nw
      refine wp_seq (wp_cond (t := true) ?_ (wp_skip ?_))
      · rw [nw.eval (v := .bool (decide ((pre.length : Int) < ((xs a0).length : Int)))) rfl]
        simp [xs, hp]
        omega
      show (Code.seq _ _).wp _ _ _ _
      refine wp_seq (wp_block (wp_seq (nw.ex (c := .reg [0, 3, 5, 10, 11, 12] [⟨14, none, .rd (.iad 3 (.tmp 10) (.tmp 12))⟩, ⟨15, none, .rd (.load true 3 (.tmp 14))⟩, ⟨5, none, .mk (.box 3 (.const (.agg #[(.string ⟨#[]⟩), (.int .i64 (0)), (.int .i64 (0))])))⟩, ⟨35, none, .st 3 (.tmp 5) (.tmp 15)⟩])
        (R := fun o e h => o = .normal ∧ e = envOf [(0, .im 3 (xs a0)), (3, mp bm), (5, .pt 5 [] 0 0), (10, .im 3 (xs a0)), (11, I64 ((xs a0).length : Int)), (12, I64 pre.length)] ∧ h = [(5, ⟨3, [[St p.Name_, I64 p.Kind_, I64 p.Len_]]⟩)])
        ⟨[[0, 3, 5, 10, 11, 12]], [], by kernel_rfl⟩ (W.regG ?_) ?_)))
      · refine RG.iadIm (R := T_api_Param) (r := p) (E := some) (c := c_T_api_Param) (xs := a0) (i := pre.length) (k := .i64) (by kernel_rfl) (by kernel_rfl) (by kernel_rfl) (by rw [hi]; rfl) (fun y2 _ hg => ?_)
        cases hg
        exact RG.fin 3 [(5, 5)] _ _ (by kernel_rfl) ⟨rfl, rfl, rfl⟩
      rintro o e h a w ⟨rfl, rfl, rfl⟩ nw
      obtain ⟨v, hv, hg⟩ := Option.bind_eq_some_iff.1 (show ((g48 n p).bind fun v => (bif v then g28_l n rest (bif has p.Name_ ks then ks else ks ++ [p.Name_]) else some none).bind (g28_r n a0)) = some r by rw [← Option.bind_assoc]; exact hg)
      show (Code.seq _ _).wp _ _ _ _
      refine wp_seq (nw.ex (c := .seq (.reg [0, 3, 5, 10, 11, 12, 18] [⟨16, none, .rd (.load true 3 (.tmp 5))⟩, ⟨17, none, .call 48 [(.tmp 16)]⟩, ⟨18, none, .rd (.un1 .not (.tmp 17))⟩]) (.cond (.tmp 18) (.seq (.reg [2] [⟨2, none, .rd (.mov (.const (.int .i64 100)))⟩]) .ret) .skip))
        (R := fun o e h => (o = .ret ∧ v = false ∧ e = envOf [(2, I64 100)]) ∨ (o = .normal ∧ v = true ∧ e = envOf [(0, .im 3 (xs a0)), (3, mp bm), (5, .pt 5 [] 0 0), (10, .im 3 (xs a0)), (11, I64 ((xs a0).length : Int)), (12, I64 pre.length), (18, Bl false)] ∧ h = [(5, ⟨3, [[St p.Name_, I64 p.Kind_, I64 p.Len_]]⟩)]))
        ⟨[[0, 3, 5, 10, 11, 12, 18], [2]], [], by kernel_rfl⟩ ?_ ?_)
      · refine W.seq (W.regG ?_)
        refine RG.cut 1 [(5, 5)] [0, 3, 5, 10, 11, 12, 16] (envOf [(0, .im 3 (xs a0)), (3, mp bm), (5, .pt 5 [] 0 0), (10, .im 3 (xs a0)), (11, I64 ((xs a0).length : Int)), (12, I64 pre.length), (16, .ag [St p.Name_, I64 p.Kind_, I64 p.Len_])]) [(5, ⟨3, [[St p.Name_, I64 p.Kind_, I64 p.Len_]]⟩)] (by kernel_rfl) ?_
        refine RG.callP (R := Bool) (r := v) (E := some) [] [(5, 5)] [0, 3, 5, 10, 11, 12, 17] false [.ag [St p.Name_, I64 p.Kind_, I64 p.Len_]] (fun v2 => Bl v2) (fun v2 => []) (fun v2 => envOf [(0, .im 3 (xs a0)), (3, mp bm), (5, .pt 5 [] 0 0), (10, .im 3 (xs a0)), (11, I64 ((xs a0).length : Int)), (12, I64 pre.length), (17, Bl v2)]) (fun v2 => [(5, ⟨3, [[St p.Name_, I64 p.Kind_, I64 p.Len_]]⟩)]) (by kernel_rfl) (gv := g48 n p) (by rw [hv]; rfl) (by kernel_rfl) (fun v2 hv => CallOk.toG (g48_ok n p v2 hv)) (by kernel_rfl) (fun v2 => by kernel_rfl) (fun h => by cases h) (fun v2 hv' hg' => ?_)
        cases hg'
        refine RG.fin 1 [(5, 5)] (envOf [(0, .im 3 (xs a0)), (3, mp bm), (5, .pt 5 [] 0 0), (10, .im 3 (xs a0)), (11, I64 ((xs a0).length : Int)), (12, I64 pre.length), (18, Bl (!v))]) [(5, ⟨3, [[St p.Name_, I64 p.Kind_, I64 p.Len_]]⟩)] (by kernel_rfl) ?_
        cases v with
        | true => exact W.condF (by kernel_rfl) (W.skip (.inr ⟨rfl, rfl, rfl, rfl⟩))
        | false => exact W.condT (by kernel_rfl) (W.seq (W.regG (RG.fin 1 [] (envOf [(2, I64 100)]) [] (by kernel_rfl) (W.ret (.inl ⟨rfl, rfl, rfl⟩)))))
      rintro o e h a w (⟨rfl, rfl, rfl⟩ | ⟨rfl, rfl, rfl, rfl⟩) nw
      · simp only [g28_r, cond_false, Option.bind_some, Option.some.injEq] at hg
        subst hg
        exact hr _ _ _ _ _ rfl nw
      · refine body9 nw fun a w nw => ?_
        refine nw.ex (c := .reg [0, 3, 10, 11, 12] [⟨24, none, .rd (.bin .add (.tmp 12) (.const (.int .i64 1)))⟩, ⟨12, none, .rd (.mov (.tmp 24))⟩]) (R := fun o e h => o = .normal ∧ e = EL a0 bm (IntKind.i64.wrap (pre.length + 1)) ∧ h = []) ⟨[[0, 3, 10, 11, 12]], [], by kernel_rfl⟩ (W.regG (RG.fin 2 [] _ [] (by kernel_rfl) ⟨rfl, rfl, rfl⟩)) ?_
        rintro o e h a w ⟨rfl, rfl, rfl⟩ nw
        have hw : IntKind.i64.wrap ((pre.length : Int) + 1) = ((pre ++ [p]).length : Int) := by
          have : (pre.length : Int) < 64 := by omega
          simp only [List.length_append, List.length_singleton]
          rw [wrapI (by omega) (by omega)]
          simp
        rw [hw] at nw
        exact ih (pre ++ [p]) _ a w (by simp [hp]) hlen hg nw

theorem tail {n : Nat} {w0 w : World} {a : Act} {a0 : List T_api_Param} {bm : Nat} {ks : List ByteArray} {r : Int} {Q : Exit → Act → World → Prop} (hg : g28_r n a0 (some ks) = some r) (nw : Now 35 w0 (some (bm, ks)) (EL' a0 bm a0.length) [] a w)
    (hr : ∀ m e' h' a' w', resAV e' h' [.t 2] = some (I64 r) → Now 35 w0 m e' h' a' w' → Q .ret a' w') : q.wp P Q a w := by
  rw [e4]
  refine wp_seq (wp_block (wp_seq (wp_region ?_)))
  have h11 : List.range (rops (lf (lf (lf q)))).size = [0, 1, 2, 3, 4, 5] := by kernel_rfl
  rw [h11]
  refine nw.rda (d := 26) (b := .mov (.tmp 3)) (mp bm) (by kernel_rfl) (by kernel_rfl) fun a w nw => ?_
  obtain ⟨o, ho, hgd, hd, hop⟩ := op_is (ops := R11) (i := 1) (g := none) (d := some 27) (op := .call { callee := .builtin .len, args := #[.tmp 26], argTypes := #[89] }) (by kernel_rfl)
  have hm : a.eval (.tmp 26) = .map (some bm) := nw.eval rfl
  have hc := (nw.km bm ks rfl).1.len (P := P) ut o.type
  refine nw.val (v := .int .i64 ks.length) ho hgd hd (by decide) (by simp [execOp, hop, resolve, invoke, builtin, hm, hc, Result.andThen]) fun a nw => ?_
  refine nw.rda (d := 28) (b := .mov (.tmp 0)) (.im 3 (xs a0)) (by kernel_rfl) (by kernel_rfl) fun a w nw => ?_
  refine nw.rda (d := 29) (b := .len (.tmp 28)) (I64 ((xs a0).length : Int)) (by kernel_rfl) (by kernel_rfl) fun a w nw => ?_
  refine nw.rda (d := 30) (b := .bin .lss (.tmp 27) (.tmp 29)) (Bl (decide ((ks.length : Int) < ((xs a0).length : Int)))) (by kernel_rfl) (by kernel_rfl) fun a w nw => ?_
  refine nw.rda (d := 25) (b := .mov (.tmp 30)) (Bl (decide ((ks.length : Int) < ((xs a0).length : Int)))) (by kernel_rfl) (by kernel_rfl) fun a w nw => ?_
  have nw := nw.gh (Ghost.norm (P := P) (bm := []) (S := [0, 25]) (e1 := envOf [(0, .im 3 (xs a0)), (25, Bl (decide ((ks.length : Int) < ((xs a0).length : Int))))]) (h1 := []) (by kernel_rfl))
  refine nw.ex (c := .cond (.tmp 25) (.seq (.reg [2] [⟨2, none, .rd (.mov (.const (.int .i64 101)))⟩]) .ret)
      (.seq (.reg [31] [⟨32, none, .rd (.mov (.tmp 0))⟩, ⟨33, none, .call 49 [(.tmp 32)]⟩, ⟨34, none, .rd (.bin .gtr (.tmp 33) (.const (.int .i64 65536)))⟩, ⟨31, none, .rd (.mov (.tmp 34))⟩]) (.cond (.tmp 31) (.seq (.reg [2] [⟨2, none, .rd (.mov (.const (.int .i64 102)))⟩]) .ret) .skip)))
    (R := fun o e h => (o = .ret ∧ e = envOf [(2, I64 r)]) ∨ (o = .normal ∧ r = 0 ∧ h = []))
    ⟨[[2], [31], [2]], [], by kernel_rfl⟩ ?_ ?_
  · unfold g28_r at hg
    refine W.condB (by kernel_rfl) hg (fun hg => ?_) (fun hg => ?_)
    · obtain rfl := Option.some.inj hg
      exact W.seq (W.regG (RG.fin 1 [] (envOf [(2, I64 101)]) [] (by kernel_rfl) (W.ret (.inl ⟨rfl, rfl⟩))))
    · refine W.seq (W.regG ?_)
      refine RG.cut 1 [] [32] (envOf [(32, .im 3 (xs a0))]) [] (by kernel_rfl) ?_
      refine RG.callP [] [] [33] false [.im 3 (xs a0)] (fun v2 => I64 v2) (fun v2 => []) (fun v2 => envOf [(33, I64 v2)]) (fun v2 => []) (by kernel_rfl) hg (by kernel_rfl) (fun v2 hv => CallOk.toG (g49_ok n a0 v2 hv)) (by kernel_rfl) (fun v2 => by kernel_rfl) (fun h => by cases h) (fun v2 hv hg => ?_)
      refine RG.fin 2 [] (envOf [(31, Bl (decide (v2 > 65536)))]) [] (by kernel_rfl) ?_
      refine W.condB (by kernel_rfl) hg (fun hg => ?_) (fun hg => ?_)
      · obtain rfl := Option.some.inj hg
        exact W.seq (W.regG (RG.fin 1 [] (envOf [(2, I64 102)]) [] (by kernel_rfl) (W.ret (.inl ⟨rfl, rfl⟩))))
      · obtain rfl := Option.some.inj hg
        exact W.skip (.inr ⟨rfl, rfl, rfl⟩)
  rintro o e h a w (⟨rfl, rfl⟩ | ⟨rfl, rfl, rfl⟩) nw
  · exact hr _ _ _ _ _ rfl nw
  · refine nw.ex (c := .seq (.reg [2] [⟨2, none, .rd (.mov (.const (.int .i64 0)))⟩]) .ret) (R := fun o e h => o = .ret ∧ e = envOf [(2, I64 0)]) ⟨[[2]], [], by kernel_rfl⟩ (W.seq (W.regG (RG.fin 1 [] (envOf [(2, I64 0)]) [] (by kernel_rfl) (W.ret ⟨rfl, rfl⟩)))) ?_
    rintro o e h a w ⟨rfl, rfl⟩ nw
    exact hr _ _ _ _ _ rfl nw
end F28
open F28 in
theorem g28_ok (n : Nat) (a0 : List T_api_Param) (r : Int) (hg : g28 n a0 = some r) : CallOk Go.Proofs.Try.prog 28 [.im 3 (a0.map c_T_api_Param)] [] (I64 r) [] := by
  refine Now.call (P := P) (N := 35) (fn := Go.Proofs.Try.f28) (ts := [.t 2]) (by kernel_rfl) F28.body (by kernel_rfl) (by kernel_rfl) fun a w0 Q nw hr => ?_
  rw [e1]
  refine wp_seq (nw.ex (c := .reg [0] [⟨2, none, .rd (.mov (.const (.int .i64 0)))⟩]) (R := fun o e h => o = .normal ∧ e = envOf [(0, .im 3 (xs a0))] ∧ h = []) ⟨[[0]], [], by kernel_rfl⟩ (W.regG (RG.fin 1 [] _ [] (by kernel_rfl) ⟨rfl, rfl, rfl⟩)) ?_)
  rintro o e h a w ⟨rfl, rfl, rfl⟩ nw
  show (Code.seq _ _).wp _ _ _ _
  unfold g28 at hg
  refine wp_seq (nw.ex (c := .seq (.reg [0, 8] [⟨6, none, .rd (.mov (.tmp 0))⟩, ⟨7, none, .rd (.len (.tmp 6))⟩, ⟨8, none, .rd (.bin .gtr (.tmp 7) (.const (.int .i64 64)))⟩]) (.cond (.tmp 8) (.seq (.reg [2] [⟨2, none, .rd (.mov (.const (.int .i64 2)))⟩]) .ret) .skip))
    (R := fun o e h => (o = .ret ∧ e = envOf [(2, I64 r)]) ∨ (o = .normal ∧ a0.length ≤ 64 ∧ (g28_l n a0 []).bind (g28_r n a0) = some r ∧ e = envOf [(0, .im 3 (xs a0)), (8, Bl (decide (((xs a0).length : Int) > 64)))] ∧ h = [])) ⟨[[0, 8], [2]], [], by kernel_rfl⟩ ?_ ?_)
  · refine W.seq (W.regG (RG.fin 3 [] (envOf [(0, .im 3 (xs a0)), (8, Bl (decide (((xs a0).length : Int) > 64)))]) [] (by kernel_rfl) ?_))
    cases hd : decide (((xs a0).length : Int) > 64) with
    | true =>
      rw [hd] at hg
      obtain rfl := Option.some.inj hg
      exact W.condT (by kernel_rfl) (W.seq (W.regG (RG.fin 1 [] (envOf [(2, I64 2)]) [] (by kernel_rfl) (W.ret (.inl ⟨rfl, rfl⟩)))))
    | false =>
      rw [hd] at hg
      refine W.condF (by kernel_rfl) (W.skip (.inr ⟨rfl, ?_, hg, rfl, rfl⟩))
      simp [xs] at hd
      omega
  rintro o e h a w (⟨rfl, rfl⟩ | ⟨rfl, hlen, hg, rfl, rfl⟩) nw
  · exact hr _ _ _ _ _ rfl nw
  show (Code.seq _ _).wp _ _ _ _
  refine wp_seq (wp_region ?_)
  have h3 : List.range (rops (lf (rt (rt b)))).size = [0, 1] := by kernel_rfl
  rw [h3]
  obtain ⟨o, ho, hgd, hd, hop⟩ := op_is (ops := R3) (i := 0) (g := none) (d := some 9) (op := .makeMap 89 none) (by kernel_rfl)
  refine nw.make ho hgd hd (by decide) hop fun bm a w nw => ?_
  refine nw.rda (d := 3) (b := .mov (.tmp 9)) (mp bm) (by kernel_rfl) (by kernel_rfl) fun a w nw => ?_
  have nw := nw.gh (Ghost.norm (P := P) (bm := []) (S := [0, 3]) (e1 := envOf [(0, .im 3 (xs a0)), (3, mp bm)]) (h1 := []) (by kernel_rfl))
  show (Code.seq z q).wp _ _ _ _
  refine wp_seq ?_
  rw [e2]
  refine wp_seq (nw.ex (c := .reg [0, 3, 10, 11, 12] [⟨10, none, .rd (.mov (.tmp 0))⟩, ⟨11, none, .rd (.len (.tmp 10))⟩, ⟨12, none, .rd (.mov (.const (.int .i64 0)))⟩]) (R := fun o e h => o = .normal ∧ e = EL a0 bm 0 ∧ h = []) ⟨[[0, 3, 10, 11, 12]], [], by kernel_rfl⟩ (W.regG (RG.fin 3 [] _ [] (by kernel_rfl) ⟨rfl, rfl, rfl⟩)) ?_)
  rintro o e h a w ⟨rfl, rfl, rfl⟩ nw
  refine wp_block (LoopAt.wp (loop (n := n) (Q := Exit.inBlock 0 (Exit.then (q.wp P Q) Q)) (w0 := w0) (a0 := a0) (bm := bm) (r := r) (fun ks a w hg nw => ?_) (fun m e h a w hv nw => hr m e h a w hv nw) a0 [] [] a w rfl hlen hg nw))
  exact tail hg nw hr
def g31 (a0 : T_api_Code) (a1 : T_api_Type) : Option Bool := joinJ (fun p1 : Bool => bif p1 then some (a1.Param_ == (0)) else bif (a1.Kind_ == (3)) then bif (decide (a1.Param_ ≥ (0))) then some (decide (a1.Param_ < ((a0.Sign_.map c_T_api_Param).length : Int))) else some false else some false) fun J1 => bif (a1.Kind_ == (1)) then J1 (a1.Kind_ == (1)) else J1 (a1.Kind_ == (2))
theorem g31_ok (a0 : T_api_Code) (a1 : T_api_Type) (r : Bool) (hg : g31 a0 a1 = some r) : CallOk Go.Proofs.Try.prog 31 [.ag [.im 3 (a0.Sign_.map c_T_api_Param), .im 2 (a0.Regs_.map c_T_api_Type), .im 5 (a0.Slots_.map c_T_api_Slot), .im 7 (a0.List_.map c_T_api_Inst)], .ag [I64 a1.Kind_, I64 a1.Param_]] [] (Bl r) [] := by
  unfold g31 at hg
  refine CallG.narrow ?_ (by kernel_rfl) (by kernel_rfl)
  refine .of_S [0, 1] (envOf [(0, .ag [.im 3 (a0.Sign_.map c_T_api_Param), .im 2 (a0.Regs_.map c_T_api_Type), .im 5 (a0.Slots_.map c_T_api_Slot), .im 7 (a0.List_.map c_T_api_Inst)]), (1, .ag [I64 a1.Kind_, I64 a1.Param_])]) fn31 (by kernel_rfl) ?_
  refine W.seq ?_
  refine W.regG ?_
  refine RG.fin 3 [(2, 2), (3, 3)] (envOf [(2, .pt 2 [] 0 0), (3, .pt 3 [] 0 0)]) [(2, ⟨4, [[.im 3 (a0.Sign_.map c_T_api_Param), .im 2 (a0.Regs_.map c_T_api_Type), .im 5 (a0.Slots_.map c_T_api_Slot), .im 7 (a0.List_.map c_T_api_Inst)]]⟩), (3, ⟨2, [[I64 a1.Kind_, I64 a1.Param_]]⟩)] (by kernel_rfl) ?_
  refine W.seq ?_
  refine W.seq ?_
  refine W.regG ?_
  refine RG.fin 2 [(2, 2), (3, 3)] (envOf [(2, .pt 2 [] 0 0), (3, .pt 3 [] 0 0), (6, I64 a1.Kind_)]) [(2, ⟨4, [[.im 3 (a0.Sign_.map c_T_api_Param), .im 2 (a0.Regs_.map c_T_api_Type), .im 5 (a0.Slots_.map c_T_api_Slot), .im 7 (a0.List_.map c_T_api_Inst)]]⟩), (3, ⟨2, [[I64 a1.Kind_, I64 a1.Param_]]⟩)] (by kernel_rfl) ?_
  refine W.block ?_
  refine W.seqJ (fun p1 : Bool => envOf [(2, .pt 2 [] 0 0), (3, .pt 3 [] 0 0), (6, I64 a1.Kind_), (7, Bl p1)]) (fun p1 : Bool => [(2, ⟨4, [[.im 3 (a0.Sign_.map c_T_api_Param), .im 2 (a0.Regs_.map c_T_api_Type), .im 5 (a0.Slots_.map c_T_api_Slot), .im 7 (a0.List_.map c_T_api_Inst)]]⟩), (3, ⟨2, [[I64 a1.Kind_, I64 a1.Param_]]⟩)]) hg (fun p1 hg => ?_) (fun hg => ?_)
  · refine W.condB (b := p1) (by kernel_rfl) hg (fun hg => ?_) (fun hg => ?_)
    · refine W.seq ?_
      refine W.regG ?_
      refine RG.fin 4 [] (envOf [(4, Bl (a1.Param_ == (0)))]) [] (by kernel_rfl) ?_
      obtain rfl := Option.some.inj hg
      exact W.ret (Ends.of [] (by kernel_rfl))
    refine W.seq ?_
    refine W.regG ?_
    refine RG.fin 2 [(2, 2), (3, 3)] (envOf [(2, .pt 2 [] 0 0), (3, .pt 3 [] 0 0), (13, Bl (a1.Kind_ == (3)))]) [(2, ⟨4, [[.im 3 (a0.Sign_.map c_T_api_Param), .im 2 (a0.Regs_.map c_T_api_Type), .im 5 (a0.Slots_.map c_T_api_Slot), .im 7 (a0.List_.map c_T_api_Inst)]]⟩), (3, ⟨2, [[I64 a1.Kind_, I64 a1.Param_]]⟩)] (by kernel_rfl) ?_
    refine W.condB (b := (a1.Kind_ == (3))) (by kernel_rfl) hg (fun hg => ?_) (fun hg => ?_)
    · refine W.seq ?_
      refine W.regG ?_
      refine RG.cut 4 [(2, 2), (3, 3)] [2, 3, 18, 19, 20, 21, 22, 23, 24] (envOf [(2, .pt 2 [] 0 0), (3, .pt 3 [] 0 0), (18, Bl (decide (a1.Param_ ≥ (0)))), (19, .un), (20, .un), (21, .un), (22, .un), (23, .un), (24, .un)]) [(2, ⟨4, [[.im 3 (a0.Sign_.map c_T_api_Param), .im 2 (a0.Regs_.map c_T_api_Type), .im 5 (a0.Slots_.map c_T_api_Slot), .im 7 (a0.List_.map c_T_api_Inst)]]⟩), (3, ⟨2, [[I64 a1.Kind_, I64 a1.Param_]]⟩)] (by kernel_rfl) ?_
      refine RG.guard (s := 18) (by kernel_rfl) hg (fun hg => ?_) (fun hg => ?_)
      · refine RG.fin 8 [] (envOf [(4, Bl (decide (a1.Param_ < ((a0.Sign_.map c_T_api_Param).length : Int))))]) [] (by kernel_rfl) ?_
        obtain rfl := Option.some.inj hg
        exact W.ret (Ends.of [] (by kernel_rfl))
      refine RG.fin 8 [] (envOf [(4, Bl false)]) [] (by kernel_rfl) ?_
      obtain rfl := Option.some.inj hg
      exact W.ret (Ends.of [] (by kernel_rfl))
    refine W.skip ?_
    refine W.seq ?_
    refine W.regG ?_
    refine RG.fin 1 [] (envOf [(4, Bl false)]) [] (by kernel_rfl) ?_
    obtain rfl := Option.some.inj hg
    exact W.ret (Ends.of [] (by kernel_rfl))
  refine W.seq ?_
  refine W.regG ?_
  refine RG.fin 2 [(2, 2), (3, 3)] (envOf [(2, .pt 2 [] 0 0), (3, .pt 3 [] 0 0), (6, I64 a1.Kind_), (7, Bl (a1.Kind_ == (1)))]) [(2, ⟨4, [[.im 3 (a0.Sign_.map c_T_api_Param), .im 2 (a0.Regs_.map c_T_api_Type), .im 5 (a0.Slots_.map c_T_api_Slot), .im 7 (a0.List_.map c_T_api_Inst)]]⟩), (3, ⟨2, [[I64 a1.Kind_, I64 a1.Param_]]⟩)] (by kernel_rfl) ?_
  refine W.condB (b := (a1.Kind_ == (1))) (by kernel_rfl) hg (fun hg => ?_) (fun hg => ?_)
  · refine W.norm [(2, 2), (3, 3)] [2, 3, 6, 7] (envOf [(2, .pt 2 [] 0 0), (3, .pt 3 [] 0 0), (6, I64 a1.Kind_), (7, Bl (a1.Kind_ == (1)))]) [(2, ⟨4, [[.im 3 (a0.Sign_.map c_T_api_Param), .im 2 (a0.Regs_.map c_T_api_Type), .im 5 (a0.Slots_.map c_T_api_Slot), .im 7 (a0.List_.map c_T_api_Inst)]]⟩), (3, ⟨2, [[I64 a1.Kind_, I64 a1.Param_]]⟩)] (by kernel_rfl) ?_
    refine W.skip ?_
    exact W.toJ (a1.Kind_ == (1)) hg (by kernel_rfl) (by kernel_rfl)
  refine W.regG ?_
  refine RG.fin 2 [(2, 2), (3, 3)] (envOf [(2, .pt 2 [] 0 0), (3, .pt 3 [] 0 0), (6, I64 a1.Kind_), (7, Bl (a1.Kind_ == (2)))]) [(2, ⟨4, [[.im 3 (a0.Sign_.map c_T_api_Param), .im 2 (a0.Regs_.map c_T_api_Type), .im 5 (a0.Slots_.map c_T_api_Slot), .im 7 (a0.List_.map c_T_api_Inst)]]⟩), (3, ⟨2, [[I64 a1.Kind_, I64 a1.Param_]]⟩)] (by kernel_rfl) ?_
  exact W.toJ (a1.Kind_ == (2)) hg (by kernel_rfl) (by kernel_rfl)
def g30 (a0 : T_api_Type) (a1_0 : (List T_api_Param)) (a1_1 : (List T_api_Type)) (a1_2 : (List T_api_Slot)) (a1_3 : (List T_api_Inst)) : Option Bool := (g31 (⟨a1_0, a1_1, a1_2, a1_3⟩ : T_api_Code) a0).bind fun v1 => some (!v1)
theorem g30_ok (a0 : T_api_Type) (a1_0 : (List T_api_Param)) (a1_1 : (List T_api_Type)) (a1_2 : (List T_api_Slot)) (a1_3 : (List T_api_Inst)) (r : Bool) (hg : g30 a0 a1_0 a1_1 a1_2 a1_3 = some r) : CallG Go.Proofs.Try.prog 30 [.ag [I64 a0.Kind_, I64 a0.Param_], .pt 200000 [] 0 0] [(200000, ⟨4, [[.im 3 (a1_0.map c_T_api_Param), .im 2 (a1_1.map c_T_api_Type), .im 5 (a1_2.map c_T_api_Slot), .im 7 (a1_3.map c_T_api_Inst)]]⟩)] (Bl r) [(200000, ⟨4, [[.im 3 (a1_0.map c_T_api_Param), .im 2 (a1_1.map c_T_api_Type), .im 5 (a1_2.map c_T_api_Slot), .im 7 (a1_3.map c_T_api_Inst)]]⟩)] := by
  unfold g30 at hg
  refine .of_S [0, 1] (envOf [(0, .ag [I64 a0.Kind_, I64 a0.Param_]), (1, .pt 200000 [] 0 0)]) fn30 (by kernel_rfl) ?_
  refine W.seq ?_
  refine W.regG ?_
  refine RG.fin 2 [(2, 2), (200000, 200000)] (envOf [(1, .pt 200000 [] 0 0), (2, .pt 2 [] 0 0)]) [(2, ⟨2, [[I64 a0.Kind_, I64 a0.Param_]]⟩), (200000, ⟨4, [[.im 3 (a1_0.map c_T_api_Param), .im 2 (a1_1.map c_T_api_Type), .im 5 (a1_2.map c_T_api_Slot), .im 7 (a1_3.map c_T_api_Inst)]]⟩)] (by kernel_rfl) ?_
  refine W.seq ?_
  refine W.regG ?_
  refine RG.cut 2 [(200000, 200000)] [4, 5] (envOf [(4, .ag [.im 3 (a1_0.map c_T_api_Param), .im 2 (a1_1.map c_T_api_Type), .im 5 (a1_2.map c_T_api_Slot), .im 7 (a1_3.map c_T_api_Inst)]), (5, .ag [I64 a0.Kind_, I64 a0.Param_])]) [(200000, ⟨4, [[.im 3 (a1_0.map c_T_api_Param), .im 2 (a1_1.map c_T_api_Type), .im 5 (a1_2.map c_T_api_Slot), .im 7 (a1_3.map c_T_api_Inst)]]⟩)] (by kernel_rfl) ?_
  refine RG.callP [] [(200000, 200000)] [6] false [.ag [.im 3 (((⟨a1_0, a1_1, a1_2, a1_3⟩ : T_api_Code).Sign_).map c_T_api_Param), .im 2 (((⟨a1_0, a1_1, a1_2, a1_3⟩ : T_api_Code).Regs_).map c_T_api_Type), .im 5 (((⟨a1_0, a1_1, a1_2, a1_3⟩ : T_api_Code).Slots_).map c_T_api_Slot), .im 7 (((⟨a1_0, a1_1, a1_2, a1_3⟩ : T_api_Code).List_).map c_T_api_Inst)], .ag [I64 a0.Kind_, I64 a0.Param_]] (fun v1 => Bl v1) (fun v1 => []) (fun v1 => envOf [(6, Bl v1)]) (fun v1 => [(200000, ⟨4, [[.im 3 (a1_0.map c_T_api_Param), .im 2 (a1_1.map c_T_api_Type), .im 5 (a1_2.map c_T_api_Slot), .im 7 (a1_3.map c_T_api_Inst)]]⟩)]) (by kernel_rfl) hg (by kernel_rfl) (fun v1 hv => CallOk.toG (g31_ok (⟨a1_0, a1_1, a1_2, a1_3⟩ : T_api_Code) a0 v1 hv)) (by kernel_rfl) (fun v1 => by kernel_rfl) (fun h => by cases h) (fun v1 hv hg => ?_)
  refine RG.fin 2 [(200000, 200000)] (envOf [(3, Bl (!v1))]) [(200000, ⟨4, [[.im 3 (a1_0.map c_T_api_Param), .im 2 (a1_1.map c_T_api_Type), .im 5 (a1_2.map c_T_api_Slot), .im 7 (a1_3.map c_T_api_Inst)]]⟩)] (by kernel_rfl) ?_
  obtain rfl := Option.some.inj hg
  exact W.ret (Ends.of [(200000, 200000)] (by kernel_rfl))
def g50_b1 (n : Nat) (a0 : (List T_api_Type)) (a1_0_0 : (List T_api_Param)) (a1_0_1 : (List T_api_Type)) (a1_0_2 : (List T_api_Slot)) (a1_0_3 : (List T_api_Inst)) (s1 : Int) : Option (Bo Int (Int × Bool) Int) := bif (decide (s1 < ((a0.map c_T_api_Type).length : Int))) then (idx a0 s1).bind fun y2 => (g30 y2 a1_0_0 a1_0_1 a1_0_2 a1_0_3).bind fun v2 => bif v2 then some (.ret s1) else some (.go (IntKind.i64.wrap (s1 + (1)))) else some (.out (s1, (decide (s1 < ((a0.map c_T_api_Type).length : Int)))))
def g50 (n : Nat) (a0 : (List T_api_Type)) (a1_0_0 : (List T_api_Param)) (a1_0_1 : (List T_api_Type)) (a1_0_2 : (List T_api_Slot)) (a1_0_3 : (List T_api_Inst)) : Option Int := (iter (g50_b1 n a0 a1_0_0 a1_0_1 a1_0_2 a1_0_3) n (0)).bind (Bo.then (fun t1 => some (-1)) some)
theorem g50_ok (n : Nat) (a0 : (List T_api_Type)) (a1_0_0 : (List T_api_Param)) (a1_0_1 : (List T_api_Type)) (a1_0_2 : (List T_api_Slot)) (a1_0_3 : (List T_api_Inst)) (r : Int) (hg : g50 n a0 a1_0_0 a1_0_1 a1_0_2 a1_0_3 = some r) : CallG Go.Proofs.Try.prog 50 [.im 2 (a0.map c_T_api_Type), .fn 30 [.pt 200000 [] 0 0]] [(200000, ⟨4, [[.im 3 (a1_0_0.map c_T_api_Param), .im 2 (a1_0_1.map c_T_api_Type), .im 5 (a1_0_2.map c_T_api_Slot), .im 7 (a1_0_3.map c_T_api_Inst)]]⟩)] (I64 r) [(200000, ⟨4, [[.im 3 (a1_0_0.map c_T_api_Param), .im 2 (a1_0_1.map c_T_api_Type), .im 5 (a1_0_2.map c_T_api_Slot), .im 7 (a1_0_3.map c_T_api_Inst)]]⟩)] := by
  unfold g50 at hg
  refine .of_S [0, 1] (envOf [(0, .im 2 (a0.map c_T_api_Type)), (1, .fn 30 [.pt 200000 [] 0 0])]) fn50 (by kernel_rfl) ?_
  refine W.seq ?_
  refine W.regG ?_
  refine RG.fin 1 [(200000, 200000)] (envOf [(0, .im 2 (a0.map c_T_api_Type)), (1, .fn 30 [.pt 200000 [] 0 0])]) [(200000, ⟨4, [[.im 3 (a1_0_0.map c_T_api_Param), .im 2 (a1_0_1.map c_T_api_Type), .im 5 (a1_0_2.map c_T_api_Slot), .im 7 (a1_0_3.map c_T_api_Inst)]]⟩)] (by kernel_rfl) ?_
  refine W.seq ?_
  refine W.seq ?_
  refine W.regG ?_
  refine RG.fin 3 [(200000, 200000)] (envOf [(0, .im 2 (a0.map c_T_api_Type)), (1, .fn 30 [.pt 200000 [] 0 0]), (7, I64 ((a0.map c_T_api_Type).length : Int)), (8, I64 (0))]) [(200000, ⟨4, [[.im 3 (a1_0_0.map c_T_api_Param), .im 2 (a1_0_1.map c_T_api_Type), .im 5 (a1_0_2.map c_T_api_Slot), .im 7 (a1_0_3.map c_T_api_Inst)]]⟩)] (by kernel_rfl) ?_
  refine W.norm [(200000, 200000)] [0, 1, 7, 8] (envOf [(0, .im 2 (a0.map c_T_api_Type)), (1, .fn 30 [.pt 200000 [] 0 0]), (7, I64 ((a0.map c_T_api_Type).length : Int)), (8, I64 (0))]) [(200000, ⟨4, [[.im 3 (a1_0_0.map c_T_api_Param), .im 2 (a1_0_1.map c_T_api_Type), .im 5 (a1_0_2.map c_T_api_Slot), .im 7 (a1_0_3.map c_T_api_Inst)]]⟩)] (by kernel_rfl) ?_
  refine W.loopB (fun s1 : Int => envOf [(0, .im 2 (a0.map c_T_api_Type)), (1, .fn 30 [.pt 200000 [] 0 0]), (7, I64 ((a0.map c_T_api_Type).length : Int)), (8, I64 s1)]) (fun s1 : Int => [(200000, ⟨4, [[.im 3 (a1_0_0.map c_T_api_Param), .im 2 (a1_0_1.map c_T_api_Type), .im 5 (a1_0_2.map c_T_api_Slot), .im 7 (a1_0_3.map c_T_api_Inst)]]⟩)]) (fun t1 : Int × Bool => envOf [(0, .im 2 (a0.map c_T_api_Type)), (1, .fn 30 [.pt 200000 [] 0 0]), (7, I64 ((a0.map c_T_api_Type).length : Int)), (8, I64 t1.1), (9, Bl t1.2)]) (fun t1 : Int × Bool => [(200000, ⟨4, [[.im 3 (a1_0_0.map c_T_api_Param), .im 2 (a1_0_1.map c_T_api_Type), .im 5 (a1_0_2.map c_T_api_Slot), .im 7 (a1_0_3.map c_T_api_Inst)]]⟩)]) (fun (r : Int) e h => Ends [.t 4] [(200000, ⟨4, [[.im 3 (a1_0_0.map c_T_api_Param), .im 2 (a1_0_1.map c_T_api_Type), .im 5 (a1_0_2.map c_T_api_Slot), .im 7 (a1_0_3.map c_T_api_Inst)]]⟩)] (I64 r) [(200000, ⟨4, [[.im 3 (a1_0_0.map c_T_api_Param), .im 2 (a1_0_1.map c_T_api_Type), .im 5 (a1_0_2.map c_T_api_Slot), .im 7 (a1_0_3.map c_T_api_Inst)]]⟩)] .ret e h) hg (by kernel_rfl) (by kernel_rfl) (fun s1 bb hg => ?_) (fun r' hr e h q => by cases hr; exact q) (fun t1 hg => ?_)
  · unfold g50_b1 at hg
    refine W.seq ?_
    refine W.regG ?_
    refine RG.fin 1 [(200000, 200000)] (envOf [(0, .im 2 (a0.map c_T_api_Type)), (1, .fn 30 [.pt 200000 [] 0 0]), (7, I64 ((a0.map c_T_api_Type).length : Int)), (8, I64 s1), (9, Bl (decide (s1 < ((a0.map c_T_api_Type).length : Int))))]) [(200000, ⟨4, [[.im 3 (a1_0_0.map c_T_api_Param), .im 2 (a1_0_1.map c_T_api_Type), .im 5 (a1_0_2.map c_T_api_Slot), .im 7 (a1_0_3.map c_T_api_Inst)]]⟩)] (by kernel_rfl) ?_
    refine W.seq ?_
    refine W.condB (b := (decide (s1 < ((a0.map c_T_api_Type).length : Int)))) (by kernel_rfl) hg (fun hg => ?_) (fun hg => ?_)
    · refine W.skip ?_
      refine W.seq ?_
      refine W.block ?_
      refine W.seq ?_
      refine W.regG ?_
      refine RG.fin 2 [(200000, 200000)] (envOf [(0, .im 2 (a0.map c_T_api_Type)), (1, .fn 30 [.pt 200000 [] 0 0]), (5, I64 s1), (7, I64 ((a0.map c_T_api_Type).length : Int)), (8, I64 s1)]) [(200000, ⟨4, [[.im 3 (a1_0_0.map c_T_api_Param), .im 2 (a1_0_1.map c_T_api_Type), .im 5 (a1_0_2.map c_T_api_Slot), .im 7 (a1_0_3.map c_T_api_Inst)]]⟩)] (by kernel_rfl) ?_
      refine W.seq ?_
      refine W.regG ?_
      refine RG.cut 3 [(200000, 200000)] [0, 1, 5, 7, 8, 11, 12, 13] (envOf [(0, .im 2 (a0.map c_T_api_Type)), (1, .fn 30 [.pt 200000 [] 0 0]), (5, I64 s1), (7, I64 ((a0.map c_T_api_Type).length : Int)), (8, I64 s1), (11, .fn 30 [.pt 200000 [] 0 0]), (12, .im 2 (a0.map c_T_api_Type)), (13, I64 s1)]) [(200000, ⟨4, [[.im 3 (a1_0_0.map c_T_api_Param), .im 2 (a1_0_1.map c_T_api_Type), .im 5 (a1_0_2.map c_T_api_Slot), .im 7 (a1_0_3.map c_T_api_Inst)]]⟩)] (by kernel_rfl) ?_
      refine RG.iadIm (c := c_T_api_Type) (xs := a0) (i := s1) (k := .i64) (by kernel_rfl) (by kernel_rfl) (by kernel_rfl) hg (fun y2 _ hg => ?_)
      refine RG.cut 1 [(200000, 200000)] [0, 1, 5, 7, 8, 11, 15] (envOf [(0, .im 2 (a0.map c_T_api_Type)), (1, .fn 30 [.pt 200000 [] 0 0]), (5, I64 s1), (7, I64 ((a0.map c_T_api_Type).length : Int)), (8, I64 s1), (11, .fn 30 [.pt 200000 [] 0 0]), (15, .ag [I64 y2.Kind_, I64 y2.Param_])]) [(200000, ⟨4, [[.im 3 (a1_0_0.map c_T_api_Param), .im 2 (a1_0_1.map c_T_api_Type), .im 5 (a1_0_2.map c_T_api_Slot), .im 7 (a1_0_3.map c_T_api_Inst)]]⟩)] (by kernel_rfl) ?_
      refine RG.callv (f := 30) (caps := [.pt 200000 [] 0 0]) [(200000, 200000)] [(200000, 200000)] [(200000, 200000)] [0, 1, 5, 7, 8, 16] false [.ag [I64 y2.Kind_, I64 y2.Param_], .pt 200000 [] 0 0] [(200000, ⟨4, [[.im 3 (a1_0_0.map c_T_api_Param), .im 2 (a1_0_1.map c_T_api_Type), .im 5 (a1_0_2.map c_T_api_Slot), .im 7 (a1_0_3.map c_T_api_Inst)]]⟩)] [] (fun v2 => Bl v2) (fun v2 => [(200000, ⟨4, [[.im 3 (a1_0_0.map c_T_api_Param), .im 2 (a1_0_1.map c_T_api_Type), .im 5 (a1_0_2.map c_T_api_Slot), .im 7 (a1_0_3.map c_T_api_Inst)]]⟩)]) (fun v2 => envOf [(0, .im 2 (a0.map c_T_api_Type)), (1, .fn 30 [.pt 200000 [] 0 0]), (5, I64 s1), (7, I64 ((a0.map c_T_api_Type).length : Int)), (8, I64 s1), (16, Bl v2)]) (fun v2 => [(200000, ⟨4, [[.im 3 (a1_0_0.map c_T_api_Param), .im 2 (a1_0_1.map c_T_api_Type), .im 5 (a1_0_2.map c_T_api_Slot), .im 7 (a1_0_3.map c_T_api_Inst)]]⟩)]) (by kernel_rfl) (by kernel_rfl) (by kernel_rfl) hg (by kernel_rfl) (by kernel_rfl) (fun v2 hv => g30_ok y2 a1_0_0 a1_0_1 a1_0_2 a1_0_3 v2 hv) (by kernel_rfl) (fun v2 => by kernel_rfl) (fun h => by cases h) (fun v2 hv hg => ?_)
      refine RG.fin 0 [(200000, 200000)] (envOf [(0, .im 2 (a0.map c_T_api_Type)), (1, .fn 30 [.pt 200000 [] 0 0]), (5, I64 s1), (7, I64 ((a0.map c_T_api_Type).length : Int)), (8, I64 s1), (16, Bl v2)]) [(200000, ⟨4, [[.im 3 (a1_0_0.map c_T_api_Param), .im 2 (a1_0_1.map c_T_api_Type), .im 5 (a1_0_2.map c_T_api_Slot), .im 7 (a1_0_3.map c_T_api_Inst)]]⟩)] (by kernel_rfl) ?_
      refine W.condB (b := v2) (by kernel_rfl) hg (fun hg => ?_) (fun hg => ?_)
      · refine W.seq ?_
        refine W.regG ?_
        refine RG.fin 2 [(200000, 200000)] (envOf [(4, I64 s1)]) [(200000, ⟨4, [[.im 3 (a1_0_0.map c_T_api_Param), .im 2 (a1_0_1.map c_T_api_Type), .im 5 (a1_0_2.map c_T_api_Slot), .im 7 (a1_0_3.map c_T_api_Inst)]]⟩)] (by kernel_rfl) ?_
        obtain rfl := Option.some.inj hg
        exact W.ret ⟨rfl, Ends.of [(200000, 200000)] (by kernel_rfl)⟩
      refine W.skip ?_
      refine W.regG ?_
      refine RG.fin 2 [(200000, 200000)] (envOf [(0, .im 2 (a0.map c_T_api_Type)), (1, .fn 30 [.pt 200000 [] 0 0]), (7, I64 ((a0.map c_T_api_Type).length : Int)), (8, I64 (IntKind.i64.wrap (s1 + (1))))]) [(200000, ⟨4, [[.im 3 (a1_0_0.map c_T_api_Param), .im 2 (a1_0_1.map c_T_api_Type), .im 5 (a1_0_2.map c_T_api_Slot), .im 7 (a1_0_3.map c_T_api_Inst)]]⟩)] (by kernel_rfl) ?_
      obtain rfl := Option.some.inj hg
      exact ⟨rfl, by kernel_rfl, by kernel_rfl⟩
    refine W.norm [(200000, 200000)] [0, 1, 7, 8, 9] (envOf [(0, .im 2 (a0.map c_T_api_Type)), (1, .fn 30 [.pt 200000 [] 0 0]), (7, I64 ((a0.map c_T_api_Type).length : Int)), (8, I64 s1), (9, Bl (decide (s1 < ((a0.map c_T_api_Type).length : Int))))]) [(200000, ⟨4, [[.im 3 (a1_0_0.map c_T_api_Param), .im 2 (a1_0_1.map c_T_api_Type), .im 5 (a1_0_2.map c_T_api_Slot), .im 7 (a1_0_3.map c_T_api_Inst)]]⟩)] (by kernel_rfl) ?_
    refine W.exit ?_
    obtain rfl := Option.some.inj hg
    exact ⟨rfl, by kernel_rfl, by kernel_rfl⟩
  refine W.seq ?_
  refine W.regG ?_
  refine RG.fin 1 [(200000, 200000)] (envOf [(4, I64 (-1))]) [(200000, ⟨4, [[.im 3 (a1_0_0.map c_T_api_Param), .im 2 (a1_0_1.map c_T_api_Type), .im 5 (a1_0_2.map c_T_api_Slot), .im 7 (a1_0_3.map c_T_api_Inst)]]⟩)] (by kernel_rfl) ?_
  obtain rfl := Option.some.inj hg
  exact W.ret (Ends.of [(200000, 200000)] (by kernel_rfl))
def g29 (n : Nat) (a0 : (List T_api_Type)) (a1_0_0 : (List T_api_Param)) (a1_0_1 : (List T_api_Type)) (a1_0_2 : (List T_api_Slot)) (a1_0_3 : (List T_api_Inst)) : Option Bool := (g50 n a0 a1_0_0 a1_0_1 a1_0_2 a1_0_3).bind fun v1 => some (decide (v1 ≥ (0)))
theorem g29_ok (n : Nat) (a0 : (List T_api_Type)) (a1_0_0 : (List T_api_Param)) (a1_0_1 : (List T_api_Type)) (a1_0_2 : (List T_api_Slot)) (a1_0_3 : (List T_api_Inst)) (r : Bool) (hg : g29 n a0 a1_0_0 a1_0_1 a1_0_2 a1_0_3 = some r) : CallG Go.Proofs.Try.prog 29 [.im 2 (a0.map c_T_api_Type), .fn 30 [.pt 200000 [] 0 0]] [(200000, ⟨4, [[.im 3 (a1_0_0.map c_T_api_Param), .im 2 (a1_0_1.map c_T_api_Type), .im 5 (a1_0_2.map c_T_api_Slot), .im 7 (a1_0_3.map c_T_api_Inst)]]⟩)] (Bl r) [(200000, ⟨4, [[.im 3 (a1_0_0.map c_T_api_Param), .im 2 (a1_0_1.map c_T_api_Type), .im 5 (a1_0_2.map c_T_api_Slot), .im 7 (a1_0_3.map c_T_api_Inst)]]⟩)] := by
  unfold g29 at hg
  refine .of_S [0, 1] (envOf [(0, .im 2 (a0.map c_T_api_Type)), (1, .fn 30 [.pt 200000 [] 0 0])]) fn29 (by kernel_rfl) ?_
  refine W.seq ?_
  refine W.regG ?_
  refine RG.fin 1 [(200000, 200000)] (envOf [(0, .im 2 (a0.map c_T_api_Type)), (1, .fn 30 [.pt 200000 [] 0 0])]) [(200000, ⟨4, [[.im 3 (a1_0_0.map c_T_api_Param), .im 2 (a1_0_1.map c_T_api_Type), .im 5 (a1_0_2.map c_T_api_Slot), .im 7 (a1_0_3.map c_T_api_Inst)]]⟩)] (by kernel_rfl) ?_
  refine W.seq ?_
  refine W.regG ?_
  refine RG.cut 2 [(200000, 200000)] [5, 6] (envOf [(5, .im 2 (a0.map c_T_api_Type)), (6, .fn 30 [.pt 200000 [] 0 0])]) [(200000, ⟨4, [[.im 3 (a1_0_0.map c_T_api_Param), .im 2 (a1_0_1.map c_T_api_Type), .im 5 (a1_0_2.map c_T_api_Slot), .im 7 (a1_0_3.map c_T_api_Inst)]]⟩)] (by kernel_rfl) ?_
  refine RG.call [(200000, 200000)] [(200000, 200000)] [(200000, 200000)] [7] false [.im 2 (a0.map c_T_api_Type), .fn 30 [.pt 200000 [] 0 0]] [(200000, ⟨4, [[.im 3 (a1_0_0.map c_T_api_Param), .im 2 (a1_0_1.map c_T_api_Type), .im 5 (a1_0_2.map c_T_api_Slot), .im 7 (a1_0_3.map c_T_api_Inst)]]⟩)] [] (fun v1 => I64 v1) (fun v1 => [(200000, ⟨4, [[.im 3 (a1_0_0.map c_T_api_Param), .im 2 (a1_0_1.map c_T_api_Type), .im 5 (a1_0_2.map c_T_api_Slot), .im 7 (a1_0_3.map c_T_api_Inst)]]⟩)]) (fun v1 => envOf [(7, I64 v1)]) (fun v1 => [(200000, ⟨4, [[.im 3 (a1_0_0.map c_T_api_Param), .im 2 (a1_0_1.map c_T_api_Type), .im 5 (a1_0_2.map c_T_api_Slot), .im 7 (a1_0_3.map c_T_api_Inst)]]⟩)]) (by kernel_rfl) hg (by kernel_rfl) (by kernel_rfl) (fun v1 hv => g50_ok n a0 a1_0_0 a1_0_1 a1_0_2 a1_0_3 v1 hv) (by kernel_rfl) (fun v1 => by kernel_rfl) (fun h => by cases h) (fun v1 hv hg => ?_)
  refine RG.fin 2 [(200000, 200000)] (envOf [(4, Bl (decide (v1 ≥ (0))))]) [(200000, ⟨4, [[.im 3 (a1_0_0.map c_T_api_Param), .im 2 (a1_0_1.map c_T_api_Type), .im 5 (a1_0_2.map c_T_api_Slot), .im 7 (a1_0_3.map c_T_api_Inst)]]⟩)] (by kernel_rfl) ?_
  obtain rfl := Option.some.inj hg
  exact W.ret (Ends.of [(200000, 200000)] (by kernel_rfl))
def g52 (a0 : Int) : Option Bool := bif (decide ((IntKind.u32.wrap (BitVec.ofInt IntKind.u32.bits a0 &&& ~~~BitVec.ofInt IntKind.u32.bits (2147483648)).toNat) ≤ (2139095040))) then some true else some (a0 == (2143289344))
theorem g52_ok (a0 : Int) (r : Bool) (hg : g52 a0 = some r) : CallOk Go.Proofs.Try.prog 52 [.sc (.int .u32 a0)] [] (Bl r) [] := by
  unfold g52 at hg
  refine CallG.narrow ?_ (by kernel_rfl) (by kernel_rfl)
  refine .of_S [0] (envOf [(0, .sc (.int .u32 a0))]) fn52 (by kernel_rfl) ?_
  refine W.seq ?_
  refine W.regG ?_
  refine RG.fin 1 [] (envOf [(0, .sc (.int .u32 a0))]) [] (by kernel_rfl) ?_
  refine W.seq ?_
  refine W.regG ?_
  refine RG.cut 4 [] [0, 6, 7, 8] (envOf [(0, .sc (.int .u32 a0)), (6, Bl (decide ((IntKind.u32.wrap (BitVec.ofInt IntKind.u32.bits a0 &&& ~~~BitVec.ofInt IntKind.u32.bits (2147483648)).toNat) ≤ (2139095040)))), (7, .un), (8, .un)]) [] (by kernel_rfl) ?_
  refine RG.guard (s := 6) (by kernel_rfl) hg (fun hg => ?_) (fun hg => ?_)
  · refine RG.fin 4 [] (envOf [(2, Bl true)]) [] (by kernel_rfl) ?_
    obtain rfl := Option.some.inj hg
    exact W.ret (Ends.of [] (by kernel_rfl))
  refine RG.fin 4 [] (envOf [(2, Bl (a0 == (2143289344)))]) [] (by kernel_rfl) ?_
  obtain rfl := Option.some.inj hg
  exact W.ret (Ends.of [] (by kernel_rfl))
def g34 (a0 : T_api_Code) (a1 : T_api_Slot) : Option Bool := (g31 a0 a1.Type_).bind fun v1 => bif (!v1) then some false else bif (a1.Type_.Kind_ == (2)) then bif (a1.Bits_ == (0)) then bif (decide (a1.Int_ ≥ (0))) then some (decide (a1.Int_ ≤ (2147483647))) else some false else some false else bif (a1.Int_ == (0)) then (g52 a1.Bits_).bind fun v2 => some v2 else some false
theorem g34_ok (a0 : T_api_Code) (a1 : T_api_Slot) (r : Bool) (hg : g34 a0 a1 = some r) : CallOk Go.Proofs.Try.prog 34 [.ag [.im 3 (a0.Sign_.map c_T_api_Param), .im 2 (a0.Regs_.map c_T_api_Type), .im 5 (a0.Slots_.map c_T_api_Slot), .im 7 (a0.List_.map c_T_api_Inst)], .ag [I64 a1.Type_.Kind_, I64 a1.Type_.Param_, Bl a1.Keep_, .sc (.int .u32 a1.Bits_), I64 a1.Int_]] [] (Bl r) [] := by
  unfold g34 at hg
  refine CallG.narrow ?_ (by kernel_rfl) (by kernel_rfl)
  refine .of_S [0, 1] (envOf [(0, .ag [.im 3 (a0.Sign_.map c_T_api_Param), .im 2 (a0.Regs_.map c_T_api_Type), .im 5 (a0.Slots_.map c_T_api_Slot), .im 7 (a0.List_.map c_T_api_Inst)]), (1, .ag [I64 a1.Type_.Kind_, I64 a1.Type_.Param_, Bl a1.Keep_, .sc (.int .u32 a1.Bits_), I64 a1.Int_])]) fn34 (by kernel_rfl) ?_
  refine W.seq ?_
  refine W.regG ?_
  refine RG.fin 3 [(2, 2), (3, 3)] (envOf [(2, .pt 2 [] 0 0), (3, .pt 3 [] 0 0)]) [(2, ⟨4, [[.im 3 (a0.Sign_.map c_T_api_Param), .im 2 (a0.Regs_.map c_T_api_Type), .im 5 (a0.Slots_.map c_T_api_Slot), .im 7 (a0.List_.map c_T_api_Inst)]]⟩), (3, ⟨5, [[I64 a1.Type_.Kind_, I64 a1.Type_.Param_, Bl a1.Keep_, .sc (.int .u32 a1.Bits_), I64 a1.Int_]]⟩)] (by kernel_rfl) ?_
  refine W.seq ?_
  refine W.seq ?_
  refine W.regG ?_
  refine RG.cut 3 [(3, 3)] [3, 5, 7] (envOf [(3, .pt 3 [] 0 0), (5, .ag [.im 3 (a0.Sign_.map c_T_api_Param), .im 2 (a0.Regs_.map c_T_api_Type), .im 5 (a0.Slots_.map c_T_api_Slot), .im 7 (a0.List_.map c_T_api_Inst)]), (7, .ag [I64 a1.Type_.Kind_, I64 a1.Type_.Param_])]) [(3, ⟨5, [[I64 a1.Type_.Kind_, I64 a1.Type_.Param_, Bl a1.Keep_, .sc (.int .u32 a1.Bits_), I64 a1.Int_]]⟩)] (by kernel_rfl) ?_
  refine RG.callP [] [(3, 3)] [3, 8] false [.ag [.im 3 (a0.Sign_.map c_T_api_Param), .im 2 (a0.Regs_.map c_T_api_Type), .im 5 (a0.Slots_.map c_T_api_Slot), .im 7 (a0.List_.map c_T_api_Inst)], .ag [I64 a1.Type_.Kind_, I64 a1.Type_.Param_]] (fun v1 => Bl v1) (fun v1 => []) (fun v1 => envOf [(3, .pt 3 [] 0 0), (8, Bl v1)]) (fun v1 => [(3, ⟨5, [[I64 a1.Type_.Kind_, I64 a1.Type_.Param_, Bl a1.Keep_, .sc (.int .u32 a1.Bits_), I64 a1.Int_]]⟩)]) (by kernel_rfl) hg (by kernel_rfl) (fun v1 hv => CallOk.toG (g31_ok a0 a1.Type_ v1 hv)) (by kernel_rfl) (fun v1 => by kernel_rfl) (fun h => by cases h) (fun v1 hv hg => ?_)
  refine RG.fin 1 [(3, 3)] (envOf [(3, .pt 3 [] 0 0), (9, Bl (!v1))]) [(3, ⟨5, [[I64 a1.Type_.Kind_, I64 a1.Type_.Param_, Bl a1.Keep_, .sc (.int .u32 a1.Bits_), I64 a1.Int_]]⟩)] (by kernel_rfl) ?_
  refine W.condB (b := (!v1)) (by kernel_rfl) hg (fun hg => ?_) (fun hg => ?_)
  · refine W.seq ?_
    refine W.regG ?_
    refine RG.fin 1 [] (envOf [(4, Bl false)]) [] (by kernel_rfl) ?_
    obtain rfl := Option.some.inj hg
    exact W.ret (Ends.of [] (by kernel_rfl))
  refine W.skip ?_
  refine W.seq ?_
  refine W.seq ?_
  refine W.regG ?_
  refine RG.fin 4 [(3, 3)] (envOf [(3, .pt 3 [] 0 0), (13, Bl (a1.Type_.Kind_ == (2)))]) [(3, ⟨5, [[I64 a1.Type_.Kind_, I64 a1.Type_.Param_, Bl a1.Keep_, .sc (.int .u32 a1.Bits_), I64 a1.Int_]]⟩)] (by kernel_rfl) ?_
  refine W.condB (b := (a1.Type_.Kind_ == (2))) (by kernel_rfl) hg (fun hg => ?_) (fun hg => ?_)
  · refine W.seq ?_
    refine W.regG ?_
    refine RG.cut 4 [(3, 3)] [3, 17, 18, 19, 20, 23, 24, 25] (envOf [(3, .pt 3 [] 0 0), (17, Bl (a1.Bits_ == (0))), (18, .un), (19, .un), (20, .un), (23, .un), (24, .un), (25, .un)]) [(3, ⟨5, [[I64 a1.Type_.Kind_, I64 a1.Type_.Param_, Bl a1.Keep_, .sc (.int .u32 a1.Bits_), I64 a1.Int_]]⟩)] (by kernel_rfl) ?_
    refine RG.guard (s := 17) (by kernel_rfl) hg (fun hg => ?_) (fun hg => ?_)
    · refine RG.cut 5 [(3, 3)] [3, 22, 23, 24, 25] (envOf [(3, .pt 3 [] 0 0), (22, Bl (decide (a1.Int_ ≥ (0)))), (23, .un), (24, .un), (25, .un)]) [(3, ⟨5, [[I64 a1.Type_.Kind_, I64 a1.Type_.Param_, Bl a1.Keep_, .sc (.int .u32 a1.Bits_), I64 a1.Int_]]⟩)] (by kernel_rfl) ?_
      refine RG.guard (s := 22) (by kernel_rfl) hg (fun hg => ?_) (fun hg => ?_)
      · refine RG.fin 5 [] (envOf [(4, Bl (decide (a1.Int_ ≤ (2147483647))))]) [] (by kernel_rfl) ?_
        obtain rfl := Option.some.inj hg
        exact W.ret (Ends.of [] (by kernel_rfl))
      refine RG.fin 5 [] (envOf [(4, Bl false)]) [] (by kernel_rfl) ?_
      obtain rfl := Option.some.inj hg
      exact W.ret (Ends.of [] (by kernel_rfl))
    refine RG.fin 10 [] (envOf [(4, Bl false)]) [] (by kernel_rfl) ?_
    obtain rfl := Option.some.inj hg
    exact W.ret (Ends.of [] (by kernel_rfl))
  refine W.skip ?_
  refine W.seq ?_
  refine W.regG ?_
  refine RG.cut 4 [(3, 3)] [3, 30, 31, 32, 33] (envOf [(3, .pt 3 [] 0 0), (30, Bl (a1.Int_ == (0))), (31, .un), (32, .un), (33, .un)]) [(3, ⟨5, [[I64 a1.Type_.Kind_, I64 a1.Type_.Param_, Bl a1.Keep_, .sc (.int .u32 a1.Bits_), I64 a1.Int_]]⟩)] (by kernel_rfl) ?_
  refine RG.guard (s := 30) (by kernel_rfl) hg (fun hg => ?_) (fun hg => ?_)
  · refine RG.cut 2 [] [30, 32, 33] (envOf [(30, Bl true), (32, .sc (.int .u32 a1.Bits_)), (33, .un)]) [] (by kernel_rfl) ?_
    refine RG.callP [] [] [30, 33] false [.sc (.int .u32 a1.Bits_)] (fun v2 => Bl v2) (fun v2 => []) (fun v2 => envOf [(30, Bl true), (33, Bl v2)]) (fun v2 => []) (by kernel_rfl) hg (by kernel_rfl) (fun v2 hv => CallOk.toG (g52_ok a1.Bits_ v2 hv)) (by kernel_rfl) (fun v2 => by kernel_rfl) (fun h => by cases h) (fun v2 hv hg => ?_)
    refine RG.fin 2 [] (envOf [(4, Bl v2)]) [] (by kernel_rfl) ?_
    obtain rfl := Option.some.inj hg
    exact W.ret (Ends.of [] (by kernel_rfl))
  refine RG.fin 5 [] (envOf [(4, Bl false)]) [] (by kernel_rfl) ?_
  obtain rfl := Option.some.inj hg
  exact W.ret (Ends.of [] (by kernel_rfl))
def g33 (a0 : T_api_Slot) (a1_0 : (List T_api_Param)) (a1_1 : (List T_api_Type)) (a1_2 : (List T_api_Slot)) (a1_3 : (List T_api_Inst)) : Option Bool := (g34 (⟨a1_0, a1_1, a1_2, a1_3⟩ : T_api_Code) a0).bind fun v1 => some (!v1)
theorem g33_ok (a0 : T_api_Slot) (a1_0 : (List T_api_Param)) (a1_1 : (List T_api_Type)) (a1_2 : (List T_api_Slot)) (a1_3 : (List T_api_Inst)) (r : Bool) (hg : g33 a0 a1_0 a1_1 a1_2 a1_3 = some r) : CallG Go.Proofs.Try.prog 33 [.ag [I64 a0.Type_.Kind_, I64 a0.Type_.Param_, Bl a0.Keep_, .sc (.int .u32 a0.Bits_), I64 a0.Int_], .pt 200000 [] 0 0] [(200000, ⟨4, [[.im 3 (a1_0.map c_T_api_Param), .im 2 (a1_1.map c_T_api_Type), .im 5 (a1_2.map c_T_api_Slot), .im 7 (a1_3.map c_T_api_Inst)]]⟩)] (Bl r) [(200000, ⟨4, [[.im 3 (a1_0.map c_T_api_Param), .im 2 (a1_1.map c_T_api_Type), .im 5 (a1_2.map c_T_api_Slot), .im 7 (a1_3.map c_T_api_Inst)]]⟩)] := by
  unfold g33 at hg
  refine .of_S [0, 1] (envOf [(0, .ag [I64 a0.Type_.Kind_, I64 a0.Type_.Param_, Bl a0.Keep_, .sc (.int .u32 a0.Bits_), I64 a0.Int_]), (1, .pt 200000 [] 0 0)]) fn33 (by kernel_rfl) ?_
  refine W.seq ?_
  refine W.regG ?_
  refine RG.fin 2 [(2, 2), (200000, 200000)] (envOf [(1, .pt 200000 [] 0 0), (2, .pt 2 [] 0 0)]) [(2, ⟨5, [[I64 a0.Type_.Kind_, I64 a0.Type_.Param_, Bl a0.Keep_, .sc (.int .u32 a0.Bits_), I64 a0.Int_]]⟩), (200000, ⟨4, [[.im 3 (a1_0.map c_T_api_Param), .im 2 (a1_1.map c_T_api_Type), .im 5 (a1_2.map c_T_api_Slot), .im 7 (a1_3.map c_T_api_Inst)]]⟩)] (by kernel_rfl) ?_
  refine W.seq ?_
  refine W.regG ?_
  refine RG.cut 2 [(200000, 200000)] [4, 5] (envOf [(4, .ag [.im 3 (a1_0.map c_T_api_Param), .im 2 (a1_1.map c_T_api_Type), .im 5 (a1_2.map c_T_api_Slot), .im 7 (a1_3.map c_T_api_Inst)]), (5, .ag [I64 a0.Type_.Kind_, I64 a0.Type_.Param_, Bl a0.Keep_, .sc (.int .u32 a0.Bits_), I64 a0.Int_])]) [(200000, ⟨4, [[.im 3 (a1_0.map c_T_api_Param), .im 2 (a1_1.map c_T_api_Type), .im 5 (a1_2.map c_T_api_Slot), .im 7 (a1_3.map c_T_api_Inst)]]⟩)] (by kernel_rfl) ?_
  refine RG.callP [] [(200000, 200000)] [6] false [.ag [.im 3 (((⟨a1_0, a1_1, a1_2, a1_3⟩ : T_api_Code).Sign_).map c_T_api_Param), .im 2 (((⟨a1_0, a1_1, a1_2, a1_3⟩ : T_api_Code).Regs_).map c_T_api_Type), .im 5 (((⟨a1_0, a1_1, a1_2, a1_3⟩ : T_api_Code).Slots_).map c_T_api_Slot), .im 7 (((⟨a1_0, a1_1, a1_2, a1_3⟩ : T_api_Code).List_).map c_T_api_Inst)], .ag [I64 a0.Type_.Kind_, I64 a0.Type_.Param_, Bl a0.Keep_, .sc (.int .u32 a0.Bits_), I64 a0.Int_]] (fun v1 => Bl v1) (fun v1 => []) (fun v1 => envOf [(6, Bl v1)]) (fun v1 => [(200000, ⟨4, [[.im 3 (a1_0.map c_T_api_Param), .im 2 (a1_1.map c_T_api_Type), .im 5 (a1_2.map c_T_api_Slot), .im 7 (a1_3.map c_T_api_Inst)]]⟩)]) (by kernel_rfl) hg (by kernel_rfl) (fun v1 hv => CallOk.toG (g34_ok (⟨a1_0, a1_1, a1_2, a1_3⟩ : T_api_Code) a0 v1 hv)) (by kernel_rfl) (fun v1 => by kernel_rfl) (fun h => by cases h) (fun v1 hv hg => ?_)
  refine RG.fin 2 [(200000, 200000)] (envOf [(3, Bl (!v1))]) [(200000, ⟨4, [[.im 3 (a1_0.map c_T_api_Param), .im 2 (a1_1.map c_T_api_Type), .im 5 (a1_2.map c_T_api_Slot), .im 7 (a1_3.map c_T_api_Inst)]]⟩)] (by kernel_rfl) ?_
  obtain rfl := Option.some.inj hg
  exact W.ret (Ends.of [(200000, 200000)] (by kernel_rfl))
def g51_b1 (n : Nat) (a0 : (List T_api_Slot)) (a1_0_0 : (List T_api_Param)) (a1_0_1 : (List T_api_Type)) (a1_0_2 : (List T_api_Slot)) (a1_0_3 : (List T_api_Inst)) (s1 : Int) : Option (Bo Int (Int × Bool) Int) := bif (decide (s1 < ((a0.map c_T_api_Slot).length : Int))) then (idx a0 s1).bind fun y2 => (g33 y2 a1_0_0 a1_0_1 a1_0_2 a1_0_3).bind fun v2 => bif v2 then some (.ret s1) else some (.go (IntKind.i64.wrap (s1 + (1)))) else some (.out (s1, (decide (s1 < ((a0.map c_T_api_Slot).length : Int)))))
def g51 (n : Nat) (a0 : (List T_api_Slot)) (a1_0_0 : (List T_api_Param)) (a1_0_1 : (List T_api_Type)) (a1_0_2 : (List T_api_Slot)) (a1_0_3 : (List T_api_Inst)) : Option Int := (iter (g51_b1 n a0 a1_0_0 a1_0_1 a1_0_2 a1_0_3) n (0)).bind (Bo.then (fun t1 => some (-1)) some)
theorem g51_ok (n : Nat) (a0 : (List T_api_Slot)) (a1_0_0 : (List T_api_Param)) (a1_0_1 : (List T_api_Type)) (a1_0_2 : (List T_api_Slot)) (a1_0_3 : (List T_api_Inst)) (r : Int) (hg : g51 n a0 a1_0_0 a1_0_1 a1_0_2 a1_0_3 = some r) : CallG Go.Proofs.Try.prog 51 [.im 5 (a0.map c_T_api_Slot), .fn 33 [.pt 200000 [] 0 0]] [(200000, ⟨4, [[.im 3 (a1_0_0.map c_T_api_Param), .im 2 (a1_0_1.map c_T_api_Type), .im 5 (a1_0_2.map c_T_api_Slot), .im 7 (a1_0_3.map c_T_api_Inst)]]⟩)] (I64 r) [(200000, ⟨4, [[.im 3 (a1_0_0.map c_T_api_Param), .im 2 (a1_0_1.map c_T_api_Type), .im 5 (a1_0_2.map c_T_api_Slot), .im 7 (a1_0_3.map c_T_api_Inst)]]⟩)] := by
  unfold g51 at hg
  refine .of_S [0, 1] (envOf [(0, .im 5 (a0.map c_T_api_Slot)), (1, .fn 33 [.pt 200000 [] 0 0])]) fn51 (by kernel_rfl) ?_
  refine W.seq ?_
  refine W.regG ?_
  refine RG.fin 1 [(200000, 200000)] (envOf [(0, .im 5 (a0.map c_T_api_Slot)), (1, .fn 33 [.pt 200000 [] 0 0])]) [(200000, ⟨4, [[.im 3 (a1_0_0.map c_T_api_Param), .im 2 (a1_0_1.map c_T_api_Type), .im 5 (a1_0_2.map c_T_api_Slot), .im 7 (a1_0_3.map c_T_api_Inst)]]⟩)] (by kernel_rfl) ?_
  refine W.seq ?_
  refine W.seq ?_
  refine W.regG ?_
  refine RG.fin 3 [(200000, 200000)] (envOf [(0, .im 5 (a0.map c_T_api_Slot)), (1, .fn 33 [.pt 200000 [] 0 0]), (7, I64 ((a0.map c_T_api_Slot).length : Int)), (8, I64 (0))]) [(200000, ⟨4, [[.im 3 (a1_0_0.map c_T_api_Param), .im 2 (a1_0_1.map c_T_api_Type), .im 5 (a1_0_2.map c_T_api_Slot), .im 7 (a1_0_3.map c_T_api_Inst)]]⟩)] (by kernel_rfl) ?_
  refine W.norm [(200000, 200000)] [0, 1, 7, 8] (envOf [(0, .im 5 (a0.map c_T_api_Slot)), (1, .fn 33 [.pt 200000 [] 0 0]), (7, I64 ((a0.map c_T_api_Slot).length : Int)), (8, I64 (0))]) [(200000, ⟨4, [[.im 3 (a1_0_0.map c_T_api_Param), .im 2 (a1_0_1.map c_T_api_Type), .im 5 (a1_0_2.map c_T_api_Slot), .im 7 (a1_0_3.map c_T_api_Inst)]]⟩)] (by kernel_rfl) ?_
  refine W.loopB (fun s1 : Int => envOf [(0, .im 5 (a0.map c_T_api_Slot)), (1, .fn 33 [.pt 200000 [] 0 0]), (7, I64 ((a0.map c_T_api_Slot).length : Int)), (8, I64 s1)]) (fun s1 : Int => [(200000, ⟨4, [[.im 3 (a1_0_0.map c_T_api_Param), .im 2 (a1_0_1.map c_T_api_Type), .im 5 (a1_0_2.map c_T_api_Slot), .im 7 (a1_0_3.map c_T_api_Inst)]]⟩)]) (fun t1 : Int × Bool => envOf [(0, .im 5 (a0.map c_T_api_Slot)), (1, .fn 33 [.pt 200000 [] 0 0]), (7, I64 ((a0.map c_T_api_Slot).length : Int)), (8, I64 t1.1), (9, Bl t1.2)]) (fun t1 : Int × Bool => [(200000, ⟨4, [[.im 3 (a1_0_0.map c_T_api_Param), .im 2 (a1_0_1.map c_T_api_Type), .im 5 (a1_0_2.map c_T_api_Slot), .im 7 (a1_0_3.map c_T_api_Inst)]]⟩)]) (fun (r : Int) e h => Ends [.t 4] [(200000, ⟨4, [[.im 3 (a1_0_0.map c_T_api_Param), .im 2 (a1_0_1.map c_T_api_Type), .im 5 (a1_0_2.map c_T_api_Slot), .im 7 (a1_0_3.map c_T_api_Inst)]]⟩)] (I64 r) [(200000, ⟨4, [[.im 3 (a1_0_0.map c_T_api_Param), .im 2 (a1_0_1.map c_T_api_Type), .im 5 (a1_0_2.map c_T_api_Slot), .im 7 (a1_0_3.map c_T_api_Inst)]]⟩)] .ret e h) hg (by kernel_rfl) (by kernel_rfl) (fun s1 bb hg => ?_) (fun r' hr e h q => by cases hr; exact q) (fun t1 hg => ?_)
  · unfold g51_b1 at hg
    refine W.seq ?_
    refine W.regG ?_
    refine RG.fin 1 [(200000, 200000)] (envOf [(0, .im 5 (a0.map c_T_api_Slot)), (1, .fn 33 [.pt 200000 [] 0 0]), (7, I64 ((a0.map c_T_api_Slot).length : Int)), (8, I64 s1), (9, Bl (decide (s1 < ((a0.map c_T_api_Slot).length : Int))))]) [(200000, ⟨4, [[.im 3 (a1_0_0.map c_T_api_Param), .im 2 (a1_0_1.map c_T_api_Type), .im 5 (a1_0_2.map c_T_api_Slot), .im 7 (a1_0_3.map c_T_api_Inst)]]⟩)] (by kernel_rfl) ?_
    refine W.seq ?_
    refine W.condB (b := (decide (s1 < ((a0.map c_T_api_Slot).length : Int)))) (by kernel_rfl) hg (fun hg => ?_) (fun hg => ?_)
    · refine W.skip ?_
      refine W.seq ?_
      refine W.block ?_
      refine W.seq ?_
      refine W.regG ?_
      refine RG.fin 2 [(200000, 200000)] (envOf [(0, .im 5 (a0.map c_T_api_Slot)), (1, .fn 33 [.pt 200000 [] 0 0]), (5, I64 s1), (7, I64 ((a0.map c_T_api_Slot).length : Int)), (8, I64 s1)]) [(200000, ⟨4, [[.im 3 (a1_0_0.map c_T_api_Param), .im 2 (a1_0_1.map c_T_api_Type), .im 5 (a1_0_2.map c_T_api_Slot), .im 7 (a1_0_3.map c_T_api_Inst)]]⟩)] (by kernel_rfl) ?_
      refine W.seq ?_
      refine W.regG ?_
      refine RG.cut 3 [(200000, 200000)] [0, 1, 5, 7, 8, 11, 12, 13] (envOf [(0, .im 5 (a0.map c_T_api_Slot)), (1, .fn 33 [.pt 200000 [] 0 0]), (5, I64 s1), (7, I64 ((a0.map c_T_api_Slot).length : Int)), (8, I64 s1), (11, .fn 33 [.pt 200000 [] 0 0]), (12, .im 5 (a0.map c_T_api_Slot)), (13, I64 s1)]) [(200000, ⟨4, [[.im 3 (a1_0_0.map c_T_api_Param), .im 2 (a1_0_1.map c_T_api_Type), .im 5 (a1_0_2.map c_T_api_Slot), .im 7 (a1_0_3.map c_T_api_Inst)]]⟩)] (by kernel_rfl) ?_
      refine RG.iadIm (c := c_T_api_Slot) (xs := a0) (i := s1) (k := .i64) (by kernel_rfl) (by kernel_rfl) (by kernel_rfl) hg (fun y2 _ hg => ?_)
      refine RG.cut 1 [(200000, 200000)] [0, 1, 5, 7, 8, 11, 15] (envOf [(0, .im 5 (a0.map c_T_api_Slot)), (1, .fn 33 [.pt 200000 [] 0 0]), (5, I64 s1), (7, I64 ((a0.map c_T_api_Slot).length : Int)), (8, I64 s1), (11, .fn 33 [.pt 200000 [] 0 0]), (15, .ag [I64 y2.Type_.Kind_, I64 y2.Type_.Param_, Bl y2.Keep_, .sc (.int .u32 y2.Bits_), I64 y2.Int_])]) [(200000, ⟨4, [[.im 3 (a1_0_0.map c_T_api_Param), .im 2 (a1_0_1.map c_T_api_Type), .im 5 (a1_0_2.map c_T_api_Slot), .im 7 (a1_0_3.map c_T_api_Inst)]]⟩)] (by kernel_rfl) ?_
      refine RG.callv (f := 33) (caps := [.pt 200000 [] 0 0]) [(200000, 200000)] [(200000, 200000)] [(200000, 200000)] [0, 1, 5, 7, 8, 16] false [.ag [I64 y2.Type_.Kind_, I64 y2.Type_.Param_, Bl y2.Keep_, .sc (.int .u32 y2.Bits_), I64 y2.Int_], .pt 200000 [] 0 0] [(200000, ⟨4, [[.im 3 (a1_0_0.map c_T_api_Param), .im 2 (a1_0_1.map c_T_api_Type), .im 5 (a1_0_2.map c_T_api_Slot), .im 7 (a1_0_3.map c_T_api_Inst)]]⟩)] [] (fun v2 => Bl v2) (fun v2 => [(200000, ⟨4, [[.im 3 (a1_0_0.map c_T_api_Param), .im 2 (a1_0_1.map c_T_api_Type), .im 5 (a1_0_2.map c_T_api_Slot), .im 7 (a1_0_3.map c_T_api_Inst)]]⟩)]) (fun v2 => envOf [(0, .im 5 (a0.map c_T_api_Slot)), (1, .fn 33 [.pt 200000 [] 0 0]), (5, I64 s1), (7, I64 ((a0.map c_T_api_Slot).length : Int)), (8, I64 s1), (16, Bl v2)]) (fun v2 => [(200000, ⟨4, [[.im 3 (a1_0_0.map c_T_api_Param), .im 2 (a1_0_1.map c_T_api_Type), .im 5 (a1_0_2.map c_T_api_Slot), .im 7 (a1_0_3.map c_T_api_Inst)]]⟩)]) (by kernel_rfl) (by kernel_rfl) (by kernel_rfl) hg (by kernel_rfl) (by kernel_rfl) (fun v2 hv => g33_ok y2 a1_0_0 a1_0_1 a1_0_2 a1_0_3 v2 hv) (by kernel_rfl) (fun v2 => by kernel_rfl) (fun h => by cases h) (fun v2 hv hg => ?_)
      refine RG.fin 0 [(200000, 200000)] (envOf [(0, .im 5 (a0.map c_T_api_Slot)), (1, .fn 33 [.pt 200000 [] 0 0]), (5, I64 s1), (7, I64 ((a0.map c_T_api_Slot).length : Int)), (8, I64 s1), (16, Bl v2)]) [(200000, ⟨4, [[.im 3 (a1_0_0.map c_T_api_Param), .im 2 (a1_0_1.map c_T_api_Type), .im 5 (a1_0_2.map c_T_api_Slot), .im 7 (a1_0_3.map c_T_api_Inst)]]⟩)] (by kernel_rfl) ?_
      refine W.condB (b := v2) (by kernel_rfl) hg (fun hg => ?_) (fun hg => ?_)
      · refine W.seq ?_
        refine W.regG ?_
        refine RG.fin 2 [(200000, 200000)] (envOf [(4, I64 s1)]) [(200000, ⟨4, [[.im 3 (a1_0_0.map c_T_api_Param), .im 2 (a1_0_1.map c_T_api_Type), .im 5 (a1_0_2.map c_T_api_Slot), .im 7 (a1_0_3.map c_T_api_Inst)]]⟩)] (by kernel_rfl) ?_
        obtain rfl := Option.some.inj hg
        exact W.ret ⟨rfl, Ends.of [(200000, 200000)] (by kernel_rfl)⟩
      refine W.skip ?_
      refine W.regG ?_
      refine RG.fin 2 [(200000, 200000)] (envOf [(0, .im 5 (a0.map c_T_api_Slot)), (1, .fn 33 [.pt 200000 [] 0 0]), (7, I64 ((a0.map c_T_api_Slot).length : Int)), (8, I64 (IntKind.i64.wrap (s1 + (1))))]) [(200000, ⟨4, [[.im 3 (a1_0_0.map c_T_api_Param), .im 2 (a1_0_1.map c_T_api_Type), .im 5 (a1_0_2.map c_T_api_Slot), .im 7 (a1_0_3.map c_T_api_Inst)]]⟩)] (by kernel_rfl) ?_
      obtain rfl := Option.some.inj hg
      exact ⟨rfl, by kernel_rfl, by kernel_rfl⟩
    refine W.norm [(200000, 200000)] [0, 1, 7, 8, 9] (envOf [(0, .im 5 (a0.map c_T_api_Slot)), (1, .fn 33 [.pt 200000 [] 0 0]), (7, I64 ((a0.map c_T_api_Slot).length : Int)), (8, I64 s1), (9, Bl (decide (s1 < ((a0.map c_T_api_Slot).length : Int))))]) [(200000, ⟨4, [[.im 3 (a1_0_0.map c_T_api_Param), .im 2 (a1_0_1.map c_T_api_Type), .im 5 (a1_0_2.map c_T_api_Slot), .im 7 (a1_0_3.map c_T_api_Inst)]]⟩)] (by kernel_rfl) ?_
    refine W.exit ?_
    obtain rfl := Option.some.inj hg
    exact ⟨rfl, by kernel_rfl, by kernel_rfl⟩
  refine W.seq ?_
  refine W.regG ?_
  refine RG.fin 1 [(200000, 200000)] (envOf [(4, I64 (-1))]) [(200000, ⟨4, [[.im 3 (a1_0_0.map c_T_api_Param), .im 2 (a1_0_1.map c_T_api_Type), .im 5 (a1_0_2.map c_T_api_Slot), .im 7 (a1_0_3.map c_T_api_Inst)]]⟩)] (by kernel_rfl) ?_
  obtain rfl := Option.some.inj hg
  exact W.ret (Ends.of [(200000, 200000)] (by kernel_rfl))
def g32 (n : Nat) (a0 : (List T_api_Slot)) (a1_0_0 : (List T_api_Param)) (a1_0_1 : (List T_api_Type)) (a1_0_2 : (List T_api_Slot)) (a1_0_3 : (List T_api_Inst)) : Option Bool := (g51 n a0 a1_0_0 a1_0_1 a1_0_2 a1_0_3).bind fun v1 => some (decide (v1 ≥ (0)))
theorem g32_ok (n : Nat) (a0 : (List T_api_Slot)) (a1_0_0 : (List T_api_Param)) (a1_0_1 : (List T_api_Type)) (a1_0_2 : (List T_api_Slot)) (a1_0_3 : (List T_api_Inst)) (r : Bool) (hg : g32 n a0 a1_0_0 a1_0_1 a1_0_2 a1_0_3 = some r) : CallG Go.Proofs.Try.prog 32 [.im 5 (a0.map c_T_api_Slot), .fn 33 [.pt 200000 [] 0 0]] [(200000, ⟨4, [[.im 3 (a1_0_0.map c_T_api_Param), .im 2 (a1_0_1.map c_T_api_Type), .im 5 (a1_0_2.map c_T_api_Slot), .im 7 (a1_0_3.map c_T_api_Inst)]]⟩)] (Bl r) [(200000, ⟨4, [[.im 3 (a1_0_0.map c_T_api_Param), .im 2 (a1_0_1.map c_T_api_Type), .im 5 (a1_0_2.map c_T_api_Slot), .im 7 (a1_0_3.map c_T_api_Inst)]]⟩)] := by
  unfold g32 at hg
  refine .of_S [0, 1] (envOf [(0, .im 5 (a0.map c_T_api_Slot)), (1, .fn 33 [.pt 200000 [] 0 0])]) fn32 (by kernel_rfl) ?_
  refine W.seq ?_
  refine W.regG ?_
  refine RG.fin 1 [(200000, 200000)] (envOf [(0, .im 5 (a0.map c_T_api_Slot)), (1, .fn 33 [.pt 200000 [] 0 0])]) [(200000, ⟨4, [[.im 3 (a1_0_0.map c_T_api_Param), .im 2 (a1_0_1.map c_T_api_Type), .im 5 (a1_0_2.map c_T_api_Slot), .im 7 (a1_0_3.map c_T_api_Inst)]]⟩)] (by kernel_rfl) ?_
  refine W.seq ?_
  refine W.regG ?_
  refine RG.cut 2 [(200000, 200000)] [5, 6] (envOf [(5, .im 5 (a0.map c_T_api_Slot)), (6, .fn 33 [.pt 200000 [] 0 0])]) [(200000, ⟨4, [[.im 3 (a1_0_0.map c_T_api_Param), .im 2 (a1_0_1.map c_T_api_Type), .im 5 (a1_0_2.map c_T_api_Slot), .im 7 (a1_0_3.map c_T_api_Inst)]]⟩)] (by kernel_rfl) ?_
  refine RG.call [(200000, 200000)] [(200000, 200000)] [(200000, 200000)] [7] false [.im 5 (a0.map c_T_api_Slot), .fn 33 [.pt 200000 [] 0 0]] [(200000, ⟨4, [[.im 3 (a1_0_0.map c_T_api_Param), .im 2 (a1_0_1.map c_T_api_Type), .im 5 (a1_0_2.map c_T_api_Slot), .im 7 (a1_0_3.map c_T_api_Inst)]]⟩)] [] (fun v1 => I64 v1) (fun v1 => [(200000, ⟨4, [[.im 3 (a1_0_0.map c_T_api_Param), .im 2 (a1_0_1.map c_T_api_Type), .im 5 (a1_0_2.map c_T_api_Slot), .im 7 (a1_0_3.map c_T_api_Inst)]]⟩)]) (fun v1 => envOf [(7, I64 v1)]) (fun v1 => [(200000, ⟨4, [[.im 3 (a1_0_0.map c_T_api_Param), .im 2 (a1_0_1.map c_T_api_Type), .im 5 (a1_0_2.map c_T_api_Slot), .im 7 (a1_0_3.map c_T_api_Inst)]]⟩)]) (by kernel_rfl) hg (by kernel_rfl) (by kernel_rfl) (fun v1 hv => g51_ok n a0 a1_0_0 a1_0_1 a1_0_2 a1_0_3 v1 hv) (by kernel_rfl) (fun v1 => by kernel_rfl) (fun h => by cases h) (fun v1 hv hg => ?_)
  refine RG.fin 2 [(200000, 200000)] (envOf [(4, Bl (decide (v1 ≥ (0))))]) [(200000, ⟨4, [[.im 3 (a1_0_0.map c_T_api_Param), .im 2 (a1_0_1.map c_T_api_Type), .im 5 (a1_0_2.map c_T_api_Slot), .im 7 (a1_0_3.map c_T_api_Inst)]]⟩)] (by kernel_rfl) ?_
  obtain rfl := Option.some.inj hg
  exact W.ret (Ends.of [(200000, 200000)] (by kernel_rfl))
def g26 (a0 : Int) : Option (T_ir_row × Bool) := bif (a0 == (1)) then some ((⟨(1), (0), (0), (0), (0)⟩ : T_ir_row), true) else bif (a0 == (2)) then some ((⟨(2), (0), (0), (0), (1)⟩ : T_ir_row), true) else bif (a0 == (3)) then some ((⟨(8), (7), (0), (0), (0)⟩ : T_ir_row), true) else joinJ (fun p1 : Bool => bif p1 then some ((⟨(4), (5), (5), (0), (0)⟩ : T_ir_row), true) else joinJ (fun p2 : Bool => bif p2 then some ((⟨(4), (5), (0), (0), (0)⟩ : T_ir_row), true) else bif (a0 == (15)) then some ((⟨(4), (5), (5), (5), (0)⟩ : T_ir_row), true) else bif (a0 == (16)) then some ((⟨(1), (1), (2), (0), (0)⟩ : T_ir_row), true) else bif (a0 == (17)) then some ((⟨(1), (2), (0), (0), (0)⟩ : T_ir_row), true) else bif (a0 == (18)) then some ((⟨(2), (1), (0), (0), (0)⟩ : T_ir_row), true) else joinJ (fun p3 : Bool => bif p3 then some ((⟨(1), (3), (0), (0), (0)⟩ : T_ir_row), true) else joinJ (fun p4 : Bool => bif p4 then some ((⟨(2), (2), (0), (0), (0)⟩ : T_ir_row), true) else joinJ (fun p5 : Bool => bif p5 then some ((⟨(2), (2), (2), (0), (0)⟩ : T_ir_row), true) else bif (a0 == (26)) then some ((⟨(2), (2), (2), (2), (0)⟩ : T_ir_row), true) else joinJ (fun p6 : Bool => bif p6 then some ((⟨(3), (0), (0), (0), (2)⟩ : T_ir_row), true) else bif (a0 == (31)) then some ((⟨(0), (3), (0), (0), (2)⟩ : T_ir_row), true) else bif (a0 == (32)) then some ((⟨(8), (0), (0), (0), (3)⟩ : T_ir_row), true) else bif (a0 == (33)) then some ((⟨(0), (8), (0), (0), (3)⟩ : T_ir_row), true) else bif (a0 == (34)) then some ((⟨(0), (2), (0), (0), (0)⟩ : T_ir_row), true) else bif (a0 == (36)) then some ((⟨(0), (0), (0), (0), (4)⟩ : T_ir_row), true) else bif (a0 == (35)) then bif (a0 == (35)) then some ((⟨(0), (0), (0), (0), (0)⟩ : T_ir_row), true) else some ((⟨(0), (0), (0), (0), (0)⟩ : T_ir_row), false) else bif (a0 == (37)) then some ((⟨(0), (0), (0), (0), (0)⟩ : T_ir_row), true) else some ((⟨(0), (0), (0), (0), (0)⟩ : T_ir_row), false)) fun J6 => bif (a0 == (29)) then J6 (a0 == (29)) else J6 (a0 == (30))) fun J5 => bif (a0 == (22)) then J5 (a0 == (22)) else bif (a0 == (23)) then J5 (a0 == (23)) else bif (a0 == (24)) then J5 (a0 == (24)) else bif (a0 == (27)) then J5 (a0 == (27)) else J5 (a0 == (28))) fun J4 => bif (a0 == (21)) then J4 (a0 == (21)) else J4 (a0 == (25))) fun J3 => bif (a0 == (19)) then J3 (a0 == (19)) else J3 (a0 == (20))) fun J2 => bif (a0 == (11)) then J2 (a0 == (11)) else bif (a0 == (12)) then J2 (a0 == (12)) else bif (a0 == (13)) then J2 (a0 == (13)) else J2 (a0 == (14))) fun J1 => bif (a0 == (4)) then J1 (a0 == (4)) else bif (a0 == (5)) then J1 (a0 == (5)) else bif (a0 == (6)) then J1 (a0 == (6)) else bif (a0 == (7)) then J1 (a0 == (7)) else bif (a0 == (8)) then J1 (a0 == (8)) else bif (a0 == (9)) then J1 (a0 == (9)) else J1 (a0 == (10))
theorem g26_ok (a0 : Int) (r : T_ir_row × Bool) (hg : g26 a0 = some r) : CallOk Go.Proofs.Try.prog 26 [I64 a0] [] (.tu [.ag [I64 r.1.d_, I64 r.1.a_, I64 r.1.b_, I64 r.1.c_, I64 r.1.n_], Bl r.2]) [] := by
  unfold g26 at hg
  refine CallG.narrow ?_ (by kernel_rfl) (by kernel_rfl)
  refine .of_S [0] (envOf [(0, I64 a0)]) fn26 (by kernel_rfl) ?_
  refine W.seq ?_
  refine W.regG ?_
  refine RG.fin 2 [(2, 2)] (envOf [(0, I64 a0), (2, .pt 2 [] 0 0)]) [(2, ⟨5, [[I64 (0), I64 (0), I64 (0), I64 (0), I64 (0)]]⟩)] (by kernel_rfl) ?_
  refine W.seq ?_
  refine W.seq ?_
  refine W.regG ?_
  refine RG.fin 1 [(2, 2)] (envOf [(2, .pt 2 [] 0 0), (4, I64 a0)]) [(2, ⟨5, [[I64 (0), I64 (0), I64 (0), I64 (0), I64 (0)]]⟩)] (by kernel_rfl) ?_
  refine W.block ?_
  refine W.seq ?_
  refine W.regG ?_
  refine RG.fin 2 [(2, 2)] (envOf [(2, .pt 2 [] 0 0), (4, I64 a0), (5, Bl (a0 == (1)))]) [(2, ⟨5, [[I64 (0), I64 (0), I64 (0), I64 (0), I64 (0)]]⟩)] (by kernel_rfl) ?_
  refine W.condB (b := (a0 == (1))) (by kernel_rfl) hg (fun hg => ?_) (fun hg => ?_)
  · refine W.seq ?_
    refine W.regG ?_
    refine RG.fin 3 [(2, 2)] (envOf [(2, .pt 2 [] 0 0), (3, Bl true)]) [(2, ⟨5, [[I64 (1), I64 (0), I64 (0), I64 (0), I64 (0)]]⟩)] (by kernel_rfl) ?_
    obtain rfl := Option.some.inj hg
    exact W.ret (Ends.of [] (by kernel_rfl))
  refine W.seq ?_
  refine W.regG ?_
  refine RG.fin 2 [(2, 2)] (envOf [(2, .pt 2 [] 0 0), (4, I64 a0), (8, Bl (a0 == (2)))]) [(2, ⟨5, [[I64 (0), I64 (0), I64 (0), I64 (0), I64 (0)]]⟩)] (by kernel_rfl) ?_
  refine W.condB (b := (a0 == (2))) (by kernel_rfl) hg (fun hg => ?_) (fun hg => ?_)
  · refine W.seq ?_
    refine W.regG ?_
    refine RG.fin 3 [(2, 2)] (envOf [(2, .pt 2 [] 0 0), (3, Bl true)]) [(2, ⟨5, [[I64 (2), I64 (0), I64 (0), I64 (0), I64 (1)]]⟩)] (by kernel_rfl) ?_
    obtain rfl := Option.some.inj hg
    exact W.ret (Ends.of [] (by kernel_rfl))
  refine W.seq ?_
  refine W.regG ?_
  refine RG.fin 2 [(2, 2)] (envOf [(2, .pt 2 [] 0 0), (4, I64 a0), (11, Bl (a0 == (3)))]) [(2, ⟨5, [[I64 (0), I64 (0), I64 (0), I64 (0), I64 (0)]]⟩)] (by kernel_rfl) ?_
  refine W.condB (b := (a0 == (3))) (by kernel_rfl) hg (fun hg => ?_) (fun hg => ?_)
  · refine W.seq ?_
    refine W.regG ?_
    refine RG.fin 3 [(2, 2)] (envOf [(2, .pt 2 [] 0 0), (3, Bl true)]) [(2, ⟨5, [[I64 (8), I64 (7), I64 (0), I64 (0), I64 (0)]]⟩)] (by kernel_rfl) ?_
    obtain rfl := Option.some.inj hg
    exact W.ret (Ends.of [] (by kernel_rfl))
  refine W.seqJ (fun p1 : Bool => envOf [(2, .pt 2 [] 0 0), (4, I64 a0), (14, Bl p1)]) (fun p1 : Bool => [(2, ⟨5, [[I64 (0), I64 (0), I64 (0), I64 (0), I64 (0)]]⟩)]) hg (fun p1 hg => ?_) (fun hg => ?_)
  · refine W.condB (b := p1) (by kernel_rfl) hg (fun hg => ?_) (fun hg => ?_)
    · refine W.seq ?_
      refine W.regG ?_
      refine RG.fin 3 [(2, 2)] (envOf [(2, .pt 2 [] 0 0), (3, Bl true)]) [(2, ⟨5, [[I64 (4), I64 (5), I64 (5), I64 (0), I64 (0)]]⟩)] (by kernel_rfl) ?_
      obtain rfl := Option.some.inj hg
      exact W.ret (Ends.of [] (by kernel_rfl))
    refine W.seqJ (fun p2 : Bool => envOf [(2, .pt 2 [] 0 0), (4, I64 a0), (23, Bl p2)]) (fun p2 : Bool => [(2, ⟨5, [[I64 (0), I64 (0), I64 (0), I64 (0), I64 (0)]]⟩)]) hg (fun p2 hg => ?_) (fun hg => ?_)
    · refine W.condB (b := p2) (by kernel_rfl) hg (fun hg => ?_) (fun hg => ?_)
      · refine W.seq ?_
        refine W.regG ?_
        refine RG.fin 3 [(2, 2)] (envOf [(2, .pt 2 [] 0 0), (3, Bl true)]) [(2, ⟨5, [[I64 (4), I64 (5), I64 (0), I64 (0), I64 (0)]]⟩)] (by kernel_rfl) ?_
        obtain rfl := Option.some.inj hg
        exact W.ret (Ends.of [] (by kernel_rfl))
      refine W.seq ?_
      refine W.regG ?_
      refine RG.fin 2 [(2, 2)] (envOf [(2, .pt 2 [] 0 0), (4, I64 a0), (29, Bl (a0 == (15)))]) [(2, ⟨5, [[I64 (0), I64 (0), I64 (0), I64 (0), I64 (0)]]⟩)] (by kernel_rfl) ?_
      refine W.condB (b := (a0 == (15))) (by kernel_rfl) hg (fun hg => ?_) (fun hg => ?_)
      · refine W.seq ?_
        refine W.regG ?_
        refine RG.fin 3 [(2, 2)] (envOf [(2, .pt 2 [] 0 0), (3, Bl true)]) [(2, ⟨5, [[I64 (4), I64 (5), I64 (5), I64 (5), I64 (0)]]⟩)] (by kernel_rfl) ?_
        obtain rfl := Option.some.inj hg
        exact W.ret (Ends.of [] (by kernel_rfl))
      refine W.seq ?_
      refine W.regG ?_
      refine RG.fin 2 [(2, 2)] (envOf [(2, .pt 2 [] 0 0), (4, I64 a0), (32, Bl (a0 == (16)))]) [(2, ⟨5, [[I64 (0), I64 (0), I64 (0), I64 (0), I64 (0)]]⟩)] (by kernel_rfl) ?_
      refine W.condB (b := (a0 == (16))) (by kernel_rfl) hg (fun hg => ?_) (fun hg => ?_)
      · refine W.seq ?_
        refine W.regG ?_
        refine RG.fin 3 [(2, 2)] (envOf [(2, .pt 2 [] 0 0), (3, Bl true)]) [(2, ⟨5, [[I64 (1), I64 (1), I64 (2), I64 (0), I64 (0)]]⟩)] (by kernel_rfl) ?_
        obtain rfl := Option.some.inj hg
        exact W.ret (Ends.of [] (by kernel_rfl))
      refine W.seq ?_
      refine W.regG ?_
      refine RG.fin 2 [(2, 2)] (envOf [(2, .pt 2 [] 0 0), (4, I64 a0), (35, Bl (a0 == (17)))]) [(2, ⟨5, [[I64 (0), I64 (0), I64 (0), I64 (0), I64 (0)]]⟩)] (by kernel_rfl) ?_
      refine W.condB (b := (a0 == (17))) (by kernel_rfl) hg (fun hg => ?_) (fun hg => ?_)
      · refine W.seq ?_
        refine W.regG ?_
        refine RG.fin 3 [(2, 2)] (envOf [(2, .pt 2 [] 0 0), (3, Bl true)]) [(2, ⟨5, [[I64 (1), I64 (2), I64 (0), I64 (0), I64 (0)]]⟩)] (by kernel_rfl) ?_
        obtain rfl := Option.some.inj hg
        exact W.ret (Ends.of [] (by kernel_rfl))
      refine W.seq ?_
      refine W.regG ?_
      refine RG.fin 2 [(2, 2)] (envOf [(2, .pt 2 [] 0 0), (4, I64 a0), (38, Bl (a0 == (18)))]) [(2, ⟨5, [[I64 (0), I64 (0), I64 (0), I64 (0), I64 (0)]]⟩)] (by kernel_rfl) ?_
      refine W.condB (b := (a0 == (18))) (by kernel_rfl) hg (fun hg => ?_) (fun hg => ?_)
      · refine W.seq ?_
        refine W.regG ?_
        refine RG.fin 3 [(2, 2)] (envOf [(2, .pt 2 [] 0 0), (3, Bl true)]) [(2, ⟨5, [[I64 (2), I64 (1), I64 (0), I64 (0), I64 (0)]]⟩)] (by kernel_rfl) ?_
        obtain rfl := Option.some.inj hg
        exact W.ret (Ends.of [] (by kernel_rfl))
      refine W.seqJ (fun p3 : Bool => envOf [(2, .pt 2 [] 0 0), (4, I64 a0), (41, Bl p3)]) (fun p3 : Bool => [(2, ⟨5, [[I64 (0), I64 (0), I64 (0), I64 (0), I64 (0)]]⟩)]) hg (fun p3 hg => ?_) (fun hg => ?_)
      · refine W.condB (b := p3) (by kernel_rfl) hg (fun hg => ?_) (fun hg => ?_)
        · refine W.seq ?_
          refine W.regG ?_
          refine RG.fin 3 [(2, 2)] (envOf [(2, .pt 2 [] 0 0), (3, Bl true)]) [(2, ⟨5, [[I64 (1), I64 (3), I64 (0), I64 (0), I64 (0)]]⟩)] (by kernel_rfl) ?_
          obtain rfl := Option.some.inj hg
          exact W.ret (Ends.of [] (by kernel_rfl))
        refine W.seqJ (fun p4 : Bool => envOf [(2, .pt 2 [] 0 0), (4, I64 a0), (45, Bl p4)]) (fun p4 : Bool => [(2, ⟨5, [[I64 (0), I64 (0), I64 (0), I64 (0), I64 (0)]]⟩)]) hg (fun p4 hg => ?_) (fun hg => ?_)
        · refine W.condB (b := p4) (by kernel_rfl) hg (fun hg => ?_) (fun hg => ?_)
          · refine W.seq ?_
            refine W.regG ?_
            refine RG.fin 3 [(2, 2)] (envOf [(2, .pt 2 [] 0 0), (3, Bl true)]) [(2, ⟨5, [[I64 (2), I64 (2), I64 (0), I64 (0), I64 (0)]]⟩)] (by kernel_rfl) ?_
            obtain rfl := Option.some.inj hg
            exact W.ret (Ends.of [] (by kernel_rfl))
          refine W.seqJ (fun p5 : Bool => envOf [(2, .pt 2 [] 0 0), (4, I64 a0), (49, Bl p5)]) (fun p5 : Bool => [(2, ⟨5, [[I64 (0), I64 (0), I64 (0), I64 (0), I64 (0)]]⟩)]) hg (fun p5 hg => ?_) (fun hg => ?_)
          · refine W.condB (b := p5) (by kernel_rfl) hg (fun hg => ?_) (fun hg => ?_)
            · refine W.seq ?_
              refine W.regG ?_
              refine RG.fin 3 [(2, 2)] (envOf [(2, .pt 2 [] 0 0), (3, Bl true)]) [(2, ⟨5, [[I64 (2), I64 (2), I64 (2), I64 (0), I64 (0)]]⟩)] (by kernel_rfl) ?_
              obtain rfl := Option.some.inj hg
              exact W.ret (Ends.of [] (by kernel_rfl))
            refine W.seq ?_
            refine W.regG ?_
            refine RG.fin 2 [(2, 2)] (envOf [(2, .pt 2 [] 0 0), (4, I64 a0), (56, Bl (a0 == (26)))]) [(2, ⟨5, [[I64 (0), I64 (0), I64 (0), I64 (0), I64 (0)]]⟩)] (by kernel_rfl) ?_
            refine W.condB (b := (a0 == (26))) (by kernel_rfl) hg (fun hg => ?_) (fun hg => ?_)
            · refine W.seq ?_
              refine W.regG ?_
              refine RG.fin 3 [(2, 2)] (envOf [(2, .pt 2 [] 0 0), (3, Bl true)]) [(2, ⟨5, [[I64 (2), I64 (2), I64 (2), I64 (2), I64 (0)]]⟩)] (by kernel_rfl) ?_
              obtain rfl := Option.some.inj hg
              exact W.ret (Ends.of [] (by kernel_rfl))
            refine W.seqJ (fun p6 : Bool => envOf [(2, .pt 2 [] 0 0), (4, I64 a0), (59, Bl p6)]) (fun p6 : Bool => [(2, ⟨5, [[I64 (0), I64 (0), I64 (0), I64 (0), I64 (0)]]⟩)]) hg (fun p6 hg => ?_) (fun hg => ?_)
            · refine W.condB (b := p6) (by kernel_rfl) hg (fun hg => ?_) (fun hg => ?_)
              · refine W.seq ?_
                refine W.regG ?_
                refine RG.fin 3 [(2, 2)] (envOf [(2, .pt 2 [] 0 0), (3, Bl true)]) [(2, ⟨5, [[I64 (3), I64 (0), I64 (0), I64 (0), I64 (2)]]⟩)] (by kernel_rfl) ?_
                obtain rfl := Option.some.inj hg
                exact W.ret (Ends.of [] (by kernel_rfl))
              refine W.seq ?_
              refine W.regG ?_
              refine RG.fin 2 [(2, 2)] (envOf [(2, .pt 2 [] 0 0), (4, I64 a0), (63, Bl (a0 == (31)))]) [(2, ⟨5, [[I64 (0), I64 (0), I64 (0), I64 (0), I64 (0)]]⟩)] (by kernel_rfl) ?_
              refine W.condB (b := (a0 == (31))) (by kernel_rfl) hg (fun hg => ?_) (fun hg => ?_)
              · refine W.seq ?_
                refine W.regG ?_
                refine RG.fin 3 [(2, 2)] (envOf [(2, .pt 2 [] 0 0), (3, Bl true)]) [(2, ⟨5, [[I64 (0), I64 (3), I64 (0), I64 (0), I64 (2)]]⟩)] (by kernel_rfl) ?_
                obtain rfl := Option.some.inj hg
                exact W.ret (Ends.of [] (by kernel_rfl))
              refine W.seq ?_
              refine W.regG ?_
              refine RG.fin 2 [(2, 2)] (envOf [(2, .pt 2 [] 0 0), (4, I64 a0), (66, Bl (a0 == (32)))]) [(2, ⟨5, [[I64 (0), I64 (0), I64 (0), I64 (0), I64 (0)]]⟩)] (by kernel_rfl) ?_
              refine W.condB (b := (a0 == (32))) (by kernel_rfl) hg (fun hg => ?_) (fun hg => ?_)
              · refine W.seq ?_
                refine W.regG ?_
                refine RG.fin 3 [(2, 2)] (envOf [(2, .pt 2 [] 0 0), (3, Bl true)]) [(2, ⟨5, [[I64 (8), I64 (0), I64 (0), I64 (0), I64 (3)]]⟩)] (by kernel_rfl) ?_
                obtain rfl := Option.some.inj hg
                exact W.ret (Ends.of [] (by kernel_rfl))
              refine W.seq ?_
              refine W.regG ?_
              refine RG.fin 2 [(2, 2)] (envOf [(2, .pt 2 [] 0 0), (4, I64 a0), (69, Bl (a0 == (33)))]) [(2, ⟨5, [[I64 (0), I64 (0), I64 (0), I64 (0), I64 (0)]]⟩)] (by kernel_rfl) ?_
              refine W.condB (b := (a0 == (33))) (by kernel_rfl) hg (fun hg => ?_) (fun hg => ?_)
              · refine W.seq ?_
                refine W.regG ?_
                refine RG.fin 3 [(2, 2)] (envOf [(2, .pt 2 [] 0 0), (3, Bl true)]) [(2, ⟨5, [[I64 (0), I64 (8), I64 (0), I64 (0), I64 (3)]]⟩)] (by kernel_rfl) ?_
                obtain rfl := Option.some.inj hg
                exact W.ret (Ends.of [] (by kernel_rfl))
              refine W.seq ?_
              refine W.regG ?_
              refine RG.fin 2 [(2, 2)] (envOf [(2, .pt 2 [] 0 0), (4, I64 a0), (72, Bl (a0 == (34)))]) [(2, ⟨5, [[I64 (0), I64 (0), I64 (0), I64 (0), I64 (0)]]⟩)] (by kernel_rfl) ?_
              refine W.condB (b := (a0 == (34))) (by kernel_rfl) hg (fun hg => ?_) (fun hg => ?_)
              · refine W.seq ?_
                refine W.regG ?_
                refine RG.fin 3 [(2, 2)] (envOf [(2, .pt 2 [] 0 0), (3, Bl true)]) [(2, ⟨5, [[I64 (0), I64 (2), I64 (0), I64 (0), I64 (0)]]⟩)] (by kernel_rfl) ?_
                obtain rfl := Option.some.inj hg
                exact W.ret (Ends.of [] (by kernel_rfl))
              refine W.seq ?_
              refine W.regG ?_
              refine RG.fin 2 [(2, 2)] (envOf [(2, .pt 2 [] 0 0), (4, I64 a0), (75, Bl (a0 == (36)))]) [(2, ⟨5, [[I64 (0), I64 (0), I64 (0), I64 (0), I64 (0)]]⟩)] (by kernel_rfl) ?_
              refine W.condB (b := (a0 == (36))) (by kernel_rfl) hg (fun hg => ?_) (fun hg => ?_)
              · refine W.seq ?_
                refine W.regG ?_
                refine RG.fin 3 [(2, 2)] (envOf [(2, .pt 2 [] 0 0), (3, Bl true)]) [(2, ⟨5, [[I64 (0), I64 (0), I64 (0), I64 (0), I64 (4)]]⟩)] (by kernel_rfl) ?_
                obtain rfl := Option.some.inj hg
                exact W.ret (Ends.of [] (by kernel_rfl))
              refine W.seq ?_
              refine W.seq ?_
              refine W.regG ?_
              refine RG.fin 2 [(2, 2)] (envOf [(2, .pt 2 [] 0 0), (4, I64 a0), (78, Bl (a0 == (35)))]) [(2, ⟨5, [[I64 (0), I64 (0), I64 (0), I64 (0), I64 (0)]]⟩)] (by kernel_rfl) ?_
              refine W.condB (b := (a0 == (35))) (by kernel_rfl) hg (fun hg => ?_) (fun hg => ?_)
              · refine W.skip ?_
                refine W.condB (b := (a0 == (35))) (by kernel_rfl) hg (fun hg => ?_) (fun hg => ?_)
                · refine W.seq ?_
                  refine W.regG ?_
                  refine RG.fin 3 [(2, 2)] (envOf [(2, .pt 2 [] 0 0), (3, Bl true)]) [(2, ⟨5, [[I64 (0), I64 (0), I64 (0), I64 (0), I64 (0)]]⟩)] (by kernel_rfl) ?_
                  obtain rfl := Option.some.inj hg
                  exact W.ret (Ends.of [] (by kernel_rfl))
                refine W.skip ?_
                refine W.seq ?_
                refine W.regG ?_
                refine RG.fin 3 [(2, 2)] (envOf [(2, .pt 2 [] 0 0), (3, Bl false)]) [(2, ⟨5, [[I64 (0), I64 (0), I64 (0), I64 (0), I64 (0)]]⟩)] (by kernel_rfl) ?_
                obtain rfl := Option.some.inj hg
                exact W.ret (Ends.of [] (by kernel_rfl))
              refine W.regG ?_
              refine RG.fin 2 [(2, 2)] (envOf [(2, .pt 2 [] 0 0), (78, Bl (a0 == (37)))]) [(2, ⟨5, [[I64 (0), I64 (0), I64 (0), I64 (0), I64 (0)]]⟩)] (by kernel_rfl) ?_
              refine W.condB (b := (a0 == (37))) (by kernel_rfl) hg (fun hg => ?_) (fun hg => ?_)
              · refine W.seq ?_
                refine W.regG ?_
                refine RG.fin 3 [(2, 2)] (envOf [(2, .pt 2 [] 0 0), (3, Bl true)]) [(2, ⟨5, [[I64 (0), I64 (0), I64 (0), I64 (0), I64 (0)]]⟩)] (by kernel_rfl) ?_
                obtain rfl := Option.some.inj hg
                exact W.ret (Ends.of [] (by kernel_rfl))
              refine W.skip ?_
              refine W.seq ?_
              refine W.regG ?_
              refine RG.fin 3 [(2, 2)] (envOf [(2, .pt 2 [] 0 0), (3, Bl false)]) [(2, ⟨5, [[I64 (0), I64 (0), I64 (0), I64 (0), I64 (0)]]⟩)] (by kernel_rfl) ?_
              obtain rfl := Option.some.inj hg
              exact W.ret (Ends.of [] (by kernel_rfl))
            refine W.seq ?_
            refine W.regG ?_
            refine RG.fin 2 [(2, 2)] (envOf [(2, .pt 2 [] 0 0), (4, I64 a0), (59, Bl (a0 == (29)))]) [(2, ⟨5, [[I64 (0), I64 (0), I64 (0), I64 (0), I64 (0)]]⟩)] (by kernel_rfl) ?_
            refine W.condB (b := (a0 == (29))) (by kernel_rfl) hg (fun hg => ?_) (fun hg => ?_)
            · refine W.norm [(2, 2)] [2, 4, 59] (envOf [(2, .pt 2 [] 0 0), (4, I64 a0), (59, Bl (a0 == (29)))]) [(2, ⟨5, [[I64 (0), I64 (0), I64 (0), I64 (0), I64 (0)]]⟩)] (by kernel_rfl) ?_
              refine W.skip ?_
              exact W.toJ (a0 == (29)) hg (by kernel_rfl) (by kernel_rfl)
            refine W.regG ?_
            refine RG.fin 2 [(2, 2)] (envOf [(2, .pt 2 [] 0 0), (4, I64 a0), (59, Bl (a0 == (30)))]) [(2, ⟨5, [[I64 (0), I64 (0), I64 (0), I64 (0), I64 (0)]]⟩)] (by kernel_rfl) ?_
            exact W.toJ (a0 == (30)) hg (by kernel_rfl) (by kernel_rfl)
          refine W.seq ?_
          refine W.regG ?_
          refine RG.fin 2 [(2, 2)] (envOf [(2, .pt 2 [] 0 0), (4, I64 a0), (49, Bl (a0 == (22)))]) [(2, ⟨5, [[I64 (0), I64 (0), I64 (0), I64 (0), I64 (0)]]⟩)] (by kernel_rfl) ?_
          refine W.condB (b := (a0 == (22))) (by kernel_rfl) hg (fun hg => ?_) (fun hg => ?_)
          · refine W.norm [(2, 2)] [2, 4, 49] (envOf [(2, .pt 2 [] 0 0), (4, I64 a0), (49, Bl (a0 == (22)))]) [(2, ⟨5, [[I64 (0), I64 (0), I64 (0), I64 (0), I64 (0)]]⟩)] (by kernel_rfl) ?_
            refine W.skip ?_
            exact W.toJ (a0 == (22)) hg (by kernel_rfl) (by kernel_rfl)
          refine W.seq ?_
          refine W.regG ?_
          refine RG.fin 2 [(2, 2)] (envOf [(2, .pt 2 [] 0 0), (4, I64 a0), (49, Bl (a0 == (23)))]) [(2, ⟨5, [[I64 (0), I64 (0), I64 (0), I64 (0), I64 (0)]]⟩)] (by kernel_rfl) ?_
          refine W.condB (b := (a0 == (23))) (by kernel_rfl) hg (fun hg => ?_) (fun hg => ?_)
          · refine W.norm [(2, 2)] [2, 4, 49] (envOf [(2, .pt 2 [] 0 0), (4, I64 a0), (49, Bl (a0 == (23)))]) [(2, ⟨5, [[I64 (0), I64 (0), I64 (0), I64 (0), I64 (0)]]⟩)] (by kernel_rfl) ?_
            refine W.skip ?_
            exact W.toJ (a0 == (23)) hg (by kernel_rfl) (by kernel_rfl)
          refine W.seq ?_
          refine W.regG ?_
          refine RG.fin 2 [(2, 2)] (envOf [(2, .pt 2 [] 0 0), (4, I64 a0), (49, Bl (a0 == (24)))]) [(2, ⟨5, [[I64 (0), I64 (0), I64 (0), I64 (0), I64 (0)]]⟩)] (by kernel_rfl) ?_
          refine W.condB (b := (a0 == (24))) (by kernel_rfl) hg (fun hg => ?_) (fun hg => ?_)
          · refine W.norm [(2, 2)] [2, 4, 49] (envOf [(2, .pt 2 [] 0 0), (4, I64 a0), (49, Bl (a0 == (24)))]) [(2, ⟨5, [[I64 (0), I64 (0), I64 (0), I64 (0), I64 (0)]]⟩)] (by kernel_rfl) ?_
            refine W.skip ?_
            exact W.toJ (a0 == (24)) hg (by kernel_rfl) (by kernel_rfl)
          refine W.seq ?_
          refine W.regG ?_
          refine RG.fin 2 [(2, 2)] (envOf [(2, .pt 2 [] 0 0), (4, I64 a0), (49, Bl (a0 == (27)))]) [(2, ⟨5, [[I64 (0), I64 (0), I64 (0), I64 (0), I64 (0)]]⟩)] (by kernel_rfl) ?_
          refine W.condB (b := (a0 == (27))) (by kernel_rfl) hg (fun hg => ?_) (fun hg => ?_)
          · refine W.norm [(2, 2)] [2, 4, 49] (envOf [(2, .pt 2 [] 0 0), (4, I64 a0), (49, Bl (a0 == (27)))]) [(2, ⟨5, [[I64 (0), I64 (0), I64 (0), I64 (0), I64 (0)]]⟩)] (by kernel_rfl) ?_
            refine W.skip ?_
            exact W.toJ (a0 == (27)) hg (by kernel_rfl) (by kernel_rfl)
          refine W.regG ?_
          refine RG.fin 2 [(2, 2)] (envOf [(2, .pt 2 [] 0 0), (4, I64 a0), (49, Bl (a0 == (28)))]) [(2, ⟨5, [[I64 (0), I64 (0), I64 (0), I64 (0), I64 (0)]]⟩)] (by kernel_rfl) ?_
          exact W.toJ (a0 == (28)) hg (by kernel_rfl) (by kernel_rfl)
        refine W.seq ?_
        refine W.regG ?_
        refine RG.fin 2 [(2, 2)] (envOf [(2, .pt 2 [] 0 0), (4, I64 a0), (45, Bl (a0 == (21)))]) [(2, ⟨5, [[I64 (0), I64 (0), I64 (0), I64 (0), I64 (0)]]⟩)] (by kernel_rfl) ?_
        refine W.condB (b := (a0 == (21))) (by kernel_rfl) hg (fun hg => ?_) (fun hg => ?_)
        · refine W.norm [(2, 2)] [2, 4, 45] (envOf [(2, .pt 2 [] 0 0), (4, I64 a0), (45, Bl (a0 == (21)))]) [(2, ⟨5, [[I64 (0), I64 (0), I64 (0), I64 (0), I64 (0)]]⟩)] (by kernel_rfl) ?_
          refine W.skip ?_
          exact W.toJ (a0 == (21)) hg (by kernel_rfl) (by kernel_rfl)
        refine W.regG ?_
        refine RG.fin 2 [(2, 2)] (envOf [(2, .pt 2 [] 0 0), (4, I64 a0), (45, Bl (a0 == (25)))]) [(2, ⟨5, [[I64 (0), I64 (0), I64 (0), I64 (0), I64 (0)]]⟩)] (by kernel_rfl) ?_
        exact W.toJ (a0 == (25)) hg (by kernel_rfl) (by kernel_rfl)
      refine W.seq ?_
      refine W.regG ?_
      refine RG.fin 2 [(2, 2)] (envOf [(2, .pt 2 [] 0 0), (4, I64 a0), (41, Bl (a0 == (19)))]) [(2, ⟨5, [[I64 (0), I64 (0), I64 (0), I64 (0), I64 (0)]]⟩)] (by kernel_rfl) ?_
      refine W.condB (b := (a0 == (19))) (by kernel_rfl) hg (fun hg => ?_) (fun hg => ?_)
      · refine W.norm [(2, 2)] [2, 4, 41] (envOf [(2, .pt 2 [] 0 0), (4, I64 a0), (41, Bl (a0 == (19)))]) [(2, ⟨5, [[I64 (0), I64 (0), I64 (0), I64 (0), I64 (0)]]⟩)] (by kernel_rfl) ?_
        refine W.skip ?_
        exact W.toJ (a0 == (19)) hg (by kernel_rfl) (by kernel_rfl)
      refine W.regG ?_
      refine RG.fin 2 [(2, 2)] (envOf [(2, .pt 2 [] 0 0), (4, I64 a0), (41, Bl (a0 == (20)))]) [(2, ⟨5, [[I64 (0), I64 (0), I64 (0), I64 (0), I64 (0)]]⟩)] (by kernel_rfl) ?_
      exact W.toJ (a0 == (20)) hg (by kernel_rfl) (by kernel_rfl)
    refine W.seq ?_
    refine W.regG ?_
    refine RG.fin 2 [(2, 2)] (envOf [(2, .pt 2 [] 0 0), (4, I64 a0), (23, Bl (a0 == (11)))]) [(2, ⟨5, [[I64 (0), I64 (0), I64 (0), I64 (0), I64 (0)]]⟩)] (by kernel_rfl) ?_
    refine W.condB (b := (a0 == (11))) (by kernel_rfl) hg (fun hg => ?_) (fun hg => ?_)
    · refine W.norm [(2, 2)] [2, 4, 23] (envOf [(2, .pt 2 [] 0 0), (4, I64 a0), (23, Bl (a0 == (11)))]) [(2, ⟨5, [[I64 (0), I64 (0), I64 (0), I64 (0), I64 (0)]]⟩)] (by kernel_rfl) ?_
      refine W.skip ?_
      exact W.toJ (a0 == (11)) hg (by kernel_rfl) (by kernel_rfl)
    refine W.seq ?_
    refine W.regG ?_
    refine RG.fin 2 [(2, 2)] (envOf [(2, .pt 2 [] 0 0), (4, I64 a0), (23, Bl (a0 == (12)))]) [(2, ⟨5, [[I64 (0), I64 (0), I64 (0), I64 (0), I64 (0)]]⟩)] (by kernel_rfl) ?_
    refine W.condB (b := (a0 == (12))) (by kernel_rfl) hg (fun hg => ?_) (fun hg => ?_)
    · refine W.norm [(2, 2)] [2, 4, 23] (envOf [(2, .pt 2 [] 0 0), (4, I64 a0), (23, Bl (a0 == (12)))]) [(2, ⟨5, [[I64 (0), I64 (0), I64 (0), I64 (0), I64 (0)]]⟩)] (by kernel_rfl) ?_
      refine W.skip ?_
      exact W.toJ (a0 == (12)) hg (by kernel_rfl) (by kernel_rfl)
    refine W.seq ?_
    refine W.regG ?_
    refine RG.fin 2 [(2, 2)] (envOf [(2, .pt 2 [] 0 0), (4, I64 a0), (23, Bl (a0 == (13)))]) [(2, ⟨5, [[I64 (0), I64 (0), I64 (0), I64 (0), I64 (0)]]⟩)] (by kernel_rfl) ?_
    refine W.condB (b := (a0 == (13))) (by kernel_rfl) hg (fun hg => ?_) (fun hg => ?_)
    · refine W.norm [(2, 2)] [2, 4, 23] (envOf [(2, .pt 2 [] 0 0), (4, I64 a0), (23, Bl (a0 == (13)))]) [(2, ⟨5, [[I64 (0), I64 (0), I64 (0), I64 (0), I64 (0)]]⟩)] (by kernel_rfl) ?_
      refine W.skip ?_
      exact W.toJ (a0 == (13)) hg (by kernel_rfl) (by kernel_rfl)
    refine W.regG ?_
    refine RG.fin 2 [(2, 2)] (envOf [(2, .pt 2 [] 0 0), (4, I64 a0), (23, Bl (a0 == (14)))]) [(2, ⟨5, [[I64 (0), I64 (0), I64 (0), I64 (0), I64 (0)]]⟩)] (by kernel_rfl) ?_
    exact W.toJ (a0 == (14)) hg (by kernel_rfl) (by kernel_rfl)
  refine W.seq ?_
  refine W.regG ?_
  refine RG.fin 2 [(2, 2)] (envOf [(2, .pt 2 [] 0 0), (4, I64 a0), (14, Bl (a0 == (4)))]) [(2, ⟨5, [[I64 (0), I64 (0), I64 (0), I64 (0), I64 (0)]]⟩)] (by kernel_rfl) ?_
  refine W.condB (b := (a0 == (4))) (by kernel_rfl) hg (fun hg => ?_) (fun hg => ?_)
  · refine W.norm [(2, 2)] [2, 4, 14] (envOf [(2, .pt 2 [] 0 0), (4, I64 a0), (14, Bl (a0 == (4)))]) [(2, ⟨5, [[I64 (0), I64 (0), I64 (0), I64 (0), I64 (0)]]⟩)] (by kernel_rfl) ?_
    refine W.skip ?_
    exact W.toJ (a0 == (4)) hg (by kernel_rfl) (by kernel_rfl)
  refine W.seq ?_
  refine W.regG ?_
  refine RG.fin 2 [(2, 2)] (envOf [(2, .pt 2 [] 0 0), (4, I64 a0), (14, Bl (a0 == (5)))]) [(2, ⟨5, [[I64 (0), I64 (0), I64 (0), I64 (0), I64 (0)]]⟩)] (by kernel_rfl) ?_
  refine W.condB (b := (a0 == (5))) (by kernel_rfl) hg (fun hg => ?_) (fun hg => ?_)
  · refine W.norm [(2, 2)] [2, 4, 14] (envOf [(2, .pt 2 [] 0 0), (4, I64 a0), (14, Bl (a0 == (5)))]) [(2, ⟨5, [[I64 (0), I64 (0), I64 (0), I64 (0), I64 (0)]]⟩)] (by kernel_rfl) ?_
    refine W.skip ?_
    exact W.toJ (a0 == (5)) hg (by kernel_rfl) (by kernel_rfl)
  refine W.seq ?_
  refine W.regG ?_
  refine RG.fin 2 [(2, 2)] (envOf [(2, .pt 2 [] 0 0), (4, I64 a0), (14, Bl (a0 == (6)))]) [(2, ⟨5, [[I64 (0), I64 (0), I64 (0), I64 (0), I64 (0)]]⟩)] (by kernel_rfl) ?_
  refine W.condB (b := (a0 == (6))) (by kernel_rfl) hg (fun hg => ?_) (fun hg => ?_)
  · refine W.norm [(2, 2)] [2, 4, 14] (envOf [(2, .pt 2 [] 0 0), (4, I64 a0), (14, Bl (a0 == (6)))]) [(2, ⟨5, [[I64 (0), I64 (0), I64 (0), I64 (0), I64 (0)]]⟩)] (by kernel_rfl) ?_
    refine W.skip ?_
    exact W.toJ (a0 == (6)) hg (by kernel_rfl) (by kernel_rfl)
  refine W.seq ?_
  refine W.regG ?_
  refine RG.fin 2 [(2, 2)] (envOf [(2, .pt 2 [] 0 0), (4, I64 a0), (14, Bl (a0 == (7)))]) [(2, ⟨5, [[I64 (0), I64 (0), I64 (0), I64 (0), I64 (0)]]⟩)] (by kernel_rfl) ?_
  refine W.condB (b := (a0 == (7))) (by kernel_rfl) hg (fun hg => ?_) (fun hg => ?_)
  · refine W.norm [(2, 2)] [2, 4, 14] (envOf [(2, .pt 2 [] 0 0), (4, I64 a0), (14, Bl (a0 == (7)))]) [(2, ⟨5, [[I64 (0), I64 (0), I64 (0), I64 (0), I64 (0)]]⟩)] (by kernel_rfl) ?_
    refine W.skip ?_
    exact W.toJ (a0 == (7)) hg (by kernel_rfl) (by kernel_rfl)
  refine W.seq ?_
  refine W.regG ?_
  refine RG.fin 2 [(2, 2)] (envOf [(2, .pt 2 [] 0 0), (4, I64 a0), (14, Bl (a0 == (8)))]) [(2, ⟨5, [[I64 (0), I64 (0), I64 (0), I64 (0), I64 (0)]]⟩)] (by kernel_rfl) ?_
  refine W.condB (b := (a0 == (8))) (by kernel_rfl) hg (fun hg => ?_) (fun hg => ?_)
  · refine W.norm [(2, 2)] [2, 4, 14] (envOf [(2, .pt 2 [] 0 0), (4, I64 a0), (14, Bl (a0 == (8)))]) [(2, ⟨5, [[I64 (0), I64 (0), I64 (0), I64 (0), I64 (0)]]⟩)] (by kernel_rfl) ?_
    refine W.skip ?_
    exact W.toJ (a0 == (8)) hg (by kernel_rfl) (by kernel_rfl)
  refine W.seq ?_
  refine W.regG ?_
  refine RG.fin 2 [(2, 2)] (envOf [(2, .pt 2 [] 0 0), (4, I64 a0), (14, Bl (a0 == (9)))]) [(2, ⟨5, [[I64 (0), I64 (0), I64 (0), I64 (0), I64 (0)]]⟩)] (by kernel_rfl) ?_
  refine W.condB (b := (a0 == (9))) (by kernel_rfl) hg (fun hg => ?_) (fun hg => ?_)
  · refine W.norm [(2, 2)] [2, 4, 14] (envOf [(2, .pt 2 [] 0 0), (4, I64 a0), (14, Bl (a0 == (9)))]) [(2, ⟨5, [[I64 (0), I64 (0), I64 (0), I64 (0), I64 (0)]]⟩)] (by kernel_rfl) ?_
    refine W.skip ?_
    exact W.toJ (a0 == (9)) hg (by kernel_rfl) (by kernel_rfl)
  refine W.regG ?_
  refine RG.fin 2 [(2, 2)] (envOf [(2, .pt 2 [] 0 0), (4, I64 a0), (14, Bl (a0 == (10)))]) [(2, ⟨5, [[I64 (0), I64 (0), I64 (0), I64 (0), I64 (0)]]⟩)] (by kernel_rfl) ?_
  exact W.toJ (a0 == (10)) hg (by kernel_rfl) (by kernel_rfl)
def g53 (a0_0 : (List T_api_Param)) (a0_1 : (List T_api_Type)) (a0_2 : (List T_api_Slot)) (a0_3 : (List T_api_Inst)) (a0_4 : (List Bool)) (a0_5 : (List (List Int))) (a0_6 : (List Int)) (a1 : Int) : Option (T_api_Type × Bool) := bif (decide (a1 < (0))) then some ((⟨(0), (0)⟩ : T_api_Type), false) else bif (decide (a1 ≥ ((a0_1.map c_T_api_Type).length : Int))) then some ((⟨(0), (0)⟩ : T_api_Type), false) else (idx a0_1 a1).bind fun y1 => some (y1, true)
theorem g53_ok (a0_0 : (List T_api_Param)) (a0_1 : (List T_api_Type)) (a0_2 : (List T_api_Slot)) (a0_3 : (List T_api_Inst)) (a0_4 : (List Bool)) (a0_5 : (List (List Int))) (a0_6 : (List Int)) (a1 : Int) (r : T_api_Type × Bool) (hg : g53 a0_0 a0_1 a0_2 a0_3 a0_4 a0_5 a0_6 a1 = some r) : CallG Go.Proofs.Try.prog 53 [.pt 200000 [] 0 0, I64 a1] [(200000, ⟨7, [[.im 3 (a0_0.map c_T_api_Param), .im 2 (a0_1.map c_T_api_Type), .im 5 (a0_2.map c_T_api_Slot), .im 7 (a0_3.map c_T_api_Inst), .ow 1 (a0_4.map c_bool), .ow 1 (a0_5.map o_L6), .ow 1 (a0_6.map c_i64)]]⟩)] (.tu [.ag [I64 r.1.Kind_, I64 r.1.Param_], Bl r.2]) [(200000, ⟨7, [[.im 3 (a0_0.map c_T_api_Param), .im 2 (a0_1.map c_T_api_Type), .im 5 (a0_2.map c_T_api_Slot), .im 7 (a0_3.map c_T_api_Inst), .ow 1 (a0_4.map c_bool), .ow 1 (a0_5.map o_L6), .ow 1 (a0_6.map c_i64)]]⟩)] := by
  unfold g53 at hg
  refine .of_S [0, 1] (envOf [(0, .pt 200000 [] 0 0), (1, I64 a1)]) fn53 (by kernel_rfl) ?_
  refine W.seq ?_
  refine W.regG ?_
  refine RG.fin 2 [(4, 4), (200000, 200000)] (envOf [(0, .pt 200000 [] 0 0), (1, I64 a1), (4, .pt 4 [] 0 0)]) [(4, ⟨2, [[I64 (0), I64 (0)]]⟩), (200000, ⟨7, [[.im 3 (a0_0.map c_T_api_Param), .im 2 (a0_1.map c_T_api_Type), .im 5 (a0_2.map c_T_api_Slot), .im 7 (a0_3.map c_T_api_Inst), .ow 1 (a0_4.map c_bool), .ow 1 (a0_5.map o_L6), .ow 1 (a0_6.map c_i64)]]⟩)] (by kernel_rfl) ?_
  refine W.seq ?_
  refine W.seq ?_
  refine W.regG ?_
  refine RG.cut 3 [(4, 4), (200000, 200000)] [0, 1, 4, 8, 9, 10, 11, 12, 13, 14, 15, 16] (envOf [(0, .pt 200000 [] 0 0), (1, I64 a1), (4, .pt 4 [] 0 0), (8, Bl (decide (a1 < (0)))), (9, .un), (10, .un), (11, .un), (12, .un), (13, .un), (14, .un), (15, .un), (16, .un)]) [(4, ⟨2, [[I64 (0), I64 (0)]]⟩), (200000, ⟨7, [[.im 3 (a0_0.map c_T_api_Param), .im 2 (a0_1.map c_T_api_Type), .im 5 (a0_2.map c_T_api_Slot), .im 7 (a0_3.map c_T_api_Inst), .ow 1 (a0_4.map c_bool), .ow 1 (a0_5.map o_L6), .ow 1 (a0_6.map c_i64)]]⟩)] (by kernel_rfl) ?_
  refine RG.guard (s := 8) (by kernel_rfl) hg (fun hg => ?_) (fun hg => ?_)
  · refine RG.fin 9 [(4, 4), (200000, 200000)] (envOf [(0, .pt 200000 [] 0 0), (1, I64 a1), (4, .pt 4 [] 0 0), (17, Bl true)]) [(4, ⟨2, [[I64 (0), I64 (0)]]⟩), (200000, ⟨7, [[.im 3 (a0_0.map c_T_api_Param), .im 2 (a0_1.map c_T_api_Type), .im 5 (a0_2.map c_T_api_Slot), .im 7 (a0_3.map c_T_api_Inst), .ow 1 (a0_4.map c_bool), .ow 1 (a0_5.map o_L6), .ow 1 (a0_6.map c_i64)]]⟩)] (by kernel_rfl) ?_
    refine W.condT (by kernel_rfl) ?_
    refine W.seq ?_
    refine W.regG ?_
    refine RG.fin 3 [(4, 4), (200000, 200000)] (envOf [(4, .pt 4 [] 0 0), (5, Bl false)]) [(4, ⟨2, [[I64 (0), I64 (0)]]⟩), (200000, ⟨7, [[.im 3 (a0_0.map c_T_api_Param), .im 2 (a0_1.map c_T_api_Type), .im 5 (a0_2.map c_T_api_Slot), .im 7 (a0_3.map c_T_api_Inst), .ow 1 (a0_4.map c_bool), .ow 1 (a0_5.map o_L6), .ow 1 (a0_6.map c_i64)]]⟩)] (by kernel_rfl) ?_
    obtain rfl := Option.some.inj hg
    exact W.ret (Ends.of [(200000, 200000)] (by kernel_rfl))
  refine RG.fin 9 [(4, 4), (200000, 200000)] (envOf [(0, .pt 200000 [] 0 0), (1, I64 a1), (4, .pt 4 [] 0 0), (17, Bl (decide (a1 ≥ ((a0_1.map c_T_api_Type).length : Int))))]) [(4, ⟨2, [[I64 (0), I64 (0)]]⟩), (200000, ⟨7, [[.im 3 (a0_0.map c_T_api_Param), .im 2 (a0_1.map c_T_api_Type), .im 5 (a0_2.map c_T_api_Slot), .im 7 (a0_3.map c_T_api_Inst), .ow 1 (a0_4.map c_bool), .ow 1 (a0_5.map o_L6), .ow 1 (a0_6.map c_i64)]]⟩)] (by kernel_rfl) ?_
  refine W.condB (b := (decide (a1 ≥ ((a0_1.map c_T_api_Type).length : Int)))) (by kernel_rfl) hg (fun hg => ?_) (fun hg => ?_)
  · refine W.seq ?_
    refine W.regG ?_
    refine RG.fin 3 [(4, 4), (200000, 200000)] (envOf [(4, .pt 4 [] 0 0), (5, Bl false)]) [(4, ⟨2, [[I64 (0), I64 (0)]]⟩), (200000, ⟨7, [[.im 3 (a0_0.map c_T_api_Param), .im 2 (a0_1.map c_T_api_Type), .im 5 (a0_2.map c_T_api_Slot), .im 7 (a0_3.map c_T_api_Inst), .ow 1 (a0_4.map c_bool), .ow 1 (a0_5.map o_L6), .ow 1 (a0_6.map c_i64)]]⟩)] (by kernel_rfl) ?_
    obtain rfl := Option.some.inj hg
    exact W.ret (Ends.of [(200000, 200000)] (by kernel_rfl))
  refine W.skip ?_
  refine W.seq ?_
  refine W.regG ?_
  refine RG.cut 6 [(4, 4), (200000, 200000)] [4, 23, 24] (envOf [(4, .pt 4 [] 0 0), (23, .im 2 (a0_1.map c_T_api_Type)), (24, I64 a1)]) [(4, ⟨2, [[I64 (0), I64 (0)]]⟩), (200000, ⟨7, [[.im 3 (a0_0.map c_T_api_Param), .im 2 (a0_1.map c_T_api_Type), .im 5 (a0_2.map c_T_api_Slot), .im 7 (a0_3.map c_T_api_Inst), .ow 1 (a0_4.map c_bool), .ow 1 (a0_5.map o_L6), .ow 1 (a0_6.map c_i64)]]⟩)] (by kernel_rfl) ?_
  refine RG.iadIm (c := c_T_api_Type) (xs := a0_1) (i := a1) (k := .i64) (by kernel_rfl) (by kernel_rfl) (by kernel_rfl) hg (fun y1 _ hg => ?_)
  refine RG.fin 3 [(4, 4), (200000, 200000)] (envOf [(4, .pt 4 [] 0 0), (5, Bl true)]) [(4, ⟨2, [[I64 y1.Kind_, I64 y1.Param_]]⟩), (200000, ⟨7, [[.im 3 (a0_0.map c_T_api_Param), .im 2 (a0_1.map c_T_api_Type), .im 5 (a0_2.map c_T_api_Slot), .im 7 (a0_3.map c_T_api_Inst), .ow 1 (a0_4.map c_bool), .ow 1 (a0_5.map o_L6), .ow 1 (a0_6.map c_i64)]]⟩)] (by kernel_rfl) ?_
  obtain rfl := Option.some.inj hg
  exact W.ret (Ends.of [(200000, 200000)] (by kernel_rfl))
def g54 (a0 : T_api_Type) (a1 : Int) (a2 : T_api_Type) : Option Bool := bif (a1 == (1)) then some (a0.Kind_ == (1)) else bif (a1 == (2)) then some (a0.Kind_ == (2)) else bif (a1 == (3)) then some (a0.Kind_ == (3)) else bif (a1 == (4)) then some (a0.Kind_ != (2)) else bif (a1 == (5)) then bif (a0.Kind_ == (1)) then some true else some (a0.Kind_ == a2.Kind_ && (a0.Param_ == a2.Param_ && true)) else bif (a1 == (6)) then some (a0.Kind_ == a2.Kind_ && (a0.Param_ == a2.Param_ && true)) else bif (a1 == (7)) then bif (a0.Kind_ == a2.Kind_ && (a0.Param_ == a2.Param_ && true)) then some true else bif (a0.Kind_ == (1)) then some (a2.Kind_ == (3)) else some false else some true
theorem g54_ok (a0 : T_api_Type) (a1 : Int) (a2 : T_api_Type) (r : Bool) (hg : g54 a0 a1 a2 = some r) : CallOk Go.Proofs.Try.prog 54 [.ag [I64 a0.Kind_, I64 a0.Param_], I64 a1, .ag [I64 a2.Kind_, I64 a2.Param_]] [] (Bl r) [] := by
  unfold g54 at hg
  refine CallG.narrow ?_ (by kernel_rfl) (by kernel_rfl)
  refine .of_S [0, 1, 2] (envOf [(0, .ag [I64 a0.Kind_, I64 a0.Param_]), (1, I64 a1), (2, .ag [I64 a2.Kind_, I64 a2.Param_])]) fn54 (by kernel_rfl) ?_
  refine W.seq ?_
  refine W.regG ?_
  refine RG.fin 3 [(3, 3), (5, 5)] (envOf [(1, I64 a1), (3, .pt 3 [] 0 0), (5, .pt 5 [] 0 0)]) [(3, ⟨2, [[I64 a0.Kind_, I64 a0.Param_]]⟩), (5, ⟨2, [[I64 a2.Kind_, I64 a2.Param_]]⟩)] (by kernel_rfl) ?_
  refine W.seq ?_
  refine W.regG ?_
  refine RG.fin 4 [(3, 3), (5, 5)] (envOf [(1, I64 a1), (3, .pt 3 [] 0 0), (5, .pt 5 [] 0 0), (7, Bl (a0.Kind_ == (1)))]) [(3, ⟨2, [[I64 a0.Kind_, I64 a0.Param_]]⟩), (5, ⟨2, [[I64 a2.Kind_, I64 a2.Param_]]⟩)] (by kernel_rfl) ?_
  refine W.seq ?_
  refine W.seq ?_
  refine W.regG ?_
  refine RG.fin 1 [(3, 3), (5, 5)] (envOf [(3, .pt 3 [] 0 0), (5, .pt 5 [] 0 0), (7, Bl (a0.Kind_ == (1))), (11, I64 a1)]) [(3, ⟨2, [[I64 a0.Kind_, I64 a0.Param_]]⟩), (5, ⟨2, [[I64 a2.Kind_, I64 a2.Param_]]⟩)] (by kernel_rfl) ?_
  refine W.block ?_
  refine W.seq ?_
  refine W.regG ?_
  refine RG.fin 2 [(3, 3), (5, 5)] (envOf [(3, .pt 3 [] 0 0), (5, .pt 5 [] 0 0), (7, Bl (a0.Kind_ == (1))), (11, I64 a1), (12, Bl (a1 == (1)))]) [(3, ⟨2, [[I64 a0.Kind_, I64 a0.Param_]]⟩), (5, ⟨2, [[I64 a2.Kind_, I64 a2.Param_]]⟩)] (by kernel_rfl) ?_
  refine W.condB (b := (a1 == (1))) (by kernel_rfl) hg (fun hg => ?_) (fun hg => ?_)
  · refine W.seq ?_
    refine W.regG ?_
    refine RG.fin 2 [] (envOf [(6, Bl (a0.Kind_ == (1)))]) [] (by kernel_rfl) ?_
    obtain rfl := Option.some.inj hg
    exact W.ret (Ends.of [] (by kernel_rfl))
  refine W.seq ?_
  refine W.regG ?_
  refine RG.fin 2 [(3, 3), (5, 5)] (envOf [(3, .pt 3 [] 0 0), (5, .pt 5 [] 0 0), (7, Bl (a0.Kind_ == (1))), (11, I64 a1), (15, Bl (a1 == (2)))]) [(3, ⟨2, [[I64 a0.Kind_, I64 a0.Param_]]⟩), (5, ⟨2, [[I64 a2.Kind_, I64 a2.Param_]]⟩)] (by kernel_rfl) ?_
  refine W.condB (b := (a1 == (2))) (by kernel_rfl) hg (fun hg => ?_) (fun hg => ?_)
  · refine W.seq ?_
    refine W.regG ?_
    refine RG.fin 4 [] (envOf [(6, Bl (a0.Kind_ == (2)))]) [] (by kernel_rfl) ?_
    obtain rfl := Option.some.inj hg
    exact W.ret (Ends.of [] (by kernel_rfl))
  refine W.seq ?_
  refine W.regG ?_
  refine RG.fin 2 [(3, 3), (5, 5)] (envOf [(3, .pt 3 [] 0 0), (5, .pt 5 [] 0 0), (7, Bl (a0.Kind_ == (1))), (11, I64 a1), (20, Bl (a1 == (3)))]) [(3, ⟨2, [[I64 a0.Kind_, I64 a0.Param_]]⟩), (5, ⟨2, [[I64 a2.Kind_, I64 a2.Param_]]⟩)] (by kernel_rfl) ?_
  refine W.condB (b := (a1 == (3))) (by kernel_rfl) hg (fun hg => ?_) (fun hg => ?_)
  · refine W.seq ?_
    refine W.regG ?_
    refine RG.fin 4 [] (envOf [(6, Bl (a0.Kind_ == (3)))]) [] (by kernel_rfl) ?_
    obtain rfl := Option.some.inj hg
    exact W.ret (Ends.of [] (by kernel_rfl))
  refine W.seq ?_
  refine W.regG ?_
  refine RG.fin 2 [(3, 3), (5, 5)] (envOf [(3, .pt 3 [] 0 0), (5, .pt 5 [] 0 0), (7, Bl (a0.Kind_ == (1))), (11, I64 a1), (25, Bl (a1 == (4)))]) [(3, ⟨2, [[I64 a0.Kind_, I64 a0.Param_]]⟩), (5, ⟨2, [[I64 a2.Kind_, I64 a2.Param_]]⟩)] (by kernel_rfl) ?_
  refine W.condB (b := (a1 == (4))) (by kernel_rfl) hg (fun hg => ?_) (fun hg => ?_)
  · refine W.seq ?_
    refine W.regG ?_
    refine RG.fin 4 [] (envOf [(6, Bl (a0.Kind_ != (2)))]) [] (by kernel_rfl) ?_
    obtain rfl := Option.some.inj hg
    exact W.ret (Ends.of [] (by kernel_rfl))
  refine W.seq ?_
  refine W.regG ?_
  refine RG.fin 2 [(3, 3), (5, 5)] (envOf [(3, .pt 3 [] 0 0), (5, .pt 5 [] 0 0), (7, Bl (a0.Kind_ == (1))), (11, I64 a1), (30, Bl (a1 == (5)))]) [(3, ⟨2, [[I64 a0.Kind_, I64 a0.Param_]]⟩), (5, ⟨2, [[I64 a2.Kind_, I64 a2.Param_]]⟩)] (by kernel_rfl) ?_
  refine W.condB (b := (a1 == (5))) (by kernel_rfl) hg (fun hg => ?_) (fun hg => ?_)
  · refine W.seq ?_
    refine W.regG ?_
    refine RG.cut 2 [(3, 3), (5, 5)] [3, 5, 33, 34, 35, 36] (envOf [(3, .pt 3 [] 0 0), (5, .pt 5 [] 0 0), (33, Bl (a0.Kind_ == (1))), (34, .un), (35, .un), (36, .un)]) [(3, ⟨2, [[I64 a0.Kind_, I64 a0.Param_]]⟩), (5, ⟨2, [[I64 a2.Kind_, I64 a2.Param_]]⟩)] (by kernel_rfl) ?_
    refine RG.guard (s := 33) (by kernel_rfl) hg (fun hg => ?_) (fun hg => ?_)
    · refine RG.fin 5 [] (envOf [(6, Bl true)]) [] (by kernel_rfl) ?_
      obtain rfl := Option.some.inj hg
      exact W.ret (Ends.of [] (by kernel_rfl))
    refine RG.fin 5 [] (envOf [(6, Bl (a0.Kind_ == a2.Kind_ && (a0.Param_ == a2.Param_ && true)))]) [] (by kernel_rfl) ?_
    obtain rfl := Option.some.inj hg
    exact W.ret (Ends.of [] (by kernel_rfl))
  refine W.seq ?_
  refine W.regG ?_
  refine RG.fin 2 [(3, 3), (5, 5)] (envOf [(3, .pt 3 [] 0 0), (5, .pt 5 [] 0 0), (7, Bl (a0.Kind_ == (1))), (11, I64 a1), (38, Bl (a1 == (6)))]) [(3, ⟨2, [[I64 a0.Kind_, I64 a0.Param_]]⟩), (5, ⟨2, [[I64 a2.Kind_, I64 a2.Param_]]⟩)] (by kernel_rfl) ?_
  refine W.condB (b := (a1 == (6))) (by kernel_rfl) hg (fun hg => ?_) (fun hg => ?_)
  · refine W.seq ?_
    refine W.regG ?_
    refine RG.fin 4 [] (envOf [(6, Bl (a0.Kind_ == a2.Kind_ && (a0.Param_ == a2.Param_ && true)))]) [] (by kernel_rfl) ?_
    obtain rfl := Option.some.inj hg
    exact W.ret (Ends.of [] (by kernel_rfl))
  refine W.seq ?_
  refine W.regG ?_
  refine RG.fin 2 [(3, 3), (5, 5)] (envOf [(3, .pt 3 [] 0 0), (5, .pt 5 [] 0 0), (7, Bl (a0.Kind_ == (1))), (43, Bl (a1 == (7)))]) [(3, ⟨2, [[I64 a0.Kind_, I64 a0.Param_]]⟩), (5, ⟨2, [[I64 a2.Kind_, I64 a2.Param_]]⟩)] (by kernel_rfl) ?_
  refine W.condB (b := (a1 == (7))) (by kernel_rfl) hg (fun hg => ?_) (fun hg => ?_)
  · refine W.seq ?_
    refine W.regG ?_
    refine RG.cut 4 [(5, 5)] [5, 7, 48, 49, 50, 51, 52, 53, 54] (envOf [(5, .pt 5 [] 0 0), (7, Bl (a0.Kind_ == (1))), (48, Bl (a0.Kind_ == a2.Kind_ && (a0.Param_ == a2.Param_ && true))), (49, .un), (50, .un), (51, .un), (52, .un), (53, .un), (54, .un)]) [(5, ⟨2, [[I64 a2.Kind_, I64 a2.Param_]]⟩)] (by kernel_rfl) ?_
    refine RG.guard (s := 48) (by kernel_rfl) hg (fun hg => ?_) (fun hg => ?_)
    · refine RG.fin 8 [] (envOf [(6, Bl true)]) [] (by kernel_rfl) ?_
      obtain rfl := Option.some.inj hg
      exact W.ret (Ends.of [] (by kernel_rfl))
    refine RG.cut 2 [(5, 5)] [5, 48, 50, 51, 52, 53, 54] (envOf [(5, .pt 5 [] 0 0), (48, Bl false), (50, Bl (a0.Kind_ == (1))), (51, .un), (52, .un), (53, .un), (54, .un)]) [(5, ⟨2, [[I64 a2.Kind_, I64 a2.Param_]]⟩)] (by kernel_rfl) ?_
    refine RG.guard (s := 50) (by kernel_rfl) hg (fun hg => ?_) (fun hg => ?_)
    · refine RG.fin 6 [] (envOf [(6, Bl (a2.Kind_ == (3)))]) [] (by kernel_rfl) ?_
      obtain rfl := Option.some.inj hg
      exact W.ret (Ends.of [] (by kernel_rfl))
    refine RG.fin 6 [] (envOf [(6, Bl false)]) [] (by kernel_rfl) ?_
    obtain rfl := Option.some.inj hg
    exact W.ret (Ends.of [] (by kernel_rfl))
  refine W.skip ?_
  refine W.seq ?_
  refine W.regG ?_
  refine RG.fin 1 [] (envOf [(6, Bl true)]) [] (by kernel_rfl) ?_
  obtain rfl := Option.some.inj hg
  exact W.ret (Ends.of [] (by kernel_rfl))
end Loom
