/- What the functions that ReuseForms reaches answer,and that they do (part 1 of 2). -/
import Derived.Test.YtdnodicbedhdfaaGreatLoomD
import Derived.Test.YtdnodicbedhdfaaGreatChecked
import Derived.KernelRfl
import Derived.WalkKit
import Derived.WalkSpells
import Derived.WalkLawsBesides
import Derived.Lib.Bytealg
import Derived.Defers
import Derived.Recover
set_option linter.unusedVariables false
set_option linter.unusedSimpArgs false
set_option linter.unusedSectionVars false
open List (length_map range replicate)
namespace Loom
open Go Go.RowKit
set_option maxRecDepth 100000
noncomputable section
abbrev P_:=Go.Proofs.Tryz.prog
abbrev I_ {E} (x:Int):TV E:=.sc (.int .i64 x)
abbrev B_ {E} (x:Bool):TV E:=.sc (.bool x)
structure Xa where
 Name_:ByteArray
 Kind_:Int
 Len_:Int
structure Xb where
 Kind_:Int
 Param_:Int
structure Xc where
 Type_:Xb
 Keep_:Bool
 Bits_:Int
 Int_:Int
structure Xd where
 Op_:Int
 D_:Int
 A_:Int
 B_:Int
 C_:Int
 N_:Int
 Bits_:Int
structure Xe where
 Sign_:(List Xa)
 Regs_:(List Xb)
 Slots_:(List Xc)
 List_:(List Xd)
structure Xf where
 i_:Xd
 t_:Xb
structure Xg where
 k_:Xf
 v_:Int
structure Xh where
 Op_:Int
 Param_:Int
 Set_:(List Bool)
structure Xi where
 Grads_:(List (List Int))
 Params_:(List (List Int))
structure Xj where
 Nums_:(List Int)
 Int_:Int
structure Xk where
 C_:Xe
 Slots_:(List Xj)
structure Xl where
 C_:Xe
 Regs_:(List Xj)
 Slots_:(List Xj)
 Out_:(List (List Int))
 Grads_:(List (List Int))
 Params_:(List (List Int))
 Cost_:Int
structure Xm where
 Minus_:Bool
 M_:Int
 E_:Int
 Inf_:Bool
 Nan_:Bool
abbrev _root_.Prod.p10 {A0 A1 A2 A3 A4 A5 A6 A7 A8 A9 A10 A11:Type} (x:A0×A1×A2×A3×A4×A5×A6×A7×A8×A9×A10×A11):A10:=x.2.2.2.2.2.2.2.2.2.2.1
abbrev _root_.Prod.p11 {A0 A1 A2 A3 A4 A5 A6 A7 A8 A9 A10 A11 A12:Type} (x:A0×A1×A2×A3×A4×A5×A6×A7×A8×A9×A10×A11×A12):A11:=x.2.2.2.2.2.2.2.2.2.2.2.1
abbrev _root_.Prod.p12 {A0 A1 A2 A3 A4 A5 A6 A7 A8 A9 A10 A11 A12 A13:Type} (x:A0×A1×A2×A3×A4×A5×A6×A7×A8×A9×A10×A11×A12×A13):A12:=x.2.2.2.2.2.2.2.2.2.2.2.2.1
abbrev _root_.Prod.p13 {A0 A1 A2 A3 A4 A5 A6 A7 A8 A9 A10 A11 A12 A13 A14:Type} (x:A0×A1×A2×A3×A4×A5×A6×A7×A8×A9×A10×A11×A12×A13×A14):A13:=x.2.2.2.2.2.2.2.2.2.2.2.2.2.1
abbrev _root_.Prod.p3 {A0 A1 A2 A3 A4:Type} (x:A0×A1×A2×A3×A4):A3:=x.2.2.2.1
abbrev _root_.Prod.p4 {A0 A1 A2 A3 A4 A5:Type} (x:A0×A1×A2×A3×A4×A5):A4:=x.2.2.2.2.1
abbrev _root_.Prod.p5 {A0 A1 A2 A3 A4 A5 A6:Type} (x:A0×A1×A2×A3×A4×A5×A6):A5:=x.2.2.2.2.2.1
abbrev _root_.Prod.p6 {A0 A1 A2 A3 A4 A5 A6 A7:Type} (x:A0×A1×A2×A3×A4×A5×A6×A7):A6:=x.2.2.2.2.2.2.1
abbrev _root_.Prod.p7 {A0 A1 A2 A3 A4 A5 A6 A7 A8:Type} (x:A0×A1×A2×A3×A4×A5×A6×A7×A8):A7:=x.2.2.2.2.2.2.2.1
abbrev _root_.Prod.p8 {A0 A1 A2 A3 A4 A5 A6 A7 A8 A9:Type} (x:A0×A1×A2×A3×A4×A5×A6×A7×A8×A9):A8:=x.2.2.2.2.2.2.2.2.1
abbrev _root_.Prod.p9 {A0 A1 A2 A3 A4 A5 A6 A7 A8 A9 A10:Type} (x:A0×A1×A2×A3×A4×A5×A6×A7×A8×A9×A10):A9:=x.2.2.2.2.2.2.2.2.2.1
abbrev _root_.Prod.q10 {A0 A1 A2 A3 A4 A5 A6 A7 A8 A9 A10:Type} (x:A0×A1×A2×A3×A4×A5×A6×A7×A8×A9×A10):A10:=x.2.2.2.2.2.2.2.2.2.2
abbrev _root_.Prod.q11 {A0 A1 A2 A3 A4 A5 A6 A7 A8 A9 A10 A11:Type} (x:A0×A1×A2×A3×A4×A5×A6×A7×A8×A9×A10×A11):A11:=x.2.2.2.2.2.2.2.2.2.2.2
abbrev _root_.Prod.q14 {A0 A1 A2 A3 A4 A5 A6 A7 A8 A9 A10 A11 A12 A13 A14:Type} (x:A0×A1×A2×A3×A4×A5×A6×A7×A8×A9×A10×A11×A12×A13×A14):A14:=x.2.2.2.2.2.2.2.2.2.2.2.2.2.2
abbrev _root_.Prod.q3 {A0 A1 A2 A3:Type} (x:A0×A1×A2×A3):A3:=x.2.2.2
abbrev _root_.Prod.q4 {A0 A1 A2 A3 A4:Type} (x:A0×A1×A2×A3×A4):A4:=x.2.2.2.2
abbrev _root_.Prod.q5 {A0 A1 A2 A3 A4 A5:Type} (x:A0×A1×A2×A3×A4×A5):A5:=x.2.2.2.2.2
abbrev _root_.Prod.q6 {A0 A1 A2 A3 A4 A5 A6:Type} (x:A0×A1×A2×A3×A4×A5×A6):A6:=x.2.2.2.2.2.2
abbrev _root_.Prod.q7 {A0 A1 A2 A3 A4 A5 A6 A7:Type} (x:A0×A1×A2×A3×A4×A5×A6×A7):A7:=x.2.2.2.2.2.2.2
abbrev _root_.Prod.q8 {A0 A1 A2 A3 A4 A5 A6 A7 A8:Type} (x:A0×A1×A2×A3×A4×A5×A6×A7×A8):A8:=x.2.2.2.2.2.2.2.2
abbrev _root_.Prod.q9 {A0 A1 A2 A3 A4 A5 A6 A7 A8 A9:Type} (x:A0×A1×A2×A3×A4×A5×A6×A7×A8×A9):A9:=x.2.2.2.2.2.2.2.2.2
def El_:Nat->Type
 | 0=>Int
 | 1=>Xa
 | 2=>Xb
 | 3=>Xc
 | 4=>Xd
 | 5=>Bool
 | 6=>Int
 | 7=>(List Int)
 | 8=>Xg
 | 9=>(List Xg)
 | 10=>Xh
 | 11=>Int
 | 12=>(List Int)
 | 13=>Xi
 | 14=>Xj
 | 15=>Xe
 | _+16=>Empty
def c0 (_:Bool) (x:Int):List AV:=[.sc (.int .u8 x)]
def d0 (_:Bool) (x:Int):List (TV El_):=[.sc (.int .u8 x)]
def c1 (_:Bool) (x:Xa):List AV:=[.sc (.string x.Name_),.sc (.int .i64 x.Kind_),.sc (.int .i64 x.Len_)]
def d1 (_:Bool) (x:Xa):List (TV El_):=[.sc (.string x.Name_),.sc (.int .i64 x.Kind_),.sc (.int .i64 x.Len_)]
def c2 (_:Bool) (x:Xb):List AV:=[.sc (.int .i64 x.Kind_),.sc (.int .i64 x.Param_)]
def d2 (_:Bool) (x:Xb):List (TV El_):=[.sc (.int .i64 x.Kind_),.sc (.int .i64 x.Param_)]
def c3 (_:Bool) (x:Xc):List AV:=[.sc (.int .i64 x.Type_.Kind_),.sc (.int .i64 x.Type_.Param_),.sc (.bool x.Keep_),.sc (.int .u32 x.Bits_),.sc (.int .i64 x.Int_)]
def d3 (_:Bool) (x:Xc):List (TV El_):=[.sc (.int .i64 x.Type_.Kind_),.sc (.int .i64 x.Type_.Param_),.sc (.bool x.Keep_),.sc (.int .u32 x.Bits_),.sc (.int .i64 x.Int_)]
def c4 (_:Bool) (x:Xd):List AV:=[.sc (.int .i64 x.Op_),.sc (.int .i64 x.D_),.sc (.int .i64 x.A_),.sc (.int .i64 x.B_),.sc (.int .i64 x.C_),.sc (.int .i64 x.N_),.sc (.int .u32 x.Bits_)]
def d4 (_:Bool) (x:Xd):List (TV El_):=[.sc (.int .i64 x.Op_),.sc (.int .i64 x.D_),.sc (.int .i64 x.A_),.sc (.int .i64 x.B_),.sc (.int .i64 x.C_),.sc (.int .i64 x.N_),.sc (.int .u32 x.Bits_)]
def c5 (_:Bool) (x:Bool):List AV:=[.sc (.bool x)]
def d5 (_:Bool) (x:Bool):List (TV El_):=[.sc (.bool x)]
def c6 (_:Bool) (x:Int):List AV:=[.sc (.int .i64 x)]
def d6 (_:Bool) (x:Int):List (TV El_):=[.sc (.int .i64 x)]
def c7:Bool->(List Int)->List AV
 | true,x=>[.ow 1 (x.map (c6 false))]
 | false,x=>[.im 1 (x.map (c6 false))]
def d7:Bool->(List Int)->List (TV El_)
 | true,x=>[.ow false 6 x]
 | false,x=>[.im 6 x]
def c8 (_:Bool) (x:Xg):List AV:=[.sc (.int .i64 x.k_.i_.Op_),.sc (.int .i64 x.k_.i_.D_),.sc (.int .i64 x.k_.i_.A_),.sc (.int .i64 x.k_.i_.B_),.sc (.int .i64 x.k_.i_.C_),.sc (.int .i64 x.k_.i_.N_),.sc (.int .u32 x.k_.i_.Bits_),.sc (.int .i64 x.k_.t_.Kind_),.sc (.int .i64 x.k_.t_.Param_),.sc (.int .i64 x.v_)]
def d8 (_:Bool) (x:Xg):List (TV El_):=[.sc (.int .i64 x.k_.i_.Op_),.sc (.int .i64 x.k_.i_.D_),.sc (.int .i64 x.k_.i_.A_),.sc (.int .i64 x.k_.i_.B_),.sc (.int .i64 x.k_.i_.C_),.sc (.int .i64 x.k_.i_.N_),.sc (.int .u32 x.k_.i_.Bits_),.sc (.int .i64 x.k_.t_.Kind_),.sc (.int .i64 x.k_.t_.Param_),.sc (.int .i64 x.v_)]
def c9:Bool->(List Xg)->List AV
 | true,x=>[.ow 10000010 (x.map (c8 false))]
 | false,x=>[.un]
def d9:Bool->(List Xg)->List (TV El_)
 | true,x=>[.ow false 8 x]
 | false,x=>[.un]
def c10:Bool->Xh->List AV
 | true,x=>[.sc (.int .i64 x.Op_),.sc (.int .i64 x.Param_),.ow 1 (x.Set_.map (c5 false))]
 | false,x=>[.sc (.int .i64 x.Op_),.sc (.int .i64 x.Param_),.im 1 (x.Set_.map (c5 false))]
def d10:Bool->Xh->List (TV El_)
 | true,x=>[.sc (.int .i64 x.Op_),.sc (.int .i64 x.Param_),.ow false 5 x.Set_]
 | false,x=>[.sc (.int .i64 x.Op_),.sc (.int .i64 x.Param_),.im 5 x.Set_]
def c11 (_:Bool) (x:Int):List AV:=[.sc (.int .u32 x)]
def d11 (_:Bool) (x:Int):List (TV El_):=[.sc (.int .u32 x)]
def c12:Bool->(List Int)->List AV
 | true,x=>[.ow 1 (x.map (c11 false))]
 | false,x=>[.im 1 (x.map (c11 false))]
def d12:Bool->(List Int)->List (TV El_)
 | true,x=>[.ow false 11 x]
 | false,x=>[.im 11 x]
def c13:Bool->Xi->List AV
 | true,x=>[.ow 1 (x.Grads_.map (c12 true)),.ow 1 (x.Params_.map (c12 true))]
 | false,x=>[.im 1 (x.Grads_.map (c12 false)),.im 1 (x.Params_.map (c12 false))]
def d13:Bool->Xi->List (TV El_)
 | true,x=>[.ow true 12 x.Grads_,.ow true 12 x.Params_]
 | false,x=>[.im 12 x.Grads_,.im 12 x.Params_]
def c14:Bool->Xj->List AV
 | true,x=>[.ow 1 (x.Nums_.map (c6 false)),.sc (.int .i64 x.Int_)]
 | false,x=>[.im 1 (x.Nums_.map (c6 false)),.sc (.int .i64 x.Int_)]
def d14:Bool->Xj->List (TV El_)
 | true,x=>[.ow false 6 x.Nums_,.sc (.int .i64 x.Int_)]
 | false,x=>[.im 6 x.Nums_,.sc (.int .i64 x.Int_)]
def c15:Bool->Xe->List AV
 | true,x=>[.ow 3 (x.Sign_.map (c1 false)),.ow 2 (x.Regs_.map (c2 false)),.ow 5 (x.Slots_.map (c3 false)),.ow 7 (x.List_.map (c4 false))]
 | false,x=>[.im 3 (x.Sign_.map (c1 false)),.im 2 (x.Regs_.map (c2 false)),.im 5 (x.Slots_.map (c3 false)),.im 7 (x.List_.map (c4 false))]
def d15:Bool->Xe->List (TV El_)
 | true,x=>[.ow false 1 x.Sign_,.ow false 2 x.Regs_,.ow false 3 x.Slots_,.ow false 4 x.List_]
 | false,x=>[.im 1 x.Sign_,.im 2 x.Regs_,.im 3 x.Slots_,.im 4 x.List_]
def ca_ (m:Bool):(t:Nat)->El_ t->List AV
 | 0=>c0 m
 | 1=>c1 m
 | 2=>c2 m
 | 3=>c3 m
 | 4=>c4 m
 | 5=>c5 m
 | 6=>c6 m
 | 7=>c7 m
 | 8=>c8 m
 | 9=>c9 m
 | 10=>c10 m
 | 11=>c11 m
 | 12=>c12 m
 | 13=>c13 m
 | 14=>c14 m
 | 15=>c15 m
 | _+16=>λ_=>[]
def ct_ (m:Bool):(t:Nat)->El_ t->List (TV El_)
 | 0=>d0 m
 | 1=>d1 m
 | 2=>d2 m
 | 3=>d3 m
 | 4=>d4 m
 | 5=>d5 m
 | 6=>d6 m
 | 7=>d7 m
 | 8=>d8 m
 | 9=>d9 m
 | 10=>d10 m
 | 11=>d11 m
 | 12=>d12 m
 | 13=>d13 m
 | 14=>d14 m
 | 15=>d15 m
 | _+16=>λ_=>[]
def sz_:Nat->Nat
 | 0=>1
 | 1=>3
 | 2=>2
 | 3=>5
 | 4=>7
 | 5=>1
 | 6=>1
 | 7=>1
 | 8=>10000010
 | 9=>1
 | 10=>3
 | 11=>1
 | 12=>1
 | 13=>2
 | 14=>2
 | 15=>4
 | _+16=>0
def ks_ (m:Bool):Nat->List Kd
 | 0=>[]
 | 1=>[]
 | 2=>[]
 | 3=>[]
 | 4=>[]
 | 5=>[]
 | 6=>[]
 | 7=>bif m then [.ow false 6] else [.im 6]
 | 8=>[]
 | 9=>bif m then [.no] else [.no]
 | 10=>bif m then [.no,.no,.ow false 5] else [.no,.no,.im 5]
 | 11=>[]
 | 12=>bif m then [.ow false 11] else [.im 11]
 | 13=>bif m then [.ow true 12,.ow true 12] else [.im 12,.im 12]
 | 14=>bif m then [.ow false 6,.no] else [.im 6,.no]
 | 15=>bif m then [.ow false 1,.ow false 2,.ow false 3,.ow false 4] else [.im 1,.im 2,.im 3,.im 4]
 | _+16=>[]
abbrev T0_:TT0:=⟨El_,sz_,ca_⟩
def u0 (m:Bool):List (TV El_)->Option Int
 | [v0]=>((gI .u8 v0).bind λa0=>some a0)
 | _=>none
def u1 (m:Bool):List (TV El_)->Option Xa
 | [v0,v1,v2]=>((gS v0).bind λa0=>(gI .i64 v1).bind λa1=>(gI .i64 v2).bind λa2=>some ⟨a0,a1,a2⟩)
 | _=>none
def u2 (m:Bool):List (TV El_)->Option Xb
 | [v0,v1]=>((gI .i64 v0).bind λa0=>(gI .i64 v1).bind λa1=>some ⟨a0,a1⟩)
 | _=>none
def u3 (m:Bool):List (TV El_)->Option Xc
 | [v0,v1,v2,v3,v4]=>((gI .i64 v0).bind λa0=>(gI .i64 v1).bind λa1=>(gB v2).bind λa2=>(gI .u32 v3).bind λa3=>(gI .i64 v4).bind λa4=>some ⟨⟨a0,a1⟩,a2,a3,a4⟩)
 | _=>none
def u4 (m:Bool):List (TV El_)->Option Xd
 | [v0,v1,v2,v3,v4,v5,v6]=>((gI .i64 v0).bind λa0=>(gI .i64 v1).bind λa1=>(gI .i64 v2).bind λa2=>(gI .i64 v3).bind λa3=>(gI .i64 v4).bind λa4=>(gI .i64 v5).bind λa5=>(gI .u32 v6).bind λa6=>some ⟨a0,a1,a2,a3,a4,a5,a6⟩)
 | _=>none
def u5 (m:Bool):List (TV El_)->Option Bool
 | [v0]=>((gB v0).bind λa0=>some a0)
 | _=>none
def u6 (m:Bool):List (TV El_)->Option Int
 | [v0]=>((gI .i64 v0).bind λa0=>some a0)
 | _=>none
def u7 (m:Bool):List (TV El_)->Option (List Int)
 | [v0]=>bif m then ((gO false 6 v0).bind λa0=>some a0) else ((gM 6 v0).bind λa0=>some a0)
 | _=>none
def u8 (m:Bool):List (TV El_)->Option Xg
 | [v0,v1,v2,v3,v4,v5,v6,v7,v8,v9]=>((gI .i64 v0).bind λa0=>(gI .i64 v1).bind λa1=>(gI .i64 v2).bind λa2=>(gI .i64 v3).bind λa3=>(gI .i64 v4).bind λa4=>(gI .i64 v5).bind λa5=>(gI .u32 v6).bind λa6=>(gI .i64 v7).bind λa7=>(gI .i64 v8).bind λa8=>(gI .i64 v9).bind λa9=>some ⟨⟨⟨a0,a1,a2,a3,a4,a5,a6⟩,⟨a7,a8⟩⟩,a9⟩)
 | _=>none
def u9 (m:Bool):List (TV El_)->Option (List Xg)
 | [v0]=>bif m then ((gO false 8 v0).bind λa0=>some a0) else none
 | _=>none
def u10 (m:Bool):List (TV El_)->Option Xh
 | [v0,v1,v2]=>bif m then ((gI .i64 v0).bind λa0=>(gI .i64 v1).bind λa1=>(gO false 5 v2).bind λa2=>some ⟨a0,a1,a2⟩) else ((gI .i64 v0).bind λa0=>(gI .i64 v1).bind λa1=>(gM 5 v2).bind λa2=>some ⟨a0,a1,a2⟩)
 | _=>none
def u11 (m:Bool):List (TV El_)->Option Int
 | [v0]=>((gI .u32 v0).bind λa0=>some a0)
 | _=>none
def u12 (m:Bool):List (TV El_)->Option (List Int)
 | [v0]=>bif m then ((gO false 11 v0).bind λa0=>some a0) else ((gM 11 v0).bind λa0=>some a0)
 | _=>none
def u13 (m:Bool):List (TV El_)->Option Xi
 | [v0,v1]=>bif m then ((gO true 12 v0).bind λa0=>(gO true 12 v1).bind λa1=>some ⟨a0,a1⟩) else ((gM 12 v0).bind λa0=>(gM 12 v1).bind λa1=>some ⟨a0,a1⟩)
 | _=>none
def u14 (m:Bool):List (TV El_)->Option Xj
 | [v0,v1]=>bif m then ((gO false 6 v0).bind λa0=>(gI .i64 v1).bind λa1=>some ⟨a0,a1⟩) else ((gM 6 v0).bind λa0=>(gI .i64 v1).bind λa1=>some ⟨a0,a1⟩)
 | _=>none
def u15 (m:Bool):List (TV El_)->Option Xe
 | [v0,v1,v2,v3]=>bif m then ((gO false 1 v0).bind λa0=>(gO false 2 v1).bind λa1=>(gO false 3 v2).bind λa2=>(gO false 4 v3).bind λa3=>some ⟨a0,a1,a2,a3⟩) else ((gM 1 v0).bind λa0=>(gM 2 v1).bind λa1=>(gM 3 v2).bind λa2=>(gM 4 v3).bind λa3=>some ⟨a0,a1,a2,a3⟩)
 | _=>none
def un_ (m:Bool):(t:Nat)->List (TV El_)->Option (El_ t)
 | 0=>u0 m
 | 1=>u1 m
 | 2=>u2 m
 | 3=>u3 m
 | 4=>u4 m
 | 5=>u5 m
 | 6=>u6 m
 | 7=>u7 m
 | 8=>u8 m
 | 9=>u9 m
 | 10=>u10 m
 | 11=>u11 m
 | 12=>u12 m
 | 13=>u13 m
 | 14=>u14 m
 | 15=>u15 m
 | _+16=>λ_=>none
theorem yfc (m:Bool) (l:List (TV El_)) (x:Int) (h:u0 m l=some x):denL T0_ [] l=c0 m x:=by
 unfold u0 at h;split at h
 ·skip
  obtain ⟨a0,h0,h⟩:=z9 h;cases h;simp only [denL,z1d (T:=T0_) h0];rfl
 ·cases h
theorem yfd (m:Bool) (l:List (TV El_)) (x:Xa) (h:u1 m l=some x):denL T0_ [] l=c1 m x:=by
 unfold u1 at h;split at h
 ·skip
  obtain ⟨a0,h0,h⟩:=z9 h;obtain ⟨a1,h1,h⟩:=z9 h;obtain ⟨a2,h2,h⟩:=z9 h;cases h;simp only [denL,yf4 (T:=T0_) h0,z1d (T:=T0_) h1,z1d (T:=T0_) h2];rfl
 ·cases h
theorem yfe (m:Bool) (l:List (TV El_)) (x:Xb) (h:u2 m l=some x):denL T0_ [] l=c2 m x:=by
 unfold u2 at h;split at h
 ·skip
  obtain ⟨a0,h0,h⟩:=z9 h;obtain ⟨a1,h1,h⟩:=z9 h;cases h;simp only [denL,z1d (T:=T0_) h0,z1d (T:=T0_) h1];rfl
 ·cases h
theorem yff (m:Bool) (l:List (TV El_)) (x:Xc) (h:u3 m l=some x):denL T0_ [] l=c3 m x:=by
 unfold u3 at h;split at h
 ·skip
  obtain ⟨a0,h0,h⟩:=z9 h;obtain ⟨a1,h1,h⟩:=z9 h;obtain ⟨a2,h2,h⟩:=z9 h;obtain ⟨a3,h3,h⟩:=z9 h;obtain ⟨a4,h4,h⟩:=z9 h;cases h;simp only [denL,z1d (T:=T0_) h0,z1d (T:=T0_) h1,y3e (T:=T0_) h2,z1d (T:=T0_) h3,z1d (T:=T0_) h4];rfl
 ·cases h
theorem yfg (m:Bool) (l:List (TV El_)) (x:Xd) (h:u4 m l=some x):denL T0_ [] l=c4 m x:=by
 unfold u4 at h;split at h
 ·skip
  obtain ⟨a0,h0,h⟩:=z9 h;obtain ⟨a1,h1,h⟩:=z9 h;obtain ⟨a2,h2,h⟩:=z9 h;obtain ⟨a3,h3,h⟩:=z9 h;obtain ⟨a4,h4,h⟩:=z9 h;obtain ⟨a5,h5,h⟩:=z9 h;obtain ⟨a6,h6,h⟩:=z9 h;cases h;simp only [denL,z1d (T:=T0_) h0,z1d (T:=T0_) h1,z1d (T:=T0_) h2,z1d (T:=T0_) h3,z1d (T:=T0_) h4,z1d (T:=T0_) h5,z1d (T:=T0_) h6];rfl
 ·cases h
theorem yfh (m:Bool) (l:List (TV El_)) (x:Bool) (h:u5 m l=some x):denL T0_ [] l=c5 m x:=by
 unfold u5 at h;split at h
 ·skip
  obtain ⟨a0,h0,h⟩:=z9 h;cases h;simp only [denL,y3e (T:=T0_) h0];rfl
 ·cases h
theorem yfi (m:Bool) (l:List (TV El_)) (x:Int) (h:u6 m l=some x):denL T0_ [] l=c6 m x:=by
 unfold u6 at h;split at h
 ·skip
  obtain ⟨a0,h0,h⟩:=z9 h;cases h;simp only [denL,z1d (T:=T0_) h0];rfl
 ·cases h
theorem yfj (m:Bool) (l:List (TV El_)) (x:(List Int)) (h:u7 m l=some x):denL T0_ [] l=c7 m x:=by
 unfold u7 at h;split at h
 ·cases m
  ·simp only [cond_false] at h;obtain ⟨a0,h0,h⟩:=z9 h;cases h;simp only [denL,z6s (T:=T0_) h0];rfl
  ·simp only [cond_true] at h;obtain ⟨a0,h0,h⟩:=z9 h;cases h;simp only [denL,z61 (T:=T0_) h0];rfl
 ·cases h
theorem yfk (m:Bool) (l:List (TV El_)) (x:Xg) (h:u8 m l=some x):denL T0_ [] l=c8 m x:=by
 unfold u8 at h;split at h
 ·skip
  obtain ⟨a0,h0,h⟩:=z9 h;obtain ⟨a1,h1,h⟩:=z9 h;obtain ⟨a2,h2,h⟩:=z9 h;obtain ⟨a3,h3,h⟩:=z9 h;obtain ⟨a4,h4,h⟩:=z9 h;obtain ⟨a5,h5,h⟩:=z9 h;obtain ⟨a6,h6,h⟩:=z9 h;obtain ⟨a7,h7,h⟩:=z9 h;obtain ⟨a8,h8,h⟩:=z9 h;obtain ⟨a9,h9,h⟩:=z9 h;cases h;simp only [denL,z1d (T:=T0_) h0,z1d (T:=T0_) h1,z1d (T:=T0_) h2,z1d (T:=T0_) h3,z1d (T:=T0_) h4,z1d (T:=T0_) h5,z1d (T:=T0_) h6,z1d (T:=T0_) h7,z1d (T:=T0_) h8,z1d (T:=T0_) h9];rfl
 ·cases h
theorem yfl (m:Bool) (l:List (TV El_)) (x:(List Xg)) (h:u9 m l=some x):denL T0_ [] l=c9 m x:=by
 unfold u9 at h;split at h
 ·cases m
  ·simp only [cond_false] at h;cases h
  ·simp only [cond_true] at h;obtain ⟨a0,h0,h⟩:=z9 h;cases h;simp only [denL,z61 (T:=T0_) h0];rfl
 ·cases h
theorem ycw (m:Bool) (l:List (TV El_)) (x:Xh) (h:u10 m l=some x):denL T0_ [] l=c10 m x:=by
 unfold u10 at h;split at h
 ·cases m
  ·simp only [cond_false] at h;obtain ⟨a0,h0,h⟩:=z9 h;obtain ⟨a1,h1,h⟩:=z9 h;obtain ⟨a2,h2,h⟩:=z9 h;cases h;simp only [denL,z1d (T:=T0_) h0,z1d (T:=T0_) h1,z6s (T:=T0_) h2];rfl
  ·simp only [cond_true] at h;obtain ⟨a0,h0,h⟩:=z9 h;obtain ⟨a1,h1,h⟩:=z9 h;obtain ⟨a2,h2,h⟩:=z9 h;cases h;simp only [denL,z1d (T:=T0_) h0,z1d (T:=T0_) h1,z61 (T:=T0_) h2];rfl
 ·cases h
theorem ycx (m:Bool) (l:List (TV El_)) (x:Int) (h:u11 m l=some x):denL T0_ [] l=c11 m x:=by
 unfold u11 at h;split at h
 ·skip
  obtain ⟨a0,h0,h⟩:=z9 h;cases h;simp only [denL,z1d (T:=T0_) h0];rfl
 ·cases h
theorem ycy (m:Bool) (l:List (TV El_)) (x:(List Int)) (h:u12 m l=some x):denL T0_ [] l=c12 m x:=by
 unfold u12 at h;split at h
 ·cases m
  ·simp only [cond_false] at h;obtain ⟨a0,h0,h⟩:=z9 h;cases h;simp only [denL,z6s (T:=T0_) h0];rfl
  ·simp only [cond_true] at h;obtain ⟨a0,h0,h⟩:=z9 h;cases h;simp only [denL,z61 (T:=T0_) h0];rfl
 ·cases h
theorem ycz (m:Bool) (l:List (TV El_)) (x:Xi) (h:u13 m l=some x):denL T0_ [] l=c13 m x:=by
 unfold u13 at h;split at h
 ·cases m
  ·simp only [cond_false] at h;obtain ⟨a0,h0,h⟩:=z9 h;obtain ⟨a1,h1,h⟩:=z9 h;cases h;simp only [denL,z6s (T:=T0_) h0,z6s (T:=T0_) h1];rfl
  ·simp only [cond_true] at h;obtain ⟨a0,h0,h⟩:=z9 h;obtain ⟨a1,h1,h⟩:=z9 h;cases h;simp only [denL,z61 (T:=T0_) h0,z61 (T:=T0_) h1];rfl
 ·cases h
theorem yd0 (m:Bool) (l:List (TV El_)) (x:Xj) (h:u14 m l=some x):denL T0_ [] l=c14 m x:=by
 unfold u14 at h;split at h
 ·cases m
  ·simp only [cond_false] at h;obtain ⟨a0,h0,h⟩:=z9 h;obtain ⟨a1,h1,h⟩:=z9 h;cases h;simp only [denL,z6s (T:=T0_) h0,z1d (T:=T0_) h1];rfl
  ·simp only [cond_true] at h;obtain ⟨a0,h0,h⟩:=z9 h;obtain ⟨a1,h1,h⟩:=z9 h;cases h;simp only [denL,z61 (T:=T0_) h0,z1d (T:=T0_) h1];rfl
 ·cases h
theorem yd1 (m:Bool) (l:List (TV El_)) (x:Xe) (h:u15 m l=some x):denL T0_ [] l=c15 m x:=by
 unfold u15 at h;split at h
 ·cases m
  ·simp only [cond_false] at h;obtain ⟨a0,h0,h⟩:=z9 h;obtain ⟨a1,h1,h⟩:=z9 h;obtain ⟨a2,h2,h⟩:=z9 h;obtain ⟨a3,h3,h⟩:=z9 h;cases h;simp only [denL,z6s (T:=T0_) h0,z6s (T:=T0_) h1,z6s (T:=T0_) h2,z6s (T:=T0_) h3];rfl
  ·simp only [cond_true] at h;obtain ⟨a0,h0,h⟩:=z9 h;obtain ⟨a1,h1,h⟩:=z9 h;obtain ⟨a2,h2,h⟩:=z9 h;obtain ⟨a3,h3,h⟩:=z9 h;cases h;simp only [denL,z61 (T:=T0_) h0,z61 (T:=T0_) h1,z61 (T:=T0_) h2,z61 (T:=T0_) h3];rfl
 ·cases h
theorem im7:∀ (m:Bool) (x:(List Int)),z1w (c7 m x)=c7 false x
 | true,x=>by simp [c7,z1w,toIm,MB,z2p (o:=c6 false) (c:=c6 false) (λ_=>rfl)]
 | false,_=>rfl
theorem ow7 (x:(List Int)):z1h (c7 true x)=true:=by simp [c7,z1h,noIm,z20 (o:=c6 false) (λ_=>rfl)]
theorem im9:∀ (m:Bool) (x:(List Xg)),z1w (c9 m x)=c9 false x
 | true,x=>by simp [c9,z1w,toIm,MB]
 | false,_=>rfl
theorem ow9 (x:(List Xg)):z1h (c9 true x)=true:=by simp [c9,z1h,noIm,z20 (o:=c8 false) (λ_=>rfl)]
theorem im10:∀ (m:Bool) (x:Xh),z1w (c10 m x)=c10 false x
 | true,x=>by simp [c10,z1w,toIm,MB,z2p (o:=c5 false) (c:=c5 false) (λ_=>rfl)]
 | false,_=>rfl
theorem ow10 (x:Xh):z1h (c10 true x)=true:=by simp [c10,z1h,noIm,z20 (o:=c5 false) (λ_=>rfl)]
theorem im12:∀ (m:Bool) (x:(List Int)),z1w (c12 m x)=c12 false x
 | true,x=>by simp [c12,z1w,toIm,MB,z2p (o:=c11 false) (c:=c11 false) (λ_=>rfl)]
 | false,_=>rfl
theorem ow12 (x:(List Int)):z1h (c12 true x)=true:=by simp [c12,z1h,noIm,z20 (o:=c11 false) (λ_=>rfl)]
theorem im13:∀ (m:Bool) (x:Xi),z1w (c13 m x)=c13 false x
 | true,x=>by simp [c13,z1w,toIm,MB,z2p (o:=c12 true) (c:=c12 false) (λ_=>im12 true _)]
 | false,_=>rfl
theorem ow13 (x:Xi):z1h (c13 true x)=true:=by simp [c13,z1h,noIm,z20 (o:=c12 true) (λ_=>ow12 _)]
theorem im14:∀ (m:Bool) (x:Xj),z1w (c14 m x)=c14 false x
 | true,x=>by simp [c14,z1w,toIm,MB,z2p (o:=c6 false) (c:=c6 false) (λ_=>rfl)]
 | false,_=>rfl
theorem ow14 (x:Xj):z1h (c14 true x)=true:=by simp [c14,z1h,noIm,z20 (o:=c6 false) (λ_=>rfl)]
theorem im15:∀ (m:Bool) (x:Xe),z1w (c15 m x)=c15 false x
 | true,x=>by simp [c15,z1w,toIm,MB,z2p (o:=c1 false) (c:=c1 false) (λ_=>rfl),z2p (o:=c2 false) (c:=c2 false) (λ_=>rfl),z2p (o:=c3 false) (c:=c3 false) (λ_=>rfl),z2p (o:=c4 false) (c:=c4 false) (λ_=>rfl)]
 | false,_=>rfl
theorem ow15 (x:Xe):z1h (c15 true x)=true:=by simp [c15,z1h,noIm,z20 (o:=c1 false) (λ_=>rfl),z20 (o:=c2 false) (λ_=>rfl),z20 (o:=c3 false) (λ_=>rfl),z20 (o:=c4 false) (λ_=>rfl)]
theorem y65:∀ (m:Bool) (t:Nat) (x:El_ t),denL T0_ [] (ct_ m t x)=ca_ m t x
 | m,0,x=>rfl
 | m,1,x=>rfl
 | m,2,x=>rfl
 | m,3,x=>rfl
 | m,4,x=>rfl
 | m,5,x=>rfl
 | m,6,x=>rfl
 | m,7,x=>by cases m<;>rfl
 | m,8,x=>rfl
 | m,9,x=>by cases m<;>rfl
 | m,10,x=>by cases m<;>rfl
 | m,11,x=>rfl
 | m,12,x=>by cases m<;>rfl
 | m,13,x=>by cases m<;>rfl
 | m,14,x=>by cases m<;>rfl
 | m,15,x=>by cases m<;>rfl
 | _,_+16,x=>rfl
theorem y64:∀ (m:Bool) (t:Nat) (x:El_ t),inRL (T:=T0_) (ct_ m t x)=true
 | m,0,x=>rfl
 | m,1,x=>rfl
 | m,2,x=>rfl
 | m,3,x=>rfl
 | m,4,x=>rfl
 | m,5,x=>rfl
 | m,6,x=>rfl
 | m,7,x=>by cases m<;>rfl
 | m,8,x=>rfl
 | m,9,x=>by cases m<;>rfl
 | m,10,x=>by cases m<;>rfl
 | m,11,x=>rfl
 | m,12,x=>by cases m<;>rfl
 | m,13,x=>by cases m<;>rfl
 | m,14,x=>by cases m<;>rfl
 | m,15,x=>by cases m<;>rfl
 | _,_+16,x=>rfl
theorem yd2:∀ (m:Bool) (t:Nat) (cs:List (TV El_)) (x:El_ t),un_ m t cs=some x->denL T0_ [] cs=ca_ m t x
 | m,0,cs,x=>yfc m cs x
 | m,1,cs,x=>yfd m cs x
 | m,2,cs,x=>yfe m cs x
 | m,3,cs,x=>yff m cs x
 | m,4,cs,x=>yfg m cs x
 | m,5,cs,x=>yfh m cs x
 | m,6,cs,x=>yfi m cs x
 | m,7,cs,x=>yfj m cs x
 | m,8,cs,x=>yfk m cs x
 | m,9,cs,x=>yfl m cs x
 | m,10,cs,x=>ycw m cs x
 | m,11,cs,x=>ycx m cs x
 | m,12,cs,x=>ycy m cs x
 | m,13,cs,x=>ycz m cs x
 | m,14,cs,x=>yd0 m cs x
 | m,15,cs,x=>yd1 m cs x
 | _,_+16,_,x=>λ_=>nomatch x
theorem yc7:∀ (m:Bool) (t:Nat) (x:El_ t),z1w (ca_ m t x)=ca_ false t x
 | m,0,x=>rfl
 | m,1,x=>rfl
 | m,2,x=>rfl
 | m,3,x=>rfl
 | m,4,x=>rfl
 | m,5,x=>rfl
 | m,6,x=>rfl
 | m,7,x=>im7 m x
 | m,8,x=>rfl
 | m,9,x=>im9 m x
 | m,10,x=>im10 m x
 | m,11,x=>rfl
 | m,12,x=>im12 m x
 | m,13,x=>im13 m x
 | m,14,x=>im14 m x
 | m,15,x=>im15 m x
 | _,_+16,x=>rfl
def po_:Nat->Bool
 | 0=>true
 | 1=>true
 | 2=>true
 | 3=>true
 | 4=>true
 | 5=>true
 | 6=>true
 | 7=>true
 | 8=>true
 | 9=>true
 | 10=>true
 | 11=>true
 | 12=>true
 | 13=>true
 | 14=>true
 | 15=>true
 | _+16=>true
theorem ycp:∀ (t:Nat) (x:El_ t),po_ t=true->z1h (ca_ true t x)=true
 | 0,x=>λ_=>rfl
 | 1,x=>λ_=>rfl
 | 2,x=>λ_=>rfl
 | 3,x=>λ_=>rfl
 | 4,x=>λ_=>rfl
 | 5,x=>λ_=>rfl
 | 6,x=>λ_=>rfl
 | 7,x=>λ_=>ow7 x
 | 8,x=>λ_=>rfl
 | 9,x=>λ_=>ow9 x
 | 10,x=>λ_=>ow10 x
 | 11,x=>λ_=>rfl
 | 12,x=>λ_=>ow12 x
 | 13,x=>λ_=>ow13 x
 | 14,x=>λ_=>ow14 x
 | 15,x=>λ_=>ow15 x
 | _+16,x=>λ_=>rfl
def pl_:Nat->Bool
 | 0=>true
 | 1=>true
 | 2=>true
 | 3=>true
 | 4=>true
 | 5=>true
 | 6=>true
 | 7=>false
 | 8=>true
 | 9=>false
 | 10=>false
 | 11=>true
 | 12=>false
 | 13=>false
 | 14=>false
 | 15=>false
 | _+16=>true
theorem ycq:∀ (t:Nat) (x:El_ t),pl_ t=true->z1h (ca_ false t x)=true
 | 0,x=>λ_=>rfl
 | 1,x=>λ_=>rfl
 | 2,x=>λ_=>rfl
 | 3,x=>λ_=>rfl
 | 4,x=>λ_=>rfl
 | 5,x=>λ_=>rfl
 | 6,x=>λ_=>rfl
 | 7,x=>λh=>nomatch h
 | 8,x=>λ_=>rfl
 | 9,x=>λh=>nomatch h
 | 10,x=>λh=>nomatch h
 | 11,x=>λ_=>rfl
 | 12,x=>λh=>nomatch h
 | 13,x=>λh=>nomatch h
 | 14,x=>λh=>nomatch h
 | 15,x=>λh=>nomatch h
 | _+16,x=>λ_=>rfl
theorem y8b:∀ (t:Nat) (x:El_ t),(ca_ false t x).all zd1=true
 | 0,x=>rfl
 | 1,x=>rfl
 | 2,x=>rfl
 | 3,x=>rfl
 | 4,x=>rfl
 | 5,x=>rfl
 | 6,x=>rfl
 | 7,x=>rfl
 | 8,x=>rfl
 | 9,x=>rfl
 | 10,x=>rfl
 | 11,x=>rfl
 | 12,x=>rfl
 | 13,x=>rfl
 | 14,x=>rfl
 | 15,x=>rfl
 | _+16,x=>rfl
theorem ycl:∀ (m:Bool) (t:Nat) (x:El_ t),∀ a∈ca_ m t x,isZ a=false
 | m,0,x=>z2o rfl
 | m,1,x=>z2o rfl
 | m,2,x=>z2o rfl
 | m,3,x=>z2o rfl
 | m,4,x=>z2o rfl
 | m,5,x=>z2o rfl
 | m,6,x=>z2o rfl
 | m,7,x=>by cases m<;>exact z2o rfl
 | m,8,x=>z2o rfl
 | m,9,x=>by cases m<;>exact z2o rfl
 | m,10,x=>by cases m<;>exact z2o rfl
 | m,11,x=>z2o rfl
 | m,12,x=>by cases m<;>exact z2o rfl
 | m,13,x=>by cases m<;>exact z2o rfl
 | m,14,x=>by cases m<;>exact z2o rfl
 | m,15,x=>by cases m<;>exact z2o rfl
 | _,_+16,x=>z2o rfl
theorem ycb:∀ (m:Bool) (t:Nat),(ks_ m t).all (smK sz_)=true
 | m,0=>rfl
 | m,1=>rfl
 | m,2=>rfl
 | m,3=>rfl
 | m,4=>rfl
 | m,5=>rfl
 | m,6=>rfl
 | m,7=>by cases m<;>rfl
 | m,8=>rfl
 | m,9=>by cases m<;>rfl
 | m,10=>by cases m<;>rfl
 | m,11=>rfl
 | m,12=>by cases m<;>rfl
 | m,13=>by cases m<;>rfl
 | m,14=>by cases m<;>rfl
 | m,15=>by cases m<;>rfl
 | _,_+16=>rfl
theorem ycc:∀ (m:Bool) (t:Nat) (x:El_ t),(ca_ m t x).length=sz_ t % 1000000
 | m,0,x=>rfl
 | m,1,x=>rfl
 | m,2,x=>rfl
 | m,3,x=>rfl
 | m,4,x=>rfl
 | m,5,x=>rfl
 | m,6,x=>rfl
 | m,7,x=>by cases m<;>rfl
 | m,8,x=>by simp [ca_,c8,sz_]
 | m,9,x=>by cases m<;>rfl
 | m,10,x=>by cases m<;>rfl
 | m,11,x=>rfl
 | m,12,x=>by cases m<;>rfl
 | m,13,x=>by cases m<;>rfl
 | m,14,x=>by cases m<;>rfl
 | m,15,x=>by cases m<;>rfl
 | _,_+16,x=>rfl
def kO8:List Value->Bool
 | [.int .i64 _,.int .i64 _,.int .i64 _,.int .i64 _,.int .i64 _,.int .i64 _,.int .u32 _,.int .i64 _,.int .i64 _]=>true
 | _=>false
def kf8:List Value->Xg->Bool
 | [.int .i64 a0,.int .i64 a1,.int .i64 a2,.int .i64 a3,.int .i64 a4,.int .i64 a5,.int .u32 a6,.int .i64 a7,.int .i64 a8],x=>(a0==x.k_.i_.Op_&&(a1==x.k_.i_.D_&&(a2==x.k_.i_.A_&&(a3==x.k_.i_.B_&&(a4==x.k_.i_.C_&&(a5==x.k_.i_.N_&&(a6==x.k_.i_.Bits_&&(a7==x.k_.t_.Kind_&&(a8==x.k_.t_.Param_&&true)))))))))
 | _,_=>false
theorem yc9 (m:Bool) (kv:List Value) (x:Xg) (h:kO8 kv=true):zt (kv.map .sc) (c8 m x) (z1v 0 [0,0,0,0,0,0,0,0,0])=some (kf8 kv x):=by
 unfold kO8 at h;split at h
 ·rfl
 ·cases h
def kq_:Nat->List Nat
 | 8=>[0,0,0,0,0,0,0,0,0]
 | _=>[]
def kO_:Nat->List Value->Bool
 | 0=>λ_=>false
 | 1=>λ_=>false
 | 2=>λ_=>false
 | 3=>λ_=>false
 | 4=>λ_=>false
 | 5=>λ_=>false
 | 6=>λ_=>false
 | 7=>λ_=>false
 | 8=>kO8
 | 9=>λ_=>false
 | 10=>λ_=>false
 | 11=>λ_=>false
 | 12=>λ_=>false
 | 13=>λ_=>false
 | 14=>λ_=>false
 | 15=>λ_=>false
 | _+16=>λ_=>false
def kf_:(t:Nat)->List Value->El_ t->Bool
 | 0=>λ_ _=>false
 | 1=>λ_ _=>false
 | 2=>λ_ _=>false
 | 3=>λ_ _=>false
 | 4=>λ_ _=>false
 | 5=>λ_ _=>false
 | 6=>λ_ _=>false
 | 7=>λ_ _=>false
 | 8=>kf8
 | 9=>λ_ _=>false
 | 10=>λ_ _=>false
 | 11=>λ_ _=>false
 | 12=>λ_ _=>false
 | 13=>λ_ _=>false
 | 14=>λ_ _=>false
 | 15=>λ_ _=>false
 | _+16=>λ_ _=>false
theorem yca:∀ (m:Bool) (t:Nat) (kv:List Value) (x:El_ t),kO_ t kv=true->zt (kv.map .sc) (ca_ m t x) (z1v 0 (kq_ t))=some (kf_ t kv x)
 | m,0,kv,x=>λh=>nomatch h
 | m,1,kv,x=>λh=>nomatch h
 | m,2,kv,x=>λh=>nomatch h
 | m,3,kv,x=>λh=>nomatch h
 | m,4,kv,x=>λh=>nomatch h
 | m,5,kv,x=>λh=>nomatch h
 | m,6,kv,x=>λh=>nomatch h
 | m,7,kv,x=>λh=>nomatch h
 | m,8,kv,x=>yc9 m kv x
 | m,9,kv,x=>λh=>nomatch h
 | m,10,kv,x=>λh=>nomatch h
 | m,11,kv,x=>λh=>nomatch h
 | m,12,kv,x=>λh=>nomatch h
 | m,13,kv,x=>λh=>nomatch h
 | m,14,kv,x=>λh=>nomatch h
 | m,15,kv,x=>λh=>nomatch h
 | _,_+16,_,_=>λh=>nomatch h
abbrev Ty_:TT where
 El:=El_
 sz:=sz_
 ca:=ca_
 ks:=ks_
 ct:=ct_
 un:=un_
 ct_ok:=y65
 ct_in:=y64
 un_ok:=yd2
 im_ok:=yc7
 po:=po_
 ow_ok:=ycp
 nz_ok:=ycl
 fl_ok:=y8b
 pl:=pl_
 pl_ok:=ycq
 u8:=0
 bs:=λl=>l
 bs_ok:=λ_=>rfl
 bs_sz:=rfl
 sb:=λl=>l
 sb_ok:=λ_ _=>rfl
 ks_sm:=ycb
 ln_ok:=ycc
 kq:=kq_
 kOk:=kO_
 kf:=kf_
 kf_ok:=yca
abbrev Yaa:=Int×Int
abbrev Yab:=Int×(List Int)
abbrev Yac:=Int×(List Xa)×(List Xb)×(List Xc)×(List Xd)
abbrev Yad:=(List Xa)×(List Xb)×(List Xc)×(List Xd)×(List Bool)×(List (List Int))×(List Int)×Xd
abbrev Yae:=Int×(List (List Int))
abbrev Yaf:=Int×(List Bool)
abbrev Yag:=Int×Bool
abbrev Yah:=Bool×Int×Int×Bool×Bool
abbrev Yai:=Bool×(List Xa)×(List Xb)×(List Xc)×(List Xd)
abbrev Yaj:=Xe×Xd
abbrev Yak:=Xe×Xe
abbrev Yal:=(List Xa)×(List Xb)×(List Xc)
abbrev Yam:=ByteArray×Bool
abbrev Yan:=Bool×(List Xa)×(List Xb)×(List Xc)×(List Xd)×(List Bool)×(List (List Int))×(List Int)
abbrev Yao:=Int×Int×Int
abbrev Yap:=Bool×Bool×Bool×Int×Int×Bool×Bool×Bool×Int×Int×Bool×Bool
abbrev Yaq:=Int×(List Xd)×(List (List Xg))×(List Int)
abbrev Yar:=(List Xb)×(List Xa)×(List Xb)×(List Xc)×(List Xd)
abbrev Yas:=(List Xc)×(List Xa)×(List Xb)×(List Xc)×(List Xd)
abbrev Yat:=Int×Int×Int×Int×Int×Int×Int
abbrev Yau:=(List Int)×Int
abbrev Yav:=Int×(List Xj)
abbrev Yaw:=Xk×(List (List Int))×(List (List Int))
abbrev Yax:=Int×(List Xa)×(List Xb)×(List Xc)×(List Xd)×(List Bool)×(List (List Int))×(List Int)×Int×Int×Int×Int
abbrev Yay:=Int×(List Xa)×(List Xb)×(List Xc)×(List Xd)×(List Bool)×(List (List Int))×(List Int)
abbrev Yaz:=ByteArray×Int×Int
abbrev Yba:=Xe×Xd×(List Bool)×(List Xh)
abbrev Ybb:=Int×(List Bool)×(List Xh)
abbrev Ybc:=Int×Int×Int×Int
abbrev Ybd:=Int×Int×Int×Int×Int
abbrev Ybe:=(List Xd)×Int×(List Xa)×(List Xb)×(List Xc)
abbrev Ybf:=Xk×Int
abbrev Ybg:=(List (List Xg))×(List Int)×Xd
abbrev Ybh:=(List (List Xg))×(List Int)×Xf
abbrev Ybi:=(List Xa)×ByteArray
abbrev Ybj:=Bool×Int×Int
abbrev Ybk:=Bool×(List Int)
abbrev Ybl:=Xl×Xd
abbrev Ybm:=Int×(List Xa)×(List Xb)×(List Xc)×(List Xd)×(List Xj)×(List Xa)×(List Xb)×(List Xc)×(List Xd)×(List Xj)
abbrev Ybn:=(List Int)×(List Int)
abbrev Ybo:=Bool×(List Xa)×(List Xb)×(List Xc)×(List Xd)×(List Bool)×(List (List Int))×(List Int)×Int×Int
abbrev Ybp:=(List (List Xg))×(List Int)×Int×Int×Int×Int×Int×Int×Int
abbrev Ybq:=Int×Int×(List Xa)×(List Xb)×(List Xc)×(List Xd)×(List Xj)×(List Xj)×(List (List Int))×(List (List Int))×(List (List Int))×Int
abbrev Ybr:=Xe×Xe×(List Xi)×Int
abbrev Ybs:=Bool×Int×Int×Int×Int×Int
abbrev Ybt:=Bool×Int
abbrev Ybu:=Bool×(List (List Xg))×(List Int)×Int×Int×Int×Int×Int×Int×Int
abbrev Ybv:=ByteArray×Bool×Int×Int
abbrev Ybw:=Bool×Bool
abbrev Ybx:=Bool×Bool×Int×Int×Bool×Bool×Bool×Int×Int×Bool×Bool
abbrev Yby:=(List (List Int))×(List (List Int))
abbrev Ybz:=Bool×(List Xa)×(List Xb)×(List Xc)×(List Xd)×(List Xj)×(List Xa)×(List Xb)×(List Xc)×(List Xd)×(List Xj)
abbrev Yca:=ByteArray×Int
abbrev Ycb:=(List Xa)×(List Xb)×(List Xc)×(List Xd)×(List Bool)×(List (List Int))×(List Int)×Int
abbrev Ycc:=Xa×(List Int)×Int
abbrev Ycd:=Xe×Xe×Bool
abbrev Yce:=(List Xa)×(List Xb)×(List Xc)×(List Xd)
abbrev Ycf:=Xb×(List Xa)×(List Xb)×(List Xc)×(List Xd)
abbrev Ycg:=Xc×(List Xa)×(List Xb)×(List Xc)×(List Xd)
abbrev Ych:=Xb×Int×Xb
abbrev Yci:=(List Xa)×(List Xb)×(List Xc)×(List Xd)×(List Bool)×(List (List Int))×(List Int)
abbrev Ycj:=Int×Bool×(List (List Xg))×(List Int)
abbrev Yck:=Xb×(List Xa)
abbrev Ycl:=Xc×(List Xa)
abbrev Ycm:=Xe×Int×Int×Xb
abbrev Ycn:=Xe×Int×Int
abbrev Yco:=Int×(List Xa)×(List Xb)×(List Xc)×(List Xd)×(List Xj)
abbrev Ycp:=(List Xa)×(List (List Int))
abbrev Ycq:=(List (List Int))×Int×(List Xa)×(List Xb)×(List Xc)×(List Xd)×(List Xj)
abbrev Ycr:=Bool×(List Xa)×(List Xb)×(List Xc)×(List Xd)×(List Bool)×(List (List Int))×(List Int)×Int×Int×Int×Int×Int×Int×Int
abbrev Ycs:=(List (List Int))×(List Int)
abbrev Yct:=Bool×(List (List Int))×(List Int)
abbrev Ycu:=Int×Int×Bool×Bool
abbrev Ycv:=Bool×Int×Int×Int×Int×Int×Int×Int
abbrev Ycw:=Bool×Bool×Int×Int×Bool×Bool
abbrev Ycx:=Bool×Int×Int×Bool×Bool×Bool×Int×Int×Bool×Bool
abbrev Ycy:=Bool×Int×Bool×Int×Int×Bool×Bool×Bool×Int×Int×Bool×Bool
abbrev Ycz:=(List Xa)×(List Xb)×(List Xc)×(List Xd)×(List Xj)×(List Xj)×(List (List Int))×(List (List Int))×(List (List Int))×Int
abbrev Yda:=Bool×Int×Int×Int×Int×Int×Int×Int×Int
abbrev Ydb:=(List (List Int))×Int×Int×(List Xa)×(List Xb)×(List Xc)×(List Xd)×(List Xj)
abbrev Ydc:=Int×Int×(List Int)
abbrev Ydd:=(List Xb)×(List Xb)
def y8c (n:Nat):Cx P_ Ty_:=⟨[],[(9,false,1),(15,false,2),(21,false,3),(27,false,4)],[],[]⟩
abbrev y8d:List (List Nat):=[[1,2],[1,2,3],[1,2,3],[1,2,3],[1,2,3],[2,3],[2]]
def ztm (n:Nat) (x:Xe):Pt P_ Ty_ [] (Yce):=.need (x.Sign_.length * 32<=140737488355328) (.need (x.Regs_.length * 16<=140737488355328) (.need (x.Slots_.length * 32<=140737488355328) (.need (x.List_.length * 56<=140737488355328) (.leaf (x.Sign_,x.Regs_,x.Slots_,x.List_)))))
def k101 (n:Nat):Con P_ Ty_:=zb (X:=Xe) (R:=Yce) (pro:=[]) (y8c n) 7 y8d (λx=>.no) [.ag [.im 1,.im 2,.im 3,.im 4]] [] [100000] ⟨[(2,.ref 100000)],[(100000,.any)]⟩ [100000] true (λx=>[.ag [.im 1 x.Sign_,.im 2 x.Regs_,.im 3 x.Slots_,.im 4 x.List_]]) (λx=>[]) (λy=>([(2,.pt 100000 [] 0 0)],[(100000,.lit 4 [[.ow false 1 y.1,.ow false 2 y.2.1,.ow false 3 y.2.2.1,.ow false 4 y.q3]])])) (λy=>.ag [.sw 100000 [(0,0)],.sw 100000 [(0,1)],.sw 100000 [(0,2)],.sw 100000 [(0,3)]]) (λy=>[(100000,.lit 4 [[.ow false 1 y.1,.ow false 2 y.2.1,.ow false 3 y.2.2.1,.ow false 4 y.q3]])]) (ztm n)
set_option maxHeartbeats 1000000 in
theorem yd6 (s:ByteArray) (c:Int) (w:World) :
  Calls Go.Proofs.Tryz.prog 107 #[.string s,.int .u8 c] w λe w'=>e = .returned (.int .i64 (Lib.indexByte s.data.toList c.toNat.toUInt8))/\w'=w:=by
 go_enter Go.Proofs.Tryz.func107,Go.Proofs.Tryz.ntmps107
 go_wp2
 rw [run_callFunc_extern Go.Proofs.Tryz.func117 (by kernel_rfl) (by kernel_rfl) (by kernel_rfl) (e:=Extern.BytealgIndexByte.indexByte) (by kernel_rfl),Lib.run_indexByteString];simp only [Result.andThen];rw [Oper.upon_value]
 go_wp2
 go_ret
 exact ⟨rfl,rfl⟩
def g71 (_:Nat) (a0:ByteArray) (a1:Int):Option Int:=some (Lib.indexByte a0.data.toList a1.toNat.toUInt8)
theorem zxo (n:Nat) (a0:ByteArray) (a1:Int) (r:Int) (hg:g71 n a0 a1=some r):z17 Go.Proofs.Tryz.prog 107 [St a0,.sc (.int .u8 a1)] [] (I64 r) []:=by obtain rfl:=Option.some.inj hg;exact z17.quiet (vs:=[.string a0,.int .u8 a1]) λw=>yd6 a0 a1 w
def k71 (n:Nat):Con Go.Proofs.Tryz.prog Ty_ where
 f:=107
 X:=ByteArray×Int
 Y:=Int
 A:=[.any,.any]
 H:=[]
 N:=[]
 encA:=λx=>[.sc (.string x.1),.sc (.int .u8 x.2)]
 encH:=λ_=>[]
 G:=λx=>g71 n x.1 x.2
 encR:=λy=>.sc (.int .i64 y)
 encO:=λ_=>[]
 strong:=true
 ok:=λx y h=>⟨λ_=>zxo n x.1 x.2 y h,z17.toG (zxo n x.1 x.2 y h)⟩
def yey (n:Nat):Cx P_ Ty_:=⟨[k71 n],[],[],[]⟩
abbrev yez:List (List Nat):=[[0,1],[4]]
def y39 (n:Nat) (x:Yca):Pt P_ Ty_ [] Int:=.call (k71 n) (x.1,x.2) λ(y1:Int)=>.leaf y1
def k68 (n:Nat):Con P_ Ty_:=zb (X:=Yca) (R:=Int) (pro:=[]) (yey n) 96 yez (λx=>.no) [.any,.any] [] [] ⟨[(4,.any)],[]⟩ [] true (λx=>[.sc (.string x.1),.sc (.int .u8 x.2)]) (λx=>[]) (λy=>([(4,I_ y)],[])) (λy=>I_ y) (λy=>[]) (y39 n)
def y2t (n:Nat):Cx P_ Ty_:=⟨[k68 n],[],[],[]⟩
abbrev y2u:List (List Nat):=[[0],[0,11],[2],[13,14,15],[13,14,15,16],[4,13,14,15],[4,13,14,15,19],[4,13,14,15,19],[4,13,14,15,19],[13,14,15,19],[2],[13,14,15],[2]]
def zxc (x:ByteArray) (p:Bool):EH Ty_:=([(0,.sc (.string x)),(11,B_ p)],[])
def zxd (x:ByteArray) (v1:Unit) (q1:Int) (p:Yag):EH Ty_:=([(4,.sc (.int .u8 p.1)),(13,.im 0 (bytesOf x)),(14,I_ ((bytesOf x).length:Int)),(15,I_ q1),(19,B_ p.2)],[])
def zxe (x:ByteArray) (v1:Unit) (q1:Int) (p:Yag):EH Ty_:=([(4,.sc (.int .u8 p.1)),(13,.im 0 (bytesOf x)),(14,I_ ((bytesOf x).length:Int)),(15,I_ q1),(19,B_ p.2)],[])
def zxf (x:ByteArray) (v1:Unit) (q1:Int) (p:Yag):EH Ty_:=([(4,.sc (.int .u8 p.1)),(13,.im 0 (bytesOf x)),(14,I_ ((bytesOf x).length:Int)),(15,I_ q1),(19,B_ p.2)],[])
def zxg (x:ByteArray) (v1:Unit) (q1:Int) (p:Bool):EH Ty_:=([(13,.im 0 (bytesOf x)),(14,I_ ((bytesOf x).length:Int)),(15,I_ q1),(19,B_ p)],[])
def zxh (n:Nat) (x:ByteArray) (v1:Unit) (q1:Int):Pt P_ Ty_ [] (Bo Int Int Unit):=.ite (decide (q1<((bytesOf x).length:Int))) (.bnd (idx (bytesOf x) q1) λy1=>.join (S:=Bool) (zxg x v1 q1) (.join (S:=Yag) (zxd x v1 q1) (.ite (decide (y1>=(65:Int))) (.leaf (.inl (y1,(decide (y1<=(90:Int)))))) (.leaf (.inl (y1,false)))) λs2=>.ite s2.2 (.leaf (.inl true)) (.join (S:=Yag) (zxe x v1 q1) (.ite (decide (s2.1>=(97:Int))) (.leaf (.inl (s2.1,(decide (s2.1<=(122:Int)))))) (.leaf (.inl (s2.1,false)))) λs3=>.ite s3.2 (.leaf (.inl true)) (.join (S:=Yag) (zxf x v1 q1) (.ite (decide (s3.1>=(48:Int))) (.leaf (.inl (s3.1,(decide (s3.1<=(57:Int)))))) (.leaf (.inl (s3.1,false)))) λs4=>.ite s4.2 (.leaf (.inl true)) (.call (k68 n) ((⟨#[95,46,47,45]⟩:ByteArray),s4.1) λ(y2:Int)=>.leaf (.inl (decide (y2>=(0:Int)))))))) λs5=>.ite s5 (.leaf (.go (IntKind.i64.wrap (q1+(1:Int))))) (.leaf (.ret ()))) (.leaf (.out q1))
def zxb (n:Nat) (x:ByteArray) (v1:Unit):LCon P_ Ty_ []:=lcon (X:=Int) (Y:=Int) (Z:=Unit) (y2t n) (subC [1,1,0,1,0,0] (fnC P_ 78 y2u)) (λq1=>.two .no (.two .no (.two (.two (.two .no (.two (.join Bool (zxg x v1 q1) ⟨[(13,.im 0),(14,.any),(15,.any),(19,.any)],[]⟩ (.join (Yag) (zxd x v1 q1) ⟨[(4,.any),(13,.im 0),(14,.any),(15,.any),(19,.any)],[]⟩ .no (.two .no (.join (Yag) (zxe x v1 q1) ⟨[(4,.any),(13,.im 0),(14,.any),(15,.any),(19,.any)],[]⟩ .no (.two .no (.join (Yag) (zxf x v1 q1) ⟨[(4,.any),(13,.im 0),(14,.any),(15,.any),(19,.any)],[]⟩ .no .no))))) .no) .no)) .no) .no))) 0 true ⟨[(13,.im 0),(14,.any),(15,.any)],[]⟩ ⟨[(13,.im 0),(14,.any),(15,.any),(16,.any)],[]⟩ ⟨[(2,.any)],[]⟩ (λq1=>([(13,.im 0 (bytesOf x)),(14,I_ ((bytesOf x).length:Int)),(15,I_ q1)],[])) (λp=>([(13,.im 0 (bytesOf x)),(14,I_ ((bytesOf x).length:Int)),(15,I_ p),(16,B_ false)],[])) (λp=>([(2,B_ false)],[])) n (zxh n x v1)
def y2v (n:Nat) (x:ByteArray):Pt P_ Ty_ [] Bool:=.join (S:=Bool) (zxc x) (.ite (x==(⟨#[]⟩:ByteArray)) (.leaf (.inl true)) (.leaf (.inl (decide ((x.size:Int) > (64:Int)))))) λs1=>.ite s1 (.leaf false) (.loopR (V:=Unit) (zxb n x) () (0:Int) (λ(v1:Unit) (y3:Int)=>.leaf true) λ(v1:Unit) (z1:Unit)=>.leaf false)
def k61 (n:Nat):Con P_ Ty_:=zb (X:=ByteArray) (R:=Bool) (pro:=[]) (y2t n) 78 y2u (λx=>.two .no (.two (.join Bool (zxc x) ⟨[(0,.any),(11,.any)],[]⟩ .no .no) (.two (.two .no (.two (.loop Unit (zxb n x) true ⟨[(13,.im 0),(14,.any),(15,.any)],[]⟩) .no)) .no))) [.any] [] [] ⟨[(2,.any)],[]⟩ [] true (λx=>[.sc (.string x)]) (λx=>[]) (λy=>([(2,B_ y)],[])) (λy=>B_ y) (λy=>[]) (y2v n)
def ye8 (n:Nat):Cx P_ Ty_:=⟨[k61 n],[],[],[]⟩
abbrev ye9:List (List Nat):=[[1],[2]]
def y1w (n:Nat) (x:Xa):Pt P_ Ty_ [] Bool:=.call (k61 n) x.Name_ λ(y1:Bool)=>.ite y1 (.ite (x.Kind_==1) (.ite (decide (x.Len_>=(1:Int))) (.leaf (decide (x.Len_<=(4096:Int)))) (.leaf false)) (.ite (x.Kind_==2) (.ite (decide (x.Len_>=(1:Int))) (.leaf (decide (x.Len_<=(4096:Int)))) (.leaf false)) (.leaf false))) (.leaf false)
def k48 (n:Nat):Con P_ Ty_:=zb (X:=Xa) (R:=Bool) (pro:=[]) (ye8 n) 57 ye9 (λx=>.no) [.ag [.any,.any,.any]] [] [] ⟨[(2,.any)],[]⟩ [] true (λx=>[.ag [.sc (.string x.Name_),I_ x.Kind_,I_ x.Len_]]) (λx=>[]) (λy=>([(2,B_ y)],[])) (λy=>B_ y) (λy=>[]) (y1w n)
def yeo (n:Nat):Cx P_ Ty_:=⟨[k48 n],[],[],[]⟩
abbrev yep:List (List Nat):=[[1],[1,3],[2],[1,7],[2],[2]]
def y2w (n:Nat) (x:Xa):Pt P_ Ty_ [] Int:=.call (k48 n) x λ(y1:Bool)=>.ite (!y1) (.leaf (0:Int)) (.ite (x.Kind_==2) (.leaf (IntKind.i64.wrap ((2:Int) * x.Len_))) (.leaf x.Len_))
def k62 (n:Nat):Con P_ Ty_:=zb (X:=Xa) (R:=Int) (pro:=[]) (yeo n) 79 yep (λx=>.no) [.ag [.any,.any,.any]] [] [] ⟨[(2,.any)],[]⟩ [] true (λx=>[.ag [.sc (.string x.Name_),I_ x.Kind_,I_ x.Len_]]) (λx=>[]) (λy=>([(2,I_ y)],[])) (λy=>I_ y) (λy=>[]) (y2w n)
def y1x (n:Nat):Cx P_ Ty_:=⟨[k62 n],[],[],[]⟩
abbrev y1y:List (List Nat):=[[0],[0,3],[3,6,7,8],[3,6,7,8,9],[3,5,6,7,8],[3,6,7,8],[3,6,7,8],[2]]
def zws (n:Nat) (x:(List Xa)) (v1:Unit) (q1:Yaa):Pt P_ Ty_ [] (Bo (Yaa) (Yaa) Empty):=.ite (decide (q1.2<(x.length:Int))) (.bnd (idx x q1.2) λy1=>.call (k62 n) y1 λ(y2:Int)=>.leaf (.go ((IntKind.i64.wrap (q1.1+y2)),(IntKind.i64.wrap (q1.2+(1:Int)))))) (.leaf (.out (q1.1,q1.2)))
def zwr (n:Nat) (x:(List Xa)) (v1:Unit):LCon P_ Ty_ []:=lcon (X:=Yaa) (Y:=Yaa) (Z:=Empty) (y1x n) (subC [1,1,0,1,0,0] (fnC P_ 58 y1y)) (λq1=>.no) 0 false ⟨[(3,.any),(6,.im 1),(7,.any),(8,.any)],[]⟩ ⟨[(3,.any),(6,.im 1),(7,.any),(8,.any),(9,.any)],[]⟩ ⟨[],[]⟩ (λq1=>([(3,I_ q1.1),(6,.im 1 x),(7,I_ (x.length:Int)),(8,I_ q1.2)],[])) (λp=>([(3,I_ p.1),(6,.im 1 x),(7,I_ (x.length:Int)),(8,I_ p.2),(9,B_ false)],[])) (λp=>nomatch p) n (zws n x v1)
def y1z (n:Nat) (x:(List Xa)):Pt P_ Ty_ [] Int:=.loop (V:=Unit) (zwr n x) () ((0:Int),(0:Int)) λ(v1:Unit) (y3:Yaa)=>.leaf y3.1
def k49 (n:Nat):Con P_ Ty_:=zb (X:=(List Xa)) (R:=Int) (pro:=[]) (y1x n) 58 y1y (λx=>.two .no (.two .no (.two (.two .no (.two (.loop Unit (zwr n x) false ⟨[(3,.any),(6,.im 1),(7,.any),(8,.any)],[]⟩) .no)) .no))) [.im 1] [] [] ⟨[(2,.any)],[]⟩ [] true (λx=>[.im 1 x]) (λx=>[]) (λy=>([(2,I_ y)],[])) (λy=>I_ y) (λy=>[]) (y1z n)
def zvz (n:Nat) (a0:List Xa):Option Int:=(k49 n).G a0
def zgm (n:Nat) (a0:Xa):Option Bool:=(k48 n).G a0
theorem yc4 (n:Nat) (p:Xa) (v:Bool) (hv:(k48 n).G p=some v):z17 Go.Proofs.Tryz.prog 57 [.ag [St p.Name_,I64 p.Kind_,I64 p.Len_]] [] (Bl v) []:=((k48 n).ok p v hv).1 rfl
theorem yc5 (n:Nat) (p:List Xa) (v:Int) (hv:(k49 n).G p=some v):z17 Go.Proofs.Tryz.prog 58 [.im 3 (p.map (c1 false))] [] (I64 v) []:=((k49 n).ok p v hv).1 rfl
/-- sign.Check over the parameters: none: one may not be;else the names,each once. -/
def z9k (n:Nat):List Xa->List ByteArray->Option (Option (List ByteArray))
 | [],ks=>some (some ks)
 | p::l,ks=>(zgm n p).bind λv=>bif v then z9k n l (bif has p.Name_ ks then ks else ks++[p.Name_]) else some none
def z7s (n:Nat) (a0:List Xa):Option (List ByteArray)->Option Int
 | none=>some 100
 | some ks=>bif decide ((ks.length:Int)<((a0.map (c1 false)).length:Int)) then some 101 else (zvz n a0).bind λv=>bif decide (v > 65536) then some 102 else some 0
def g28 (n:Nat) (a0:List Xa):Option Int:=bif decide (((a0.map (c1 false)).length:Int) > 64) then some 2 else (z9k n a0 []).bind (z7s n a0)

namespace F28
abbrev P:Program:=Go.Proofs.Tryz.prog
def b:Code:=(Go.Proofs.Tryz.f36.body).getD .skip
theorem body:Go.Proofs.Tryz.f36.body=some b:=by kernel_rfl
theorem e1:b = .seq (lf b) (.seq (lf (rt b)) (.seq (.region (rid (lf (rt (rt b)))) (rops (lf (rt (rt b)))) false) (.seq (lf (rt (rt (rt b)))) (rt (rt (rt (rt b))))))):=by kernel_rfl
abbrev R3:Array Oper:=rops (lf (rt (rt b)))
def z:Code:=lf (rt (rt (rt b)))
def q:Code:=rt (rt (rt (rt b)))
def l:Code:=lf (lf (rt z))
theorem e2:z = .seq (lf z) (.block 0 (.loop l)):=by kernel_rfl
theorem e3:l = .seq (lf l) (.seq (.cond (.tmp 13) .skip (.exit 0)) (.seq (.block 1 (.seq (lf (lf (lf (rt (rt l))))) (.seq (lf (rt (lf (lf (rt (rt l)))))) (.region (rid (rt (rt (lf (lf (rt (rt l))))))) (rops (rt (rt (lf (lf (rt (rt l))))))) false)))) (rt (rt (rt l))))):=by kernel_rfl
abbrev R9:Array Oper:=rops (rt (rt (lf (lf (rt (rt l))))))
theorem e4:q = .seq (.block 2 (.seq (.region (rid (lf (lf (lf q)))) (rops (lf (lf (lf q)))) false) (rt (lf (lf q))))) (rt q):=by kernel_rfl
abbrev R11:Array Oper:=rops (lf (lf (lf q)))
end F28
namespace F28
abbrev xs (a0:List Xa):Els:=a0.map (c1 false)
abbrev mp (b:Nat):AV:=.sc (.map (some b))
/-- The slots at the loop's head. -/
abbrev EL (a0:List Xa) (b:Nat) (i:Int):Env:=zv [(0,.im 3 (xs a0)),(3,mp b),(10,.im 3 (xs a0)),(11,I64 ((xs a0).length:Int)),(12,I64 i)]
abbrev EL' (a0:List Xa) (b:Nat) (i:Int):Env:=zv [(0,.im 3 (xs a0)),(3,mp b),(10,.im 3 (xs a0)),(11,I64 ((xs a0).length:Int)),(12,I64 i),(13,Bl (decide (i<((xs a0).length:Int))))]
theorem ut:P.underlying 122=some (.map 9 3):=by kernel_rfl
theorem uk:P.underlying 9=some .string:=by kernel_rfl
theorem uz (w:World):(zeroValue 3).run P w = .ok (.int .i64 0) w:=by kernel_rfl

theorem yda {w0 w:World} {a:Act} {a0:List Xa} {bm:Nat} {ks:List ByteArray} {i:Int} {p:Xa} {Q:Exit->Act->World->Prop}
  (n:Now 35 w0 (some (bm,ks)) (zv [(0,.im 3 (xs a0)),(3,mp bm),(5,.pt 5 [] 0 0),(10,.im 3 (xs a0)),(11,I64 ((xs a0).length:Int)),(12,I64 i),(18,Bl false)]) [(5,⟨3,[[St p.Name_,I64 p.Kind_,I64 p.Len_]]⟩)] a w)
  (hK:∀ a' w',Now 35 w0 (some (bm,bif has p.Name_ ks then ks else ks++[p.Name_])) (EL a0 bm i) [] a' w'->Q .normal a' w') :
  (Code.region (rid (rt (rt (lf (lf (rt (rt l))))))) R9 false).wp P Q a w:=by
 refine wp_region ?_;have hr:range R9.size=[0,1,2,3,4,5]:=by kernel_rfl
 rw [hr];refine n.rda (d:=19) (b:=.mov (.tmp 3)) (mp bm) (by kernel_rfl) (by kernel_rfl) λa w n=>?_;refine n.rda (d:=20) (b:=.fad 0 (.tmp 5)) (.pt 5 [] 0 0) (by kernel_rfl) (by kernel_rfl) λa w n=>?_;refine n.rda (d:=21) (b:=.load false 1 (.tmp 20)) (St p.Name_) (by kernel_rfl) (by kernel_rfl) λa w n=>?_;obtain ⟨o,ho,hg,hd,hop⟩:=zh5 (ops:=R9) (i:=3) (g:=none) (d:=some 22) (op:=.lookup 122 (.tmp 19) (.tmp 21) false) (by kernel_rfl);obtain ⟨c,hc⟩:=(n.km bm ks rfl).1.lookup (P:=P) ut uk (uz w) p.Name_;have hm:a.eval (.tmp 19) = .map (some bm):=n.eval rfl;have hk:a.eval (.tmp 21) = .string p.Name_:=n.eval rfl;refine n.val (v:=.int .i64 c) ho hg hd (by decide) (by simp only [execOp,hop,hm,hk,Sem.run_bind,hc,Result.andThen];rfl) λa n=>?_;refine n.rda (d:=23) (b:=.bin .add (.tmp 22) (.const (.int .i64 1))) (I64 (IntKind.i64.wrap (c+1))) (by kernel_rfl) (by kernel_rfl) λa w n=>?_;obtain ⟨o,ho,hg,hd,hop⟩:=zh5 (ops:=R9) (i:=5) (g:=none) (d:=none) (op:=.mapUpdate 122 (.tmp 19) (.tmp 21) (.tmp 23)) (by kernel_rfl);refine n.upd ho hg hd hop ut uk rfl rfl rfl λa w n=>?_;exact hK _ _ (n.gh (z6.norm (P:=P) (bm:=[]) (S:=[0,3,10,11,12]) (by kernel_rfl)))

theorem loop {n:Nat} {w0:World} {a0:List Xa} {bm:Nat} {r:Int} {Q:Exit->Act->World->Prop} (he:∀ ks a w,z7s n a0 (some ks)=some r->Now 35 w0 (some (bm,ks)) (EL' a0 bm a0.length) [] a w->Q (.exit 0) a w)
  (hr:∀ m e' h' a' w',z69 e' h' [.t 2]=some (I64 r)->Now 35 w0 m e' h' a' w'->Q .ret a' w'):∀ (rest pre:List Xa) (ks:List ByteArray) (a:Act) (w:World),a0=pre++rest->a0.length<=64->(z9k n rest ks).bind (z7s n a0)=some r ->
  Now 35 w0 (some (bm,ks)) (EL a0 bm pre.length) [] a w->z2u P F28.l Q a w:=by
 intro rest
 induction rest with
 | nil =>
  intro pre ks a w hp hlen hg nw;refine z2u.step (Eq.mpr (congrArg (λX:Code=>X.wp P (Exit.then (z2u P F28.l Q) Q) a w) e3) ?_)
  focus
   refine wp_seq (nw.ex (c:=.reg [0,3,10,11,12,13] [⟨13,none,.rd (.bin .lss (.tmp 12) (.tmp 11))⟩]) (R:=λo e h=>o = .normal/\e=EL' a0 bm pre.length/\h=[]) ⟨[[0,3,10,11,12,13]],[],by kernel_rfl⟩ (W.regG (RG.fin 1 [] _ [] (by kernel_rfl) ⟨rfl,rfl,rfl⟩)) ?_);rintro o e h a w ⟨rfl,rfl,rfl⟩ nw;refine wp_seq (wp_cond (t:=false) ?_ (wp_exit ?_))
   ·rw [nw.eval (v:=.bool (decide ((pre.length:Int)<((xs a0).length:Int)))) rfl];simp [xs,hp]
   ·refine he ks a w ?_ ?_
    ·simpa [z9k] using hg
    ·have:pre.length=a0.length:=by simp [hp]
     rw [<- this];exact nw
 | cons p rest ih =>
  intro pre ks a w hp hlen hg nw
  have hi:idx a0 (pre.length:Int)=some p:=by simp [idx,hp]
  have hl:pre.length<a0.length:=by simp [hp]
  refine z2u.step (Eq.mpr (congrArg (λX:Code=>X.wp P (Exit.then (z2u P F28.l Q) Q) a w) e3) ?_)
  focus
   refine wp_seq (nw.ex (c:=.reg [0,3,10,11,12,13] [⟨13,none,.rd (.bin .lss (.tmp 12) (.tmp 11))⟩]) (R:=λo e h=>o = .normal/\e=EL' a0 bm pre.length/\h=[]) ⟨[[0,3,10,11,12,13]],[],by kernel_rfl⟩ (W.regG (RG.fin 1 [] _ [] (by kernel_rfl) ⟨rfl,rfl,rfl⟩)) ?_);rintro o e h a w ⟨rfl,rfl,rfl⟩ nw;refine wp_seq (wp_cond (t:=true) ?_ (wp_skip ?_))
   ·rw [nw.eval (v:=.bool (decide ((pre.length:Int)<((xs a0).length:Int)))) rfl];simp [xs,hp];omega
   show (Code.seq _ _).wp _ _ _ _
   refine wp_seq (wp_block (wp_seq (nw.ex (c:=.reg [0,3,5,10,11,12] [⟨14,none,.rd (.iad 3 (.tmp 10) (.tmp 12))⟩,⟨15,none,.rd (.load true 3 (.tmp 14))⟩,⟨5,none,.mk (.box 3 (.const (.agg #[(.string ⟨#[]⟩),(.int .i64 (0)),(.int .i64 (0))])))⟩,⟨35,none,.st 3 (.tmp 5) (.tmp 15)⟩])
    (R:=λo e h=>o = .normal/\e=zv [(0,.im 3 (xs a0)),(3,mp bm),(5,.pt 5 [] 0 0),(10,.im 3 (xs a0)),(11,I64 ((xs a0).length:Int)),(12,I64 pre.length)]/\h=[(5,⟨3,[[St p.Name_,I64 p.Kind_,I64 p.Len_]]⟩)])
    ⟨[[0,3,5,10,11,12]],[],by kernel_rfl⟩ (W.regG ?_) ?_)))
   ·refine RG.iadIm (R:=Xa) (r:=p) (E:=some) (c:=(c1 false)) (xs:=a0) (i:=pre.length) (k:=.i64) (by kernel_rfl) (by kernel_rfl) (by kernel_rfl) (by rw [hi];rfl) (λy2 _ hg=>?_);cases hg;exact RG.fin 3 [(5,5)] _ _ (by kernel_rfl) ⟨rfl,rfl,rfl⟩
   rintro o e h a w ⟨rfl,rfl,rfl⟩ nw;obtain ⟨v,hv,hg⟩:=Option.bind_eq_some_iff.1 (show ((zgm n p).bind λv=>(bif v then z9k n rest (bif has p.Name_ ks then ks else ks++[p.Name_]) else some none).bind (z7s n a0))=some r by rw [<- Option.bind_assoc];exact hg);show (Code.seq _ _).wp _ _ _ _
   refine wp_seq (nw.ex (c:=.seq (.reg [0,3,5,10,11,12,18] [⟨16,none,.rd (.load true 3 (.tmp 5))⟩,⟨17,none,.call 57 [(.tmp 16)]⟩,⟨18,none,.rd (.un1 .not (.tmp 17))⟩]) (.cond (.tmp 18) (.seq (.reg [2] [⟨2,none,.rd (.mov (.const (.int .i64 100)))⟩]) .ret) .skip))
    (R:=λo e h=>(o = .ret/\v=false/\e=zv [(2,I64 100)])\/(o = .normal/\v=true/\e=zv [(0,.im 3 (xs a0)),(3,mp bm),(5,.pt 5 [] 0 0),(10,.im 3 (xs a0)),(11,I64 ((xs a0).length:Int)),(12,I64 pre.length),(18,Bl false)]/\h=[(5,⟨3,[[St p.Name_,I64 p.Kind_,I64 p.Len_]]⟩)]))
    ⟨[[0,3,5,10,11,12,18],[2]],[],by kernel_rfl⟩ ?_ ?_)
   ·refine W.seq (W.regG ?_);refine RG.cut 1 [(5,5)] [0,3,5,10,11,12,16] (zv [(0,.im 3 (xs a0)),(3,mp bm),(5,.pt 5 [] 0 0),(10,.im 3 (xs a0)),(11,I64 ((xs a0).length:Int)),(12,I64 pre.length),(16,.ag [St p.Name_,I64 p.Kind_,I64 p.Len_])]) [(5,⟨3,[[St p.Name_,I64 p.Kind_,I64 p.Len_]]⟩)] (by kernel_rfl) ?_;refine RG.callP (R:=Bool) (r:=v) (E:=some) [] [(5,5)] [0,3,5,10,11,12,17] false [.ag [St p.Name_,I64 p.Kind_,I64 p.Len_]] (λv2=>Bl v2) (λv2=>[]) (λv2=>zv [(0,.im 3 (xs a0)),(3,mp bm),(5,.pt 5 [] 0 0),(10,.im 3 (xs a0)),(11,I64 ((xs a0).length:Int)),(12,I64 pre.length),(17,Bl v2)]) (λv2=>[(5,⟨3,[[St p.Name_,I64 p.Kind_,I64 p.Len_]]⟩)]) (by kernel_rfl) (gv:=zgm n p) (by rw [hv];rfl) (by kernel_rfl) (λv2 hv=>z17.toG (yc4 n p v2 hv)) (by kernel_rfl) (λv2=>by kernel_rfl) (λh=>by cases h) (λv2 hv' hg'=>?_);cases hg';refine RG.fin 1 [(5,5)] (zv [(0,.im 3 (xs a0)),(3,mp bm),(5,.pt 5 [] 0 0),(10,.im 3 (xs a0)),(11,I64 ((xs a0).length:Int)),(12,I64 pre.length),(18,Bl (!v))]) [(5,⟨3,[[St p.Name_,I64 p.Kind_,I64 p.Len_]]⟩)] (by kernel_rfl) ?_;cases v with
    | true=>exact W.condF (by kernel_rfl) (W.skip (.inr ⟨rfl,rfl,rfl,rfl⟩))
    | false=>exact W.condT (by kernel_rfl) (W.seq (W.regG (RG.fin 1 [] (zv [(2,I64 100)]) [] (by kernel_rfl) (W.ret (.inl ⟨rfl,rfl,rfl⟩)))))
   rintro o e h a w (⟨rfl,rfl,rfl⟩ | ⟨rfl,rfl,rfl,rfl⟩) nw
   ·simp only [z7s,cond_false,Option.bind_some,Option.some.injEq] at hg;subst hg;exact hr _ _ _ _ _ rfl nw
   ·refine yda nw λa w nw=>?_;refine nw.ex (c:=.reg [0,3,10,11,12] [⟨24,none,.rd (.bin .add (.tmp 12) (.const (.int .i64 1)))⟩,⟨12,none,.rd (.mov (.tmp 24))⟩]) (R:=λo e h=>o = .normal/\e=EL a0 bm (IntKind.i64.wrap (pre.length+1))/\h=[]) ⟨[[0,3,10,11,12]],[],by kernel_rfl⟩ (W.regG (RG.fin 2 [] _ [] (by kernel_rfl) ⟨rfl,rfl,rfl⟩)) ?_;rintro o e h a w ⟨rfl,rfl,rfl⟩ nw
    have hw:IntKind.i64.wrap ((pre.length:Int)+1)=((pre++[p]).length:Int):=by
     have:(pre.length:Int)<64:=by omega
     simp only [List.length_append,List.length_singleton];rw [zei (by omega) (by omega)];simp
    rw [hw] at nw;exact ih (pre++[p]) _ a w (by simp [hp]) hlen hg nw

theorem tail {n:Nat} {w0 w:World} {a:Act} {a0:List Xa} {bm:Nat} {ks:List ByteArray} {r:Int} {Q:Exit->Act->World->Prop} (hg:z7s n a0 (some ks)=some r) (nw:Now 35 w0 (some (bm,ks)) (EL' a0 bm a0.length) [] a w)
  (hr:∀ m e' h' a' w',z69 e' h' [.t 2]=some (I64 r)->Now 35 w0 m e' h' a' w'->Q .ret a' w'):q.wp P Q a w:=by
 rw [e4];refine wp_seq (wp_block (wp_seq (wp_region ?_)));have h11:range (rops (lf (lf (lf q)))).size=[0,1,2,3,4,5]:=by kernel_rfl
 rw [h11];refine nw.rda (d:=26) (b:=.mov (.tmp 3)) (mp bm) (by kernel_rfl) (by kernel_rfl) λa w nw=>?_;obtain ⟨o,ho,hgd,hd,hop⟩:=zh5 (ops:=R11) (i:=1) (g:=none) (d:=some 27) (op:=.call { callee:=.builtin .len,args:=#[.tmp 26],argTypes:=#[122] }) (by kernel_rfl);have hm:a.eval (.tmp 26) = .map (some bm):=nw.eval rfl;have hc:=(nw.km bm ks rfl).1.len (P:=P) ut o.type;refine nw.val (v:=.int .i64 ks.length) ho hgd hd (by decide) (by simp [execOp,hop,resolve,invoke,builtin,hm,hc,Result.andThen]) λa nw=>?_;refine nw.rda (d:=28) (b:=.mov (.tmp 0)) (.im 3 (xs a0)) (by kernel_rfl) (by kernel_rfl) λa w nw=>?_;refine nw.rda (d:=29) (b:=.len (.tmp 28)) (I64 ((xs a0).length:Int)) (by kernel_rfl) (by kernel_rfl) λa w nw=>?_;refine nw.rda (d:=30) (b:=.bin .lss (.tmp 27) (.tmp 29)) (Bl (decide ((ks.length:Int)<((xs a0).length:Int)))) (by kernel_rfl) (by kernel_rfl) λa w nw=>?_;refine nw.rda (d:=25) (b:=.mov (.tmp 30)) (Bl (decide ((ks.length:Int)<((xs a0).length:Int)))) (by kernel_rfl) (by kernel_rfl) λa w nw=>?_;have nw:=nw.gh (z6.norm (P:=P) (bm:=[]) (S:=[0,25]) (e1:=zv [(0,.im 3 (xs a0)),(25,Bl (decide ((ks.length:Int)<((xs a0).length:Int))))]) (h1:=[]) (by kernel_rfl))
 refine nw.ex (c:=.cond (.tmp 25) (.seq (.reg [2] [⟨2,none,.rd (.mov (.const (.int .i64 101)))⟩]) .ret)
   (.seq (.reg [31] [⟨32,none,.rd (.mov (.tmp 0))⟩,⟨33,none,.call 58 [(.tmp 32)]⟩,⟨34,none,.rd (.bin .gtr (.tmp 33) (.const (.int .i64 65536)))⟩,⟨31,none,.rd (.mov (.tmp 34))⟩]) (.cond (.tmp 31) (.seq (.reg [2] [⟨2,none,.rd (.mov (.const (.int .i64 102)))⟩]) .ret) .skip)))
  (R:=λo e h=>(o = .ret/\e=zv [(2,I64 r)])\/(o = .normal/\r=0/\h=[]))
  ⟨[[2],[31],[2]],[],by kernel_rfl⟩ ?_ ?_
 ·unfold z7s at hg;refine W.condB (by kernel_rfl) hg (λhg=>?_) (λhg=>?_)
  ·obtain rfl:=Option.some.inj hg;exact W.seq (W.regG (RG.fin 1 [] (zv [(2,I64 101)]) [] (by kernel_rfl) (W.ret (.inl ⟨rfl,rfl⟩))))
  ·refine W.seq (W.regG ?_);refine RG.cut 1 [] [32] (zv [(32,.im 3 (xs a0))]) [] (by kernel_rfl) ?_;refine RG.callP [] [] [33] false [.im 3 (xs a0)] (λv2=>I64 v2) (λv2=>[]) (λv2=>zv [(33,I64 v2)]) (λv2=>[]) (by kernel_rfl) hg (by kernel_rfl) (λv2 hv=>z17.toG (yc5 n a0 v2 hv)) (by kernel_rfl) (λv2=>by kernel_rfl) (λh=>by cases h) (λv2 hv hg=>?_);refine RG.fin 2 [] (zv [(31,Bl (decide (v2 > 65536)))]) [] (by kernel_rfl) ?_;refine W.condB (by kernel_rfl) hg (λhg=>?_) (λhg=>?_)
   ·obtain rfl:=Option.some.inj hg;exact W.seq (W.regG (RG.fin 1 [] (zv [(2,I64 102)]) [] (by kernel_rfl) (W.ret (.inl ⟨rfl,rfl⟩))))
   ·obtain rfl:=Option.some.inj hg;exact W.skip (.inr ⟨rfl,rfl,rfl⟩)
 rintro o e h a w (⟨rfl,rfl⟩ | ⟨rfl,rfl,rfl⟩) nw
 ·exact hr _ _ _ _ _ rfl nw
 ·refine nw.ex (c:=.seq (.reg [2] [⟨2,none,.rd (.mov (.const (.int .i64 0)))⟩]) .ret) (R:=λo e h=>o = .ret/\e=zv [(2,I64 0)]) ⟨[[2]],[],by kernel_rfl⟩ (W.seq (W.regG (RG.fin 1 [] (zv [(2,I64 0)]) [] (by kernel_rfl) (W.ret ⟨rfl,rfl⟩)))) ?_;rintro o e h a w ⟨rfl,rfl⟩ nw;exact hr _ _ _ _ _ rfl nw
end F28
open F28 in
theorem zw0 (n:Nat) (a0:List Xa) (r:Int) (hg:g28 n a0=some r):z17 Go.Proofs.Tryz.prog 36 [.im 3 (a0.map (c1 false))] [] (I64 r) []:=by
 refine Now.call (P:=P) (N:=35) (fn:=Go.Proofs.Tryz.f36) (ts:=[.t 2]) (by kernel_rfl) F28.body (by kernel_rfl) (by kernel_rfl) λa w0 Q nw hr=>?_;rw [e1];refine wp_seq (nw.ex (c:=.reg [0] [⟨2,none,.rd (.mov (.const (.int .i64 0)))⟩]) (R:=λo e h=>o = .normal/\e=zv [(0,.im 3 (xs a0))]/\h=[]) ⟨[[0]],[],by kernel_rfl⟩ (W.regG (RG.fin 1 [] _ [] (by kernel_rfl) ⟨rfl,rfl,rfl⟩)) ?_);rintro o e h a w ⟨rfl,rfl,rfl⟩ nw;show (Code.seq _ _).wp _ _ _ _;unfold g28 at hg
 refine wp_seq (nw.ex (c:=.seq (.reg [0,8] [⟨6,none,.rd (.mov (.tmp 0))⟩,⟨7,none,.rd (.len (.tmp 6))⟩,⟨8,none,.rd (.bin .gtr (.tmp 7) (.const (.int .i64 64)))⟩]) (.cond (.tmp 8) (.seq (.reg [2] [⟨2,none,.rd (.mov (.const (.int .i64 2)))⟩]) .ret) .skip))
  (R:=λo e h=>(o = .ret/\e=zv [(2,I64 r)])\/(o = .normal/\a0.length<=64/\(z9k n a0 []).bind (z7s n a0)=some r/\e=zv [(0,.im 3 (xs a0)),(8,Bl (decide (((xs a0).length:Int) > 64)))]/\h=[])) ⟨[[0,8],[2]],[],by kernel_rfl⟩ ?_ ?_)
 ·refine W.seq (W.regG (RG.fin 3 [] (zv [(0,.im 3 (xs a0)),(8,Bl (decide (((xs a0).length:Int) > 64)))]) [] (by kernel_rfl) ?_));cases hd:decide (((xs a0).length:Int) > 64) with
  | true =>rw [hd] at hg;obtain rfl:=Option.some.inj hg;exact W.condT (by kernel_rfl) (W.seq (W.regG (RG.fin 1 [] (zv [(2,I64 2)]) [] (by kernel_rfl) (W.ret (.inl ⟨rfl,rfl⟩)))))
  | false =>rw [hd] at hg;refine W.condF (by kernel_rfl) (W.skip (.inr ⟨rfl,?_,hg,rfl,rfl⟩));simp [xs] at hd;omega
 rintro o e h a w (⟨rfl,rfl⟩ | ⟨rfl,hlen,hg,rfl,rfl⟩) nw
 ·exact hr _ _ _ _ _ rfl nw
 show (Code.seq _ _).wp _ _ _ _;refine wp_seq (wp_region ?_);have h3:range (rops (lf (rt (rt b)))).size=[0,1]:=by kernel_rfl
 rw [h3];obtain ⟨o,ho,hgd,hd,hop⟩:=zh5 (ops:=R3) (i:=0) (g:=none) (d:=some 9) (op:=.makeMap 122 none) (by kernel_rfl);refine nw.make ho hgd hd (by decide) hop λbm a w nw=>?_;refine nw.rda (d:=3) (b:=.mov (.tmp 9)) (mp bm) (by kernel_rfl) (by kernel_rfl) λa w nw=>?_;have nw:=nw.gh (z6.norm (P:=P) (bm:=[]) (S:=[0,3]) (e1:=zv [(0,.im 3 (xs a0)),(3,mp bm)]) (h1:=[]) (by kernel_rfl));show (Code.seq z q).wp _ _ _ _;refine wp_seq ?_;rw [e2];refine wp_seq (nw.ex (c:=.reg [0,3,10,11,12] [⟨10,none,.rd (.mov (.tmp 0))⟩,⟨11,none,.rd (.len (.tmp 10))⟩,⟨12,none,.rd (.mov (.const (.int .i64 0)))⟩]) (R:=λo e h=>o = .normal/\e=EL a0 bm 0/\h=[]) ⟨[[0,3,10,11,12]],[],by kernel_rfl⟩ (W.regG (RG.fin 3 [] _ [] (by kernel_rfl) ⟨rfl,rfl,rfl⟩)) ?_);rintro o e h a w ⟨rfl,rfl,rfl⟩ nw;refine wp_block (z2u.wp (loop (n:=n) (Q:=Exit.inBlock 0 (Exit.then (q.wp P Q) Q)) (w0:=w0) (a0:=a0) (bm:=bm) (r:=r) (λks a w hg nw=>?_) (λm e h a w hv nw=>hr m e h a w hv nw) a0 [] [] a w rfl hlen hg nw));exact tail hg nw hr
def k28 (n:Nat):Con Go.Proofs.Tryz.prog Ty_ where
 f:=36
 X:=(List Xa)
 Y:=Int
 A:=[.im 1]
 H:=[]
 N:=[]
 encA:=λx=>[.im 1 x]
 encH:=λ_=>[]
 G:=λx=>g28 n x
 encR:=λy=>.sc (.int .i64 y)
 encO:=λ_=>[]
 strong:=true
 ok:=λx y h=>⟨λ_=>zw0 n x y h,z17.toG (zw0 n x y h)⟩
def ydu (n:Nat):Cx P_ Ty_:=⟨[],[],[],[]⟩
abbrev ydv:List (List Nat):=[[2,3],[2,3,6],[2,3,6,7],[2,3,6,7],[4],[2,3,13],[4],[4]]
def zw1 (x:Xe×Xb) (p:Bool):EH Ty_:=([(2,.pt 2 [] 0 0),(3,.pt 3 [] 0 0),(6,I_ x.2.Kind_),(7,B_ p)],[(2,.lit 4 [[.im 1 x.1.Sign_,.im 2 x.1.Regs_,.im 3 x.1.Slots_,.im 4 x.1.List_]]),(3,.lit 2 [[I_ x.2.Kind_,I_ x.2.Param_]])])
def y1c (n:Nat) (x:Xe×Xb):Pt P_ Ty_ [] Bool:=.join (S:=Bool) (zw1 x) (.ite (x.2.Kind_==1) (.leaf (.inl true)) (.leaf (.inl (x.2.Kind_==2)))) λs1=>.ite s1 (.leaf (x.2.Param_==0)) (.ite (x.2.Kind_==3) (.ite (decide (x.2.Param_>=(0:Int))) (.leaf (decide (x.2.Param_<(x.1.Sign_.length:Int)))) (.leaf false)) (.leaf false))
def k31 (n:Nat):Con P_ Ty_:=zb (X:=Xe×Xb) (R:=Bool) (pro:=[]) (ydu n) 39 ydv (λx=>.two .no (.two (.two .no (.two (.join Bool (zw1 x) ⟨[(2,.ref 2),(3,.ref 3),(6,.any),(7,.any)],[(2,.any),(3,.any)]⟩ .no .no) .no)) .no)) [.ag [.im 1,.im 2,.im 3,.im 4],.ag [.any,.any]] [] [] ⟨[(4,.any)],[]⟩ [] true (λx=>[.ag [.im 1 x.1.Sign_,.im 2 x.1.Regs_,.im 3 x.1.Slots_,.im 4 x.1.List_],.ag [I_ x.2.Kind_,I_ x.2.Param_]]) (λx=>[]) (λy=>([(4,B_ y)],[])) (λy=>B_ y) (λy=>[]) (y1c n)
def yds (n:Nat):Cx P_ Ty_:=⟨[k31 n],[],[],[]⟩
abbrev ydt:List (List Nat):=[[1,2],[3]]
def y1b (n:Nat) (x:Ycf):Pt P_ Ty_ [200000] (Yai):=.call (k31 n) ((⟨x.2.1,x.2.2.1,x.p3,x.q4⟩:Xe),x.1) λ(y1:Bool)=>.leaf ((!y1),x.2.1,x.2.2.1,x.p3,x.q4)
def k30 (n:Nat):Con P_ Ty_:=zb (X:=Ycf) (R:=Yai) (pro:=[200000]) (yds n) 38 ydt (λx=>.no) [.ag [.any,.any],.pt 200000] [(200000,[.im 1,.im 2,.im 3,.im 4])] [] ⟨[(3,.any)],[(200000,.any)]⟩ [200000] false (λx=>[.ag [I_ x.1.Kind_,I_ x.1.Param_],.pt 200000 [] 0 0]) (λx=>[(200000,.lit 4 [[.im 1 x.2.1,.im 2 x.2.2.1,.im 3 x.p3,.im 4 x.q4]])]) (λy=>([(3,B_ y.1)],[(200000,.lit 4 [[.im 1 y.2.1,.im 2 y.2.2.1,.im 3 y.p3,.im 4 y.q4]])])) (λy=>B_ y.1) (λy=>[(200000,.lit 4 [[.im 1 y.2.1,.im 2 y.2.2.1,.im 3 y.p3,.im 4 y.q4]])]) (y1b n)
def y2a (n:Nat):Cx P_ Ty_:=⟨[k30 n],[],[],[]⟩
abbrev y2b:List (List Nat):=[[0,1],[0,1,7,8],[0,1,7,8,9],[0,1,5,7,8],[0,1,5,7,8,16],[4],[0,1,7,8],[4]]
def zwu (n:Nat) (x:Yar) (v1:Unit) (q1:Yac):Pt P_ Ty_ [200000] (Bo (Yac) (Yac) (Yac)):=.ite (decide (q1.1<(x.1.length:Int))) (.bnd (idx x.1 q1.1) λy1=>.call (k30 n) (y1,q1.2.1,q1.2.2.1,q1.p3,q1.q4) λ(y2:Yai)=>.ite y2.1 (.leaf (.ret (q1.1,y2.2.1,y2.2.2.1,y2.p3,y2.q4))) (.leaf (.go ((IntKind.i64.wrap (q1.1+(1:Int))),y2.2.1,y2.2.2.1,y2.p3,y2.q4)))) (.leaf (.out (q1.1,q1.2.1,q1.2.2.1,q1.p3,q1.q4)))
def zwt (n:Nat) (x:Yar) (v1:Unit):LCon P_ Ty_ [200000]:=lcon (X:=Yac) (Y:=Yac) (Z:=Yac) (y2a n) (subC [1,0,1,0,0] (fnC P_ 59 y2b)) (λq1=>.no) 0 true ⟨[(0,.im 2),(1,.fn [.ref 200000]),(7,.any),(8,.any)],[(200000,.any)]⟩ ⟨[(0,.im 2),(1,.fn [.ref 200000]),(7,.any),(8,.any),(9,.any)],[(200000,.any)]⟩ ⟨[(4,.any)],[(200000,.any)]⟩ (λq1=>([(0,.im 2 x.1),(1,.fn 38 [.pt 200000 [] 0 0]),(7,I_ (x.1.length:Int)),(8,I_ q1.1)],[(200000,.lit 4 [[.im 1 q1.2.1,.im 2 q1.2.2.1,.im 3 q1.p3,.im 4 q1.q4]])])) (λp=>([(0,.im 2 x.1),(1,.fn 38 [.pt 200000 [] 0 0]),(7,I_ (x.1.length:Int)),(8,I_ p.1),(9,B_ false)],[(200000,.lit 4 [[.im 1 p.2.1,.im 2 p.2.2.1,.im 3 p.p3,.im 4 p.q4]])])) (λp=>([(4,I_ p.1)],[(200000,.lit 4 [[.im 1 p.2.1,.im 2 p.2.2.1,.im 3 p.p3,.im 4 p.q4]])])) n (zwu n x v1)
def y2c (n:Nat) (x:Yar):Pt P_ Ty_ [200000] (Yac):=.loopR (V:=Unit) (zwt n x) () ((0:Int),x.2.1,x.2.2.1,x.p3,x.q4) (λ(v1:Unit) (y3:Yac)=>.leaf ((-1:Int),y3.2.1,y3.2.2.1,y3.p3,y3.q4)) λ(v1:Unit) (z1:Yac)=>.leaf (z1.1,z1.2.1,z1.2.2.1,z1.p3,z1.q4)
def k50 (n:Nat):Con P_ Ty_:=zb (X:=Yar) (R:=Yac) (pro:=[200000]) (y2a n) 59 y2b (λx=>.two .no (.two (.two .no (.two (.loop Unit (zwt n x) true ⟨[(0,.im 2),(1,.fn [.ref 200000]),(7,.any),(8,.any)],[(200000,.any)]⟩) .no)) .no)) [.im 2,.fn 38 [.pt 200000]] [(200000,[.im 1,.im 2,.im 3,.im 4])] [] ⟨[(4,.any)],[(200000,.any)]⟩ [200000] false (λx=>[.im 2 x.1,.fn 38 [.pt 200000 [] 0 0]]) (λx=>[(200000,.lit 4 [[.im 1 x.2.1,.im 2 x.2.2.1,.im 3 x.p3,.im 4 x.q4]])]) (λy=>([(4,I_ y.1)],[(200000,.lit 4 [[.im 1 y.2.1,.im 2 y.2.2.1,.im 3 y.p3,.im 4 y.q4]])])) (λy=>I_ y.1) (λy=>[(200000,.lit 4 [[.im 1 y.2.1,.im 2 y.2.2.1,.im 3 y.p3,.im 4 y.q4]])]) (y2c n)
def ydq (n:Nat):Cx P_ Ty_:=⟨[k50 n],[],[],[]⟩
abbrev ydr:List (List Nat):=[[0,1],[4]]
def y1a (n:Nat) (x:Yar):Pt P_ Ty_ [200000] (Yai):=.call (k50 n) (x.1,x.2.1,x.2.2.1,x.p3,x.q4) λ(y1:Yac)=>.leaf ((decide (y1.1>=(0:Int))),y1.2.1,y1.2.2.1,y1.p3,y1.q4)
def k29 (n:Nat):Con P_ Ty_:=zb (X:=Yar) (R:=Yai) (pro:=[200000]) (ydq n) 37 ydr (λx=>.no) [.im 2,.fn 38 [.pt 200000]] [(200000,[.im 1,.im 2,.im 3,.im 4])] [] ⟨[(4,.any)],[(200000,.any)]⟩ [200000] false (λx=>[.im 2 x.1,.fn 38 [.pt 200000 [] 0 0]]) (λx=>[(200000,.lit 4 [[.im 1 x.2.1,.im 2 x.2.2.1,.im 3 x.p3,.im 4 x.q4]])]) (λy=>([(4,B_ y.1)],[(200000,.lit 4 [[.im 1 y.2.1,.im 2 y.2.2.1,.im 3 y.p3,.im 4 y.q4]])])) (λy=>B_ y.1) (λy=>[(200000,.lit 4 [[.im 1 y.2.1,.im 2 y.2.2.1,.im 3 y.p3,.im 4 y.q4]])]) (y1a n)
def yea (n:Nat):Cx P_ Ty_:=⟨[],[],[],[]⟩
abbrev yeb:List (List Nat):=[[0],[2]]
def y2g (n:Nat) (x:Int):Pt P_ Ty_ [] Bool:=.ite (decide ((IntKind.u32.wrap (BitVec.ofInt IntKind.u32.bits x &&& ~~~BitVec.ofInt IntKind.u32.bits (2147483648:Int)).toNat)<=(2139095040:Int))) (.leaf true) (.leaf (x==2143289344))
def k52 (n:Nat):Con P_ Ty_:=zb (X:=Int) (R:=Bool) (pro:=[]) (yea n) 61 yeb (λx=>.no) [.any] [] [] ⟨[(2,.any)],[]⟩ [] true (λx=>[.sc (.int .u32 x)]) (λx=>[]) (λy=>([(2,B_ y)],[])) (λy=>B_ y) (λy=>[]) (y2g n)
def ye0 (n:Nat):Cx P_ Ty_:=⟨[k31 n,k52 n],[],[],[]⟩
abbrev ye1:List (List Nat):=[[2,3],[3,9],[4],[3,13],[4],[4]]
def y1f (n:Nat) (x:Xe×Xc):Pt P_ Ty_ [] Bool:=.call (k31 n) (x.1,x.2.Type_) λ(y1:Bool)=>.ite (!y1) (.leaf false) (.ite (x.2.Type_.Kind_==2) (.ite (x.2.Bits_==0) (.ite (decide (x.2.Int_>=(0:Int))) (.leaf (decide (x.2.Int_<=(2147483647:Int)))) (.leaf false)) (.leaf false)) (.ite (x.2.Int_==0) (.call (k52 n) x.2.Bits_ λ(y2:Bool)=>.leaf y2) (.leaf false)))
def k34 (n:Nat):Con P_ Ty_:=zb (X:=Xe×Xc) (R:=Bool) (pro:=[]) (ye0 n) 42 ye1 (λx=>.no) [.ag [.im 1,.im 2,.im 3,.im 4],.ag [.any,.any,.any,.any,.any]] [] [] ⟨[(4,.any)],[]⟩ [] true (λx=>[.ag [.im 1 x.1.Sign_,.im 2 x.1.Regs_,.im 3 x.1.Slots_,.im 4 x.1.List_],.ag [I_ x.2.Type_.Kind_,I_ x.2.Type_.Param_,B_ x.2.Keep_,.sc (.int .u32 x.2.Bits_),I_ x.2.Int_]]) (λx=>[]) (λy=>([(4,B_ y)],[])) (λy=>B_ y) (λy=>[]) (y1f n)
def ydy (n:Nat):Cx P_ Ty_:=⟨[k34 n],[],[],[]⟩
abbrev ydz:List (List Nat):=[[1,2],[3]]
def y1e (n:Nat) (x:Ycg):Pt P_ Ty_ [200000] (Yai):=.call (k34 n) ((⟨x.2.1,x.2.2.1,x.p3,x.q4⟩:Xe),x.1) λ(y1:Bool)=>.leaf ((!y1),x.2.1,x.2.2.1,x.p3,x.q4)
def k33 (n:Nat):Con P_ Ty_:=zb (X:=Ycg) (R:=Yai) (pro:=[200000]) (ydy n) 41 ydz (λx=>.no) [.ag [.any,.any,.any,.any,.any],.pt 200000] [(200000,[.im 1,.im 2,.im 3,.im 4])] [] ⟨[(3,.any)],[(200000,.any)]⟩ [200000] false (λx=>[.ag [I_ x.1.Type_.Kind_,I_ x.1.Type_.Param_,B_ x.1.Keep_,.sc (.int .u32 x.1.Bits_),I_ x.1.Int_],.pt 200000 [] 0 0]) (λx=>[(200000,.lit 4 [[.im 1 x.2.1,.im 2 x.2.2.1,.im 3 x.p3,.im 4 x.q4]])]) (λy=>([(3,B_ y.1)],[(200000,.lit 4 [[.im 1 y.2.1,.im 2 y.2.2.1,.im 3 y.p3,.im 4 y.q4]])])) (λy=>B_ y.1) (λy=>[(200000,.lit 4 [[.im 1 y.2.1,.im 2 y.2.2.1,.im 3 y.p3,.im 4 y.q4]])]) (y1e n)
def y2d (n:Nat):Cx P_ Ty_:=⟨[k33 n],[],[],[]⟩
abbrev y2e:List (List Nat):=[[0,1],[0,1,7,8],[0,1,7,8,9],[0,1,5,7,8],[0,1,5,7,8,16],[4],[0,1,7,8],[4]]
def zww (n:Nat) (x:Yas) (v1:Unit) (q1:Yac):Pt P_ Ty_ [200000] (Bo (Yac) (Yac) (Yac)):=.ite (decide (q1.1<(x.1.length:Int))) (.bnd (idx x.1 q1.1) λy1=>.call (k33 n) (y1,q1.2.1,q1.2.2.1,q1.p3,q1.q4) λ(y2:Yai)=>.ite y2.1 (.leaf (.ret (q1.1,y2.2.1,y2.2.2.1,y2.p3,y2.q4))) (.leaf (.go ((IntKind.i64.wrap (q1.1+(1:Int))),y2.2.1,y2.2.2.1,y2.p3,y2.q4)))) (.leaf (.out (q1.1,q1.2.1,q1.2.2.1,q1.p3,q1.q4)))
def zwv (n:Nat) (x:Yas) (v1:Unit):LCon P_ Ty_ [200000]:=lcon (X:=Yac) (Y:=Yac) (Z:=Yac) (y2d n) (subC [1,0,1,0,0] (fnC P_ 60 y2e)) (λq1=>.no) 0 true ⟨[(0,.im 3),(1,.fn [.ref 200000]),(7,.any),(8,.any)],[(200000,.any)]⟩ ⟨[(0,.im 3),(1,.fn [.ref 200000]),(7,.any),(8,.any),(9,.any)],[(200000,.any)]⟩ ⟨[(4,.any)],[(200000,.any)]⟩ (λq1=>([(0,.im 3 x.1),(1,.fn 41 [.pt 200000 [] 0 0]),(7,I_ (x.1.length:Int)),(8,I_ q1.1)],[(200000,.lit 4 [[.im 1 q1.2.1,.im 2 q1.2.2.1,.im 3 q1.p3,.im 4 q1.q4]])])) (λp=>([(0,.im 3 x.1),(1,.fn 41 [.pt 200000 [] 0 0]),(7,I_ (x.1.length:Int)),(8,I_ p.1),(9,B_ false)],[(200000,.lit 4 [[.im 1 p.2.1,.im 2 p.2.2.1,.im 3 p.p3,.im 4 p.q4]])])) (λp=>([(4,I_ p.1)],[(200000,.lit 4 [[.im 1 p.2.1,.im 2 p.2.2.1,.im 3 p.p3,.im 4 p.q4]])])) n (zww n x v1)
def y2f (n:Nat) (x:Yas):Pt P_ Ty_ [200000] (Yac):=.loopR (V:=Unit) (zwv n x) () ((0:Int),x.2.1,x.2.2.1,x.p3,x.q4) (λ(v1:Unit) (y3:Yac)=>.leaf ((-1:Int),y3.2.1,y3.2.2.1,y3.p3,y3.q4)) λ(v1:Unit) (z1:Yac)=>.leaf (z1.1,z1.2.1,z1.2.2.1,z1.p3,z1.q4)
def k51 (n:Nat):Con P_ Ty_:=zb (X:=Yas) (R:=Yac) (pro:=[200000]) (y2d n) 60 y2e (λx=>.two .no (.two (.two .no (.two (.loop Unit (zwv n x) true ⟨[(0,.im 3),(1,.fn [.ref 200000]),(7,.any),(8,.any)],[(200000,.any)]⟩) .no)) .no)) [.im 3,.fn 41 [.pt 200000]] [(200000,[.im 1,.im 2,.im 3,.im 4])] [] ⟨[(4,.any)],[(200000,.any)]⟩ [200000] false (λx=>[.im 3 x.1,.fn 41 [.pt 200000 [] 0 0]]) (λx=>[(200000,.lit 4 [[.im 1 x.2.1,.im 2 x.2.2.1,.im 3 x.p3,.im 4 x.q4]])]) (λy=>([(4,I_ y.1)],[(200000,.lit 4 [[.im 1 y.2.1,.im 2 y.2.2.1,.im 3 y.p3,.im 4 y.q4]])])) (λy=>I_ y.1) (λy=>[(200000,.lit 4 [[.im 1 y.2.1,.im 2 y.2.2.1,.im 3 y.p3,.im 4 y.q4]])]) (y2f n)
def ydw (n:Nat):Cx P_ Ty_:=⟨[k51 n],[],[],[]⟩
abbrev ydx:List (List Nat):=[[0,1],[4]]
def y1d (n:Nat) (x:Yas):Pt P_ Ty_ [200000] (Yai):=.call (k51 n) (x.1,x.2.1,x.2.2.1,x.p3,x.q4) λ(y1:Yac)=>.leaf ((decide (y1.1>=(0:Int))),y1.2.1,y1.2.2.1,y1.p3,y1.q4)
def k32 (n:Nat):Con P_ Ty_:=zb (X:=Yas) (R:=Yai) (pro:=[200000]) (ydw n) 40 ydx (λx=>.no) [.im 3,.fn 41 [.pt 200000]] [(200000,[.im 1,.im 2,.im 3,.im 4])] [] ⟨[(4,.any)],[(200000,.any)]⟩ [200000] false (λx=>[.im 3 x.1,.fn 41 [.pt 200000 [] 0 0]]) (λx=>[(200000,.lit 4 [[.im 1 x.2.1,.im 2 x.2.2.1,.im 3 x.p3,.im 4 x.q4]])]) (λy=>([(4,B_ y.1)],[(200000,.lit 4 [[.im 1 y.2.1,.im 2 y.2.2.1,.im 3 y.p3,.im 4 y.q4]])])) (λy=>B_ y.1) (λy=>[(200000,.lit 4 [[.im 1 y.2.1,.im 2 y.2.2.1,.im 3 y.p3,.im 4 y.q4]])]) (y1d n)
def ydm (n:Nat):Cx P_ Ty_:=⟨[],[],[],[]⟩
abbrev ydn:List (List Nat):=[[0,2],[2,4],[2,4,5],[2,3],[2,4,8],[2,3],[2,4,11],[2,3],[2,4,14],[2,4,14],[2,4,14],[2,4,14],[2,4,14],[2,4,14],[2,4,14],[2,3],[2,4,23],[2,4,23],[2,4,23],[2,4,23],[2,3],[2,4,29],[2,3],[2,4,32],[2,3],[2,4,35],[2,3],[2,4,38],[2,3],[2,4,41],[2,4,41],[2,3],[2,4,45],[2,4,45],[2,3],[2,4,49],[2,4,49],[2,4,49],[2,4,49],[2,4,49],[2,3],[2,4,56],[2,3],[2,4,59],[2,4,59],[2,3],[2,4,63],[2,3],[2,4,66],[2,3],[2,4,69],[2,3],[2,4,72],[2,3],[2,4,75],[2,3],[2,4,78],[2,78],[2,3],[2,3]]
def zvl (x:Int) (p:Bool):EH Ty_:=([(2,.pt 2 [] 0 0),(4,I_ x),(14,B_ p)],[(2,.lit 5 [[I_ (0:Int),I_ (0:Int),I_ (0:Int),I_ (0:Int),I_ (0:Int)]])])
def zvm (x:Int) (p:Bool):EH Ty_:=([(2,.pt 2 [] 0 0),(4,I_ x),(23,B_ p)],[(2,.lit 5 [[I_ (0:Int),I_ (0:Int),I_ (0:Int),I_ (0:Int),I_ (0:Int)]])])
def zvn (x:Int) (p:Bool):EH Ty_:=([(2,.pt 2 [] 0 0),(4,I_ x),(41,B_ p)],[(2,.lit 5 [[I_ (0:Int),I_ (0:Int),I_ (0:Int),I_ (0:Int),I_ (0:Int)]])])
def zvo (x:Int) (p:Bool):EH Ty_:=([(2,.pt 2 [] 0 0),(4,I_ x),(45,B_ p)],[(2,.lit 5 [[I_ (0:Int),I_ (0:Int),I_ (0:Int),I_ (0:Int),I_ (0:Int)]])])
def zvp (x:Int) (p:Bool):EH Ty_:=([(2,.pt 2 [] 0 0),(4,I_ x),(49,B_ p)],[(2,.lit 5 [[I_ (0:Int),I_ (0:Int),I_ (0:Int),I_ (0:Int),I_ (0:Int)]])])
def zvq (x:Int) (p:Bool):EH Ty_:=([(2,.pt 2 [] 0 0),(4,I_ x),(59,B_ p)],[(2,.lit 5 [[I_ (0:Int),I_ (0:Int),I_ (0:Int),I_ (0:Int),I_ (0:Int)]])])
def zvr (x:Int) (p:Bool):EH Ty_:=([(2,.pt 2 [] 0 0),(78,B_ p)],[(2,.lit 5 [[I_ (0:Int),I_ (0:Int),I_ (0:Int),I_ (0:Int),I_ (0:Int)]])])
def y0y (n:Nat) (x:Int):Pt P_ Ty_ [] (Ybs):=.ite (x==1) (.leaf (true,(1:Int),(0:Int),(0:Int),(0:Int),(0:Int))) (.ite (x==2) (.leaf (true,(2:Int),(0:Int),(0:Int),(0:Int),(1:Int))) (.ite (x==3) (.leaf (true,(8:Int),(7:Int),(0:Int),(0:Int),(0:Int))) (.join (S:=Bool) (zvl x) (.ite (x==4) (.leaf (.inl true)) (.ite (x==5) (.leaf (.inl true)) (.ite (x==6) (.leaf (.inl true)) (.ite (x==7) (.leaf (.inl true)) (.ite (x==8) (.leaf (.inl true)) (.ite (x==9) (.leaf (.inl true)) (.leaf (.inl (x==10))))))))) λs1=>.ite s1 (.leaf (true,(4:Int),(5:Int),(5:Int),(0:Int),(0:Int))) (.join (S:=Bool) (zvm x) (.ite (x==11) (.leaf (.inl true)) (.ite (x==12) (.leaf (.inl true)) (.ite (x==13) (.leaf (.inl true)) (.leaf (.inl (x==14)))))) λs2=>.ite s2 (.leaf (true,(4:Int),(5:Int),(0:Int),(0:Int),(0:Int))) (.ite (x==15) (.leaf (true,(4:Int),(5:Int),(5:Int),(5:Int),(0:Int))) (.ite (x==16) (.leaf (true,(1:Int),(1:Int),(2:Int),(0:Int),(0:Int))) (.ite (x==17) (.leaf (true,(1:Int),(2:Int),(0:Int),(0:Int),(0:Int))) (.ite (x==18) (.leaf (true,(2:Int),(1:Int),(0:Int),(0:Int),(0:Int))) (.join (S:=Bool) (zvn x) (.ite (x==19) (.leaf (.inl true)) (.leaf (.inl (x==20)))) λs3=>.ite s3 (.leaf (true,(1:Int),(3:Int),(0:Int),(0:Int),(0:Int))) (.join (S:=Bool) (zvo x) (.ite (x==21) (.leaf (.inl true)) (.leaf (.inl (x==25)))) λs4=>.ite s4 (.leaf (true,(2:Int),(2:Int),(0:Int),(0:Int),(0:Int))) (.join (S:=Bool) (zvp x) (.ite (x==22) (.leaf (.inl true)) (.ite (x==23) (.leaf (.inl true)) (.ite (x==24) (.leaf (.inl true)) (.ite (x==27) (.leaf (.inl true)) (.leaf (.inl (x==28))))))) λs5=>.ite s5 (.leaf (true,(2:Int),(2:Int),(2:Int),(0:Int),(0:Int))) (.ite (x==26) (.leaf (true,(2:Int),(2:Int),(2:Int),(2:Int),(0:Int))) (.join (S:=Bool) (zvq x) (.ite (x==29) (.leaf (.inl true)) (.leaf (.inl (x==30)))) λs6=>.ite s6 (.leaf (true,(3:Int),(0:Int),(0:Int),(0:Int),(2:Int))) (.ite (x==31) (.leaf (true,(0:Int),(3:Int),(0:Int),(0:Int),(2:Int))) (.ite (x==32) (.leaf (true,(8:Int),(0:Int),(0:Int),(0:Int),(3:Int))) (.ite (x==33) (.leaf (true,(0:Int),(8:Int),(0:Int),(0:Int),(3:Int))) (.ite (x==34) (.leaf (true,(0:Int),(2:Int),(0:Int),(0:Int),(0:Int))) (.ite (x==36) (.leaf (true,(0:Int),(0:Int),(0:Int),(0:Int),(4:Int))) (.join (S:=Bool) (zvr x) (.ite (x==35) (.leaf (.inl true)) (.leaf (.inl (x==37)))) λs7=>.ite s7 (.leaf (true,(0:Int),(0:Int),(0:Int),(0:Int),(0:Int))) (.leaf (false,(0:Int),(0:Int),(0:Int),(0:Int),(0:Int))))))))))))))))))))))
def k26 (n:Nat):Con P_ Ty_:=zb (X:=Int) (R:=Ybs) (pro:=[]) (ydm n) 47 ydn (λx=>.two .no (.two (.two .no (.two (.two .no (.two .no (.two .no (.two .no (.two .no (.two .no (.join Bool (zvl x) ⟨[(2,.ref 2),(4,.any),(14,.any)],[(2,.any)]⟩ .no (.two .no (.join Bool (zvm x) ⟨[(2,.ref 2),(4,.any),(23,.any)],[(2,.any)]⟩ .no (.two .no (.two .no (.two .no (.two .no (.two .no (.two .no (.two .no (.two .no (.two .no (.join Bool (zvn x) ⟨[(2,.ref 2),(4,.any),(41,.any)],[(2,.any)]⟩ .no (.two .no (.join Bool (zvo x) ⟨[(2,.ref 2),(4,.any),(45,.any)],[(2,.any)]⟩ .no (.two .no (.join Bool (zvp x) ⟨[(2,.ref 2),(4,.any),(49,.any)],[(2,.any)]⟩ .no (.two .no (.two .no (.two .no (.join Bool (zvq x) ⟨[(2,.ref 2),(4,.any),(59,.any)],[(2,.any)]⟩ .no (.two .no (.two .no (.two .no (.two .no (.two .no (.two .no (.two .no (.two .no (.two .no (.two .no (.two .no (.join Bool (zvr x) ⟨[(2,.ref 2),(78,.any)],[(2,.any)]⟩ .no .no))))))))))))))))))))))))))))))))))))))) .no)) .no)) [.any] [] [] ⟨[(2,.ref 100000),(3,.any)],[(100000,.any)]⟩ [] true (λx=>[I_ x]) (λx=>[]) (λy=>([(2,.pt 100000 [] 0 0),(3,B_ y.1)],[(100000,.lit 5 [[I_ y.2.1,I_ y.2.2.1,I_ y.p3,I_ y.p4,I_ y.q5]])])) (λy=>.tu [.ag [I_ y.2.1,I_ y.2.2.1,I_ y.p3,I_ y.p4,I_ y.q5],B_ y.1]) (λy=>[]) (y0y n)
def yec (n:Nat):Cx P_ Ty_:=⟨[],[],[],[]⟩
abbrev yed:List (List Nat):=[[0,1,4],[0,1,4,17],[4,5],[4,5]]
def zwx (x:Ycb) (p:Bool):EH Ty_:=([(0,.pt 200000 [] 0 0),(1,I_ x.q7),(4,.pt 4 [] 0 0),(17,B_ p)],[(200000,.lit 7 [[.im 1 x.1,.im 2 x.2.1,.im 3 x.2.2.1,.im 4 x.p3,.ow false 5 x.p4,.ow true 7 x.p5,.ow false 6 x.p6]]),(4,.lit 2 [[I_ (0:Int),I_ (0:Int)]])])
def y2h (n:Nat) (x:Ycb):Pt P_ Ty_ [200000] (Ybo):=.join (S:=Bool) (zwx x) (.ite (decide (x.q7<(0:Int))) (.leaf (.inl true)) (.leaf (.inl (decide (x.q7>=(x.2.1.length:Int)))))) λs1=>.ite s1 (.leaf (false,x.1,x.2.1,x.2.2.1,x.p3,x.p4,x.p5,x.p6,(0:Int),(0:Int))) (.bnd (idx x.2.1 x.q7) λy1=>.leaf (true,x.1,x.2.1,x.2.2.1,x.p3,x.p4,x.p5,x.p6,y1.Kind_,y1.Param_))
def k53 (n:Nat):Con P_ Ty_:=zb (X:=Ycb) (R:=Ybo) (pro:=[200000]) (yec n) 62 yed (λx=>.two .no (.two (.join Bool (zwx x) ⟨[(0,.ref 200000),(1,.any),(4,.ref 4),(17,.any)],[(200000,.any),(4,.any)]⟩ .no .no) .no)) [.pt 200000,.any] [(200000,[.im 1,.im 2,.im 3,.im 4,.ow false 5,.ow true 7,.ow false 6])] [] ⟨[(4,.ref 100000),(5,.any)],[(200000,.any),(100000,.any)]⟩ [200000] false (λx=>[.pt 200000 [] 0 0,I_ x.q7]) (λx=>[(200000,.lit 7 [[.im 1 x.1,.im 2 x.2.1,.im 3 x.2.2.1,.im 4 x.p3,.ow false 5 x.p4,.ow true 7 x.p5,.ow false 6 x.p6]])]) (λy=>([(4,.pt 100000 [] 0 0),(5,B_ y.1)],[(200000,.lit 7 [[.im 1 y.2.1,.im 2 y.2.2.1,.im 3 y.p3,.im 4 y.p4,.ow false 5 y.p5,.ow true 7 y.p6,.ow false 6 y.p7]]),(100000,.lit 2 [[I_ y.p8,I_ y.q9]])])) (λy=>.tu [.ag [I_ y.p8,I_ y.q9],B_ y.1]) (λy=>[(200000,.lit 7 [[.im 1 y.2.1,.im 2 y.2.2.1,.im 3 y.p3,.im 4 y.p4,.ow false 5 y.p5,.ow true 7 y.p6,.ow false 6 y.p7]])]) (y2h n)
def yee (n:Nat):Cx P_ Ty_:=⟨[],[],[],[]⟩
abbrev yef:List (List Nat):=[[1,3,5],[1,3,5,7],[3,5,7,11],[3,5,7,11,12],[6],[3,5,7,11,15],[6],[3,5,7,11,20],[6],[3,5,7,11,25],[6],[3,5,7,11,30],[6],[3,5,7,11,38],[6],[3,5,7,43],[6],[6]]
def y2i (n:Nat) (x:Ych):Pt P_ Ty_ [] Bool:=.ite (x.2.1==1) (.leaf (x.1.Kind_==1)) (.ite (x.2.1==2) (.leaf (x.1.Kind_==2)) (.ite (x.2.1==3) (.leaf (x.1.Kind_==3)) (.ite (x.2.1==4) (.leaf (x.1.Kind_ != (2:Int))) (.ite (x.2.1==5) (.ite (x.1.Kind_==1) (.leaf true) (.leaf (x.1.Kind_==x.2.2.Kind_&&(x.1.Param_==x.2.2.Param_&&true)))) (.ite (x.2.1==6) (.leaf (x.1.Kind_==x.2.2.Kind_&&(x.1.Param_==x.2.2.Param_&&true))) (.ite (x.2.1==7) (.ite (x.1.Kind_==x.2.2.Kind_&&(x.1.Param_==x.2.2.Param_&&true)) (.leaf true) (.ite (x.1.Kind_==1) (.leaf (x.2.2.Kind_==3)) (.leaf false))) (.leaf true)))))))
def k54 (n:Nat):Con P_ Ty_:=zb (X:=Ych) (R:=Bool) (pro:=[]) (yee n) 63 yef (λx=>.no) [.ag [.any,.any],.any,.ag [.any,.any]] [] [] ⟨[(6,.any)],[]⟩ [] true (λx=>[.ag [I_ x.1.Kind_,I_ x.1.Param_],I_ x.2.1,.ag [I_ x.2.2.Kind_,I_ x.2.2.Param_]]) (λx=>[]) (λy=>([(6,B_ y)],[])) (λy=>B_ y) (λy=>[]) (y2i n)
def y1g (n:Nat):Cx P_ Ty_:=⟨[k26 n,k53 n,k54 n,k52 n],[],[],[]⟩
abbrev y1h:List (List Nat):=[[0,3],[0,3,5,6],[0,3,5,21],[4],[0,3,5,7,8],[0,3,5,7,8,30,31],[0,3,5,7,8,30,31,32],[0,3,5,7,8,9,10,30,31],[0,3,5,7,8,9,10,11,30,31],[0,3,5,7,8,9,10,11,30,31,47],[0,3,5,7,8,30,31,49],[4],[0,3,5,7,8,9,10,12,13,30,31],[0,3,5,7,8,9,12,30,31,64],[4],[0,3,5,7,8,12,30,31,65],[0,3,5,7,8,12,30,31,65,66],[0,3,5,7,8,30,31],[0,3,5,7,8,12,30,31,70],[0,3,5,7,8,12,30,31,74],[0,3,5,7,8,30,31],[0,3,5,7,8,30,31],[0,3,5,8,95],[4],[0,3,8,97],[0,3,8,97,98],[4],[0,3,8,97,108],[4],[0,3,8,97,131],[4],[0,3,161],[4],[4]]
def zw3 (x:Yad) (v1:Ybd) (q1:Yax) (p:Ybo):EH Ty_:=([(0,.pt 200000 [] 0 0),(3,.pt 3 [] 0 0),(5,.pt 5 [] 0 0),(7,.pt 7 [] 0 0),(8,.pt 8 [] 0 0),(9,I_ q1.1),(12,.pt 12 [] 0 0),(30,.ag [I_ v1.1,I_ v1.2.1,I_ v1.2.2.1,I_ v1.p3]),(31,I_ q1.1),(64,B_ p.1)],[(200000,.lit 7 [[.im 1 p.2.1,.im 2 p.2.2.1,.im 3 p.p3,.im 4 p.p4,.ow false 5 p.p5,.ow true 7 p.p6,.ow false 6 p.p7]]),(3,.lit 7 [[I_ x.q7.Op_,I_ x.q7.D_,I_ x.q7.A_,I_ x.q7.B_,I_ x.q7.C_,I_ x.q7.N_,.sc (.int .u32 x.q7.Bits_)]]),(5,.lit 5 [[I_ v1.1,I_ v1.2.1,I_ v1.2.2.1,I_ v1.p3,I_ v1.q4]]),(7,.lit 2 [[I_ q1.p8,I_ q1.p9]]),(8,.lit 2 [[I_ q1.p10,I_ q1.q11]]),(12,.lit 2 [[I_ p.p8,I_ p.q9]])])
def zw4 (x:Yad) (p:Ycr):EH Ty_:=([(0,.pt 200000 [] 0 0),(3,.pt 3 [] 0 0),(5,.pt 5 [] 0 0),(8,.pt 8 [] 0 0),(95,B_ p.1)],[(200000,.lit 7 [[.im 1 p.2.1,.im 2 p.2.2.1,.im 3 p.p3,.im 4 p.p4,.ow false 5 p.p5,.ow true 7 p.p6,.ow false 6 p.p7]]),(3,.lit 7 [[I_ x.q7.Op_,I_ x.q7.D_,I_ x.q7.A_,I_ x.q7.B_,I_ x.q7.C_,I_ x.q7.N_,.sc (.int .u32 x.q7.Bits_)]]),(5,.lit 5 [[I_ p.p8,I_ p.p9,I_ p.p10,I_ p.p11,I_ p.p12]]),(8,.lit 2 [[I_ p.p13,I_ p.q14]])])
def zw5 (n:Nat) (x:Yad) (v1:Ybd) (q1:Yax):Pt P_ Ty_ [200000] (Bo (Yax) (Yax) (Yci)):=.ite (decide (q1.1<(4:Int))) (.bnd (idx [v1.1,v1.2.1,v1.2.2.1,v1.p3] q1.1) λy2=>.bnd (idx [x.q7.D_,x.q7.A_,x.q7.B_,x.q7.C_] q1.1) λy3=>.ite (y2==0) (.ite (y3 != (0:Int)) (.leaf (.ret (q1.2.1,q1.2.2.1,q1.p3,q1.p4,q1.p5,q1.p6,q1.p7))) (.leaf (.go ((IntKind.i64.wrap (q1.1+(1:Int))),q1.2.1,q1.2.2.1,q1.p3,q1.p4,q1.p5,q1.p6,q1.p7,q1.p8,q1.p9,q1.p10,q1.q11)))) (.call (k53 n) (q1.2.1,q1.2.2.1,q1.p3,q1.p4,q1.p5,q1.p6,q1.p7,y3) λ(y4:Ybo)=>.join (S:=Ybo) (zw3 x v1 q1) (.ite (!y4.1) (.leaf (.inl (true,y4.2.1,y4.2.2.1,y4.p3,y4.p4,y4.p5,y4.p6,y4.p7,y4.p8,y4.q9))) (.call (k54 n) ((⟨y4.p8,y4.q9⟩:Xb),y2,(⟨q1.p8,q1.p9⟩:Xb)) λ(y5:Bool)=>.leaf (.inl ((!y5),y4.2.1,y4.2.2.1,y4.p3,y4.p4,y4.p5,y4.p6,y4.p7,y4.p8,y4.q9)))) λs1=>.ite s1.1 (.leaf (.ret (s1.2.1,s1.2.2.1,s1.p3,s1.p4,s1.p5,s1.p6,s1.p7))) (.ite (q1.1==0) (.leaf (.go ((IntKind.i64.wrap (q1.1+(1:Int))),s1.2.1,s1.2.2.1,s1.p3,s1.p4,s1.p5,s1.p6,s1.p7,s1.p8,s1.q9,s1.p8,s1.q9))) (.ite (q1.1==1) (.ite (v1.1==0) (.leaf (.go ((IntKind.i64.wrap (q1.1+(1:Int))),s1.2.1,s1.2.2.1,s1.p3,s1.p4,s1.p5,s1.p6,s1.p7,q1.p8,q1.p9,s1.p8,s1.q9))) (.leaf (.go ((IntKind.i64.wrap (q1.1+(1:Int))),s1.2.1,s1.2.2.1,s1.p3,s1.p4,s1.p5,s1.p6,s1.p7,q1.p8,q1.p9,q1.p10,q1.q11)))) (.leaf (.go ((IntKind.i64.wrap (q1.1+(1:Int))),s1.2.1,s1.2.2.1,s1.p3,s1.p4,s1.p5,s1.p6,s1.p7,q1.p8,q1.p9,q1.p10,q1.q11))))))) (.leaf (.out (q1.1,q1.2.1,q1.2.2.1,q1.p3,q1.p4,q1.p5,q1.p6,q1.p7,q1.p8,q1.p9,q1.p10,q1.q11)))
def zw2 (n:Nat) (x:Yad) (v1:Ybd):LCon P_ Ty_ [200000]:=lcon (X:=Yax) (Y:=Yax) (Z:=Yci) (y1g n) (subC [1,1,1,1,0,1,0,0] (fnC P_ 43 y1h)) (λq1=>.two .no (.two .no (.two (.two (.two .no (.two .no (.two .no (.two .no (.two (.join (Ybo) (zw3 x v1 q1) ⟨[(0,.ref 200000),(3,.ref 3),(5,.ref 5),(7,.ref 7),(8,.ref 8),(9,.any),(12,.ref 12),(30,.any),(31,.any),(64,.any)],[(200000,.any),(3,.any),(5,.any),(7,.any),(8,.any),(12,.any)]⟩ .no .no) .no))))) .no) .no))) 0 true ⟨[(0,.ref 200000),(3,.ref 3),(5,.ref 5),(7,.ref 7),(8,.ref 8),(30,.any),(31,.any)],[(200000,.any),(3,.any),(5,.any),(7,.any),(8,.any)]⟩ ⟨[(0,.ref 200000),(3,.ref 3),(5,.ref 5),(7,.ref 7),(8,.ref 8),(30,.any),(31,.any),(32,.any)],[(200000,.any),(3,.any),(5,.any),(7,.any),(8,.any)]⟩ ⟨[(4,.any)],[(200000,.any)]⟩ (λq1=>([(0,.pt 200000 [] 0 0),(3,.pt 3 [] 0 0),(5,.pt 5 [] 0 0),(7,.pt 7 [] 0 0),(8,.pt 8 [] 0 0),(30,.ag [I_ v1.1,I_ v1.2.1,I_ v1.2.2.1,I_ v1.p3]),(31,I_ q1.1)],[(200000,.lit 7 [[.im 1 q1.2.1,.im 2 q1.2.2.1,.im 3 q1.p3,.im 4 q1.p4,.ow false 5 q1.p5,.ow true 7 q1.p6,.ow false 6 q1.p7]]),(3,.lit 7 [[I_ x.q7.Op_,I_ x.q7.D_,I_ x.q7.A_,I_ x.q7.B_,I_ x.q7.C_,I_ x.q7.N_,.sc (.int .u32 x.q7.Bits_)]]),(5,.lit 5 [[I_ v1.1,I_ v1.2.1,I_ v1.2.2.1,I_ v1.p3,I_ v1.q4]]),(7,.lit 2 [[I_ q1.p8,I_ q1.p9]]),(8,.lit 2 [[I_ q1.p10,I_ q1.q11]])])) (λp=>([(0,.pt 200000 [] 0 0),(3,.pt 3 [] 0 0),(5,.pt 5 [] 0 0),(7,.pt 7 [] 0 0),(8,.pt 8 [] 0 0),(30,.ag [I_ v1.1,I_ v1.2.1,I_ v1.2.2.1,I_ v1.p3]),(31,I_ p.1),(32,B_ false)],[(200000,.lit 7 [[.im 1 p.2.1,.im 2 p.2.2.1,.im 3 p.p3,.im 4 p.p4,.ow false 5 p.p5,.ow true 7 p.p6,.ow false 6 p.p7]]),(3,.lit 7 [[I_ x.q7.Op_,I_ x.q7.D_,I_ x.q7.A_,I_ x.q7.B_,I_ x.q7.C_,I_ x.q7.N_,.sc (.int .u32 x.q7.Bits_)]]),(5,.lit 5 [[I_ v1.1,I_ v1.2.1,I_ v1.2.2.1,I_ v1.p3,I_ v1.q4]]),(7,.lit 2 [[I_ p.p8,I_ p.p9]]),(8,.lit 2 [[I_ p.p10,I_ p.q11]])])) (λp=>([(4,B_ false)],[(200000,.lit 7 [[.im 1 p.1,.im 2 p.2.1,.im 3 p.2.2.1,.im 4 p.p3,.ow false 5 p.p4,.ow true 7 p.p5,.ow false 6 p.q6]])])) n (zw5 n x v1)
def y1i (n:Nat) (x:Yad):Pt P_ Ty_ [200000] (Yan):=.call (k26 n) x.q7.Op_ λ(y1:Ybs)=>.ite (!y1.1) (.leaf (false,x.1,x.2.1,x.2.2.1,x.p3,x.p4,x.p5,x.p6)) (.loopR (V:=Ybd) (zw2 n x) (y1.2.1,y1.2.2.1,y1.p3,y1.p4,y1.q5) ((0:Int),x.1,x.2.1,x.2.2.1,x.p3,x.p4,x.p5,x.p6,(0:Int),(0:Int),(0:Int),(0:Int)) (λ(v1:Ybd) (y6:Yax)=>.join (S:=Ycr) (zw4 x) (.ite (x.q7.Op_==1) (.call (k52 n) x.q7.Bits_ λ(y7:Bool)=>.ite (!y7) (.leaf (.inl (true,y6.2.1,y6.2.2.1,y6.p3,y6.p4,y6.p5,y6.p6,y6.p7,v1.1,v1.2.1,v1.2.2.1,v1.p3,v1.q4,y6.p10,y6.q11))) (.ite (x.q7.Op_ != (1:Int)) (.leaf (.inl ((x.q7.Bits_ != (0:Int)),y6.2.1,y6.2.2.1,y6.p3,y6.p4,y6.p5,y6.p6,y6.p7,v1.1,v1.2.1,v1.2.2.1,v1.p3,v1.q4,y6.p10,y6.q11))) (.leaf (.inl (false,y6.2.1,y6.2.2.1,y6.p3,y6.p4,y6.p5,y6.p6,y6.p7,v1.1,v1.2.1,v1.2.2.1,v1.p3,v1.q4,y6.p10,y6.q11))))) (.ite (x.q7.Op_ != (1:Int)) (.leaf (.inl ((x.q7.Bits_ != (0:Int)),y6.2.1,y6.2.2.1,y6.p3,y6.p4,y6.p5,y6.p6,y6.p7,v1.1,v1.2.1,v1.2.2.1,v1.p3,v1.q4,y6.p10,y6.q11))) (.leaf (.inl (false,y6.2.1,y6.2.2.1,y6.p3,y6.p4,y6.p5,y6.p6,y6.p7,v1.1,v1.2.1,v1.2.2.1,v1.p3,v1.q4,y6.p10,y6.q11))))) λs2=>.ite s2.1 (.leaf (false,s2.2.1,s2.2.2.1,s2.p3,s2.p4,s2.p5,s2.p6,s2.p7)) (.ite (s2.p12==1) (.ite (decide (x.q7.N_>=(0:Int))) (.leaf ((decide (x.q7.N_<=(2147483647:Int))),s2.2.1,s2.2.2.1,s2.p3,s2.p4,s2.p5,s2.p6,s2.p7)) (.leaf (false,s2.2.1,s2.2.2.1,s2.p3,s2.p4,s2.p5,s2.p6,s2.p7))) (.ite (s2.p12==2) (.ite (x.q7.N_==0) (.leaf (true,s2.2.1,s2.2.2.1,s2.p3,s2.p4,s2.p5,s2.p6,s2.p7)) (.ite (x.q7.N_==1) (.bnd (idx s2.2.1 s2.q14) λy8=>.leaf ((y8.Kind_==2),s2.2.1,s2.2.2.1,s2.p3,s2.p4,s2.p5,s2.p6,s2.p7)) (.leaf (false,s2.2.1,s2.2.2.1,s2.p3,s2.p4,s2.p5,s2.p6,s2.p7)))) (.ite (s2.p12==3) (.ite (decide (x.q7.N_>=(0:Int))) (.ite (decide (x.q7.N_<(s2.p3.length:Int))) (.bnd (idx s2.p3 x.q7.N_) λy9=>.leaf ((y9.Type_.Kind_==s2.p13&&(y9.Type_.Param_==s2.q14&&true)),s2.2.1,s2.2.2.1,s2.p3,s2.p4,s2.p5,s2.p6,s2.p7)) (.leaf (false,s2.2.1,s2.2.2.1,s2.p3,s2.p4,s2.p5,s2.p6,s2.p7))) (.leaf (false,s2.2.1,s2.2.2.1,s2.p3,s2.p4,s2.p5,s2.p6,s2.p7))) (.ite (s2.p12==4) (.ite (decide (x.q7.N_>=(0:Int))) (.leaf ((decide (x.q7.N_<(s2.2.1.length:Int))),s2.2.1,s2.2.2.1,s2.p3,s2.p4,s2.p5,s2.p6,s2.p7)) (.leaf (false,s2.2.1,s2.2.2.1,s2.p3,s2.p4,s2.p5,s2.p6,s2.p7))) (.leaf ((x.q7.N_==0),s2.2.1,s2.2.2.1,s2.p3,s2.p4,s2.p5,s2.p6,s2.p7))))))) λ(v1:Ybd) (z1:Yci)=>.leaf (false,z1.1,z1.2.1,z1.2.2.1,z1.p3,z1.p4,z1.p5,z1.q6))
def k35 (n:Nat):Con P_ Ty_:=zb (X:=Yad) (R:=Yan) (pro:=[200000]) (y1g n) 43 y1h (λx=>.two .no (.two .no (.two .no (.two .no (.two (.two .no (.two (.loop (Ybd) (zw2 n x) true ⟨[(0,.ref 200000),(3,.ref 3),(5,.ref 5),(7,.ref 7),(8,.ref 8),(30,.any),(31,.any)],[(200000,.any),(3,.any),(5,.any),(7,.any),(8,.any)]⟩) .no)) (.two (.join (Ycr) (zw4 x) ⟨[(0,.ref 200000),(3,.ref 3),(5,.ref 5),(8,.ref 8),(95,.any)],[(200000,.any),(3,.any),(5,.any),(8,.any)]⟩ .no .no) .no)))))) [.pt 200000,.ag [.any,.any,.any,.any,.any,.any,.any]] [(200000,[.im 1,.im 2,.im 3,.im 4,.ow false 5,.ow true 7,.ow false 6])] [] ⟨[(4,.any)],[(200000,.any)]⟩ [200000] false (λx=>[.pt 200000 [] 0 0,.ag [I_ x.q7.Op_,I_ x.q7.D_,I_ x.q7.A_,I_ x.q7.B_,I_ x.q7.C_,I_ x.q7.N_,.sc (.int .u32 x.q7.Bits_)]]) (λx=>[(200000,.lit 7 [[.im 1 x.1,.im 2 x.2.1,.im 3 x.2.2.1,.im 4 x.p3,.ow false 5 x.p4,.ow true 7 x.p5,.ow false 6 x.p6]])]) (λy=>([(4,B_ y.1)],[(200000,.lit 7 [[.im 1 y.2.1,.im 2 y.2.2.1,.im 3 y.p3,.im 4 y.p4,.ow false 5 y.p5,.ow true 7 y.p6,.ow false 6 y.q7]])])) (λy=>B_ y.1) (λy=>[(200000,.lit 7 [[.im 1 y.2.1,.im 2 y.2.2.1,.im 3 y.p3,.im 4 y.p4,.ow false 5 y.p5,.ow true 7 y.p6,.ow false 6 y.q7]])]) (y1i n)
def ydi (n:Nat):Cx P_ Ty_:=⟨[],[],[],[]⟩
abbrev ydj:List (List Nat):=[[0],[2]]
def y0r (n:Nat) (x:Int):Pt P_ Ty_ [] Bool:=.ite (decide (x>=(3:Int))) (.leaf (decide (x<=(15:Int)))) (.leaf false)
def k13 (n:Nat):Con P_ Ty_:=zb (X:=Int) (R:=Bool) (pro:=[]) (ydi n) 64 ydj (λx=>.no) [.any] [] [] ⟨[(2,.any)],[]⟩ [] true (λx=>[I_ x]) (λx=>[]) (λy=>([(2,B_ y)],[])) (λy=>B_ y) (λy=>[]) (y0r n)
def y1j (n:Nat):Cx P_ Ty_:=⟨[k13 n],[(53,false,6)],[],[]⟩
abbrev y1k:List (List Nat):=[[0,3],[0,3,5],[0,3,5,15],[0,3,5],[0,3,5,29],[0,3,5,29,30],[0,3,5,29,30],[0,3,42],[4],[0,3,45],[],[4],[0,3,5,29,57],[0,68],[4],[0,6],[0,6,81,82,83],[0,6,81,82,83,84],[0,6,8,81,82,83],[0,6,81,82,83],[0,6,81,82,83],[0],[],[4],[0,3,5,117],[0,120],[4],[],[4],[0,3,5,136],[4],[0,3,9],[0,3,9,139],[0,3,9,139],[0,3,9,139],[0,3,9,139],[4],[0,3,9,163],[0,3,9,163],[4],[4]]
def zw7 (x:Yad) (p:Int):EH Ty_:=([(0,.pt 200000 [] 0 0),(3,.pt 3 [] 0 0),(5,I_ p)],[(200000,.lit 7 [[.im 1 x.1,.im 2 x.2.1,.im 3 x.2.2.1,.im 4 x.p3,.ow false 5 x.p4,.ow true 7 x.p5,.ow false 6 x.p6]]),(3,.lit 7 [[I_ x.q7.Op_,I_ x.q7.D_,I_ x.q7.A_,I_ x.q7.B_,I_ x.q7.C_,I_ x.q7.N_,.sc (.int .u32 x.q7.Bits_)]])])
def zw8 (x:Yad) (p:Yag):EH Ty_:=([(0,.pt 200000 [] 0 0),(3,.pt 3 [] 0 0),(5,I_ p.1),(29,I_ x.q7.Op_),(30,B_ p.2)],[(200000,.lit 7 [[.im 1 x.1,.im 2 x.2.1,.im 3 x.2.2.1,.im 4 x.p3,.ow false 5 x.p4,.ow true 7 x.p5,.ow false 6 x.p6]]),(3,.lit 7 [[I_ x.q7.Op_,I_ x.q7.D_,I_ x.q7.A_,I_ x.q7.B_,I_ x.q7.C_,I_ x.q7.N_,.sc (.int .u32 x.q7.Bits_)]])])
def zw9 (x:Yad) (p:Bool):EH Ty_:=([(0,.pt 200000 [] 0 0),(3,.pt 3 [] 0 0),(42,B_ p)],[(200000,.lit 7 [[.im 1 x.1,.im 2 x.2.1,.im 3 x.2.2.1,.im 4 x.p3,.ow false 5 x.p4,.ow true 7 x.p5,.ow false 6 x.p6]]),(3,.lit 7 [[I_ x.q7.Op_,I_ x.q7.D_,I_ x.q7.A_,I_ x.q7.B_,I_ x.q7.C_,I_ x.q7.N_,.sc (.int .u32 x.q7.Bits_)]])])
def zwa (x:Yad) (p:Bool):EH Ty_:=([(0,.pt 200000 [] 0 0),(68,B_ p)],[(200000,.lit 7 [[.im 1 x.1,.im 2 x.2.1,.im 3 x.2.2.1,.im 4 x.p3,.ow false 5 x.p4,.ow true 7 x.p5,.ow false 6 x.p6]])])
def zwb (x:Yad) (p:Ybt):EH Ty_:=([(0,.pt 200000 [] 0 0),(3,.pt 3 [] 0 0),(9,.pt 9 [] 0 0),(139,B_ p.1)],[(200000,.lit 7 [[.im 1 x.1,.im 2 x.2.1,.im 3 x.2.2.1,.im 4 x.p3,.ow false 5 x.p4,.ow true 7 x.p5,.ow false 6 x.p6]]),(3,.lit 7 [[I_ x.q7.Op_,I_ x.q7.D_,I_ x.q7.A_,I_ x.q7.B_,I_ x.q7.C_,I_ x.q7.N_,.sc (.int .u32 x.q7.Bits_)]]),(9,.lit 2 [[I_ (3:Int),I_ p.2]])])
def zwc (x:Yad) (p:Ybt):EH Ty_:=([(0,.pt 200000 [] 0 0),(3,.pt 3 [] 0 0),(9,.pt 9 [] 0 0),(163,B_ p.1)],[(200000,.lit 7 [[.im 1 x.1,.im 2 x.2.1,.im 3 x.2.2.1,.im 4 x.p3,.ow false 5 x.p4,.ow true 7 x.p5,.ow false 6 x.p6]]),(3,.lit 7 [[I_ x.q7.Op_,I_ x.q7.D_,I_ x.q7.A_,I_ x.q7.B_,I_ x.q7.C_,I_ x.q7.N_,.sc (.int .u32 x.q7.Bits_)]]),(9,.lit 2 [[I_ (3:Int),I_ p.2]])])
def zwd (n:Nat) (x:Yad) (v1:Int) (q1:Yaf):Pt P_ Ty_ [200000] (Bo (Yaf) (Yaf) Empty):=.ite (decide (q1.1<v1)) (.bnd (x.p5[(IntKind.i64.wrap ((x.p5.length:Int) - (1:Int))).toNat]?) λy4=>.need (0<=q1.1/\q1.1<(y4.length:Int)) (.bnd (x.p5[(IntKind.i64.wrap ((x.p5.length:Int) - (1:Int))).toNat]?) λy5=>.bnd (y5[q1.1.toNat]?) λy6=>.need (0<=y6/\y6<(q1.2.length:Int)) (.bnd (q1.2[y6.toNat]?) λy7=>.leaf (.go ((IntKind.i64.wrap (q1.1+(1:Int))),(q1.2.set y6.toNat false)))))) (.leaf (.out (q1.1,q1.2)))
def zw6 (n:Nat) (x:Yad) (v1:Int):LCon P_ Ty_ [200000]:=lcon (X:=Yaf) (Y:=Yaf) (Z:=Empty) (y1j n) (subC [1,1,1,0,1,0,1,1,1,0,1,1,0,1,0,0] (fnC P_ 44 y1k)) (λq1=>.no) 1 false ⟨[(0,.ref 200000),(6,.any),(81,.ref 200000),(82,.any),(83,.any)],[(200000,.any)]⟩ ⟨[(0,.ref 200000),(6,.any),(81,.ref 200000),(82,.any),(83,.any),(84,.any)],[(200000,.any)]⟩ ⟨[],[]⟩ (λq1=>([(0,.pt 200000 [] 0 0),(6,I_ (IntKind.i64.wrap ((x.p5.length:Int) - (1:Int)))),(81,.sw 200000 [(0,5),((IntKind.i64.wrap ((x.p5.length:Int) - (1:Int))).toNat,0)]),(82,I_ v1),(83,I_ q1.1)],[(200000,.lit 7 [[.im 1 x.1,.im 2 x.2.1,.im 3 x.2.2.1,.im 4 x.p3,.ow false 5 q1.2,.ow true 7 x.p5,.ow false 6 x.p6]])])) (λp=>([(0,.pt 200000 [] 0 0),(6,I_ (IntKind.i64.wrap ((x.p5.length:Int) - (1:Int)))),(81,.sw 200000 [(0,5),((IntKind.i64.wrap ((x.p5.length:Int) - (1:Int))).toNat,0)]),(82,I_ v1),(83,I_ p.1),(84,B_ false)],[(200000,.lit 7 [[.im 1 x.1,.im 2 x.2.1,.im 3 x.2.2.1,.im 4 x.p3,.ow false 5 p.2,.ow true 7 x.p5,.ow false 6 x.p6]])])) (λp=>nomatch p) n (zwd n x v1)
def y1l (n:Nat) (x:Yad):Pt P_ Ty_ [200000] (Yan):=.join (S:=Int) (zw7 x) (.ite (decide ((x.p6.length:Int) > (0:Int))) (.need (0<=(IntKind.i64.wrap ((x.p6.length:Int) - (1:Int)))/\(IntKind.i64.wrap ((x.p6.length:Int) - (1:Int)))<(x.p6.length:Int)) (.bnd (x.p6[(IntKind.i64.wrap ((x.p6.length:Int) - (1:Int))).toNat]?) λy1=>.leaf (.inl y1))) (.leaf (.inl (-1:Int)))) λs1=>.join (S:=Yag) (zw8 x) (.ite (x.q7.Op_==34) (.leaf (.inl (s1,true))) (.leaf (.inl (s1,(x.q7.Op_==36))))) λs2=>.ite s2.2 (.join (S:=Bool) (zw9 x) (.ite (decide (s2.1>=(0:Int))) (.leaf (.inl true)) (.leaf (.inl ((x.p6.length:Int)==64)))) λs3=>.ite s3 (.leaf (false,x.1,x.2.1,x.2.2.1,x.p3,x.p4,x.p5,x.p6)) (.ite (x.q7.Op_==36) (.need ((x.p6.length+([x.q7.N_]:List Int).length) * 8<=140737488355328) (.leaf (true,x.1,x.2.1,x.2.2.1,x.p3,x.p4,x.p5,(x.p6++([x.q7.N_]:List Int))))) (.leaf (true,x.1,x.2.1,x.2.2.1,x.p3,x.p4,x.p5,x.p6)))) (.ite (x.q7.Op_==35) (.join (S:=Bool) (zwa x) (.ite ((x.p6.length:Int)==0) (.leaf (.inl true)) (.leaf (.inl (decide (s2.1>=(0:Int)))))) λs4=>.ite s4 (.leaf (false,x.1,x.2.1,x.2.2.1,x.p3,x.p4,x.p5,x.p6)) (.need (0<=(IntKind.i64.wrap ((x.p5.length:Int) - (1:Int)))/\(IntKind.i64.wrap ((x.p5.length:Int) - (1:Int)))<(x.p5.length:Int)) (.bnd (x.p5[(IntKind.i64.wrap ((x.p5.length:Int) - (1:Int))).toNat]?) λy2=>.bnd (x.p5[(IntKind.i64.wrap ((x.p5.length:Int) - (1:Int))).toNat]?) λy3=>.loop (V:=Int) (zw6 n x) (y3.length:Int) ((0:Int),x.p4) λ(v1:Int) (y8:Yaf)=>.need (0<=(IntKind.i64.wrap ((x.p5.length:Int) - (1:Int)))/\(IntKind.i64.wrap ((x.p5.length:Int) - (1:Int)))<=(x.p5.length:Int)) (.need ((IntKind.i64.wrap ((x.p5.length:Int) - (1:Int))).toNat<=x.p5.length) (.need (0<=(IntKind.i64.wrap ((x.p6.length:Int) - (1:Int)))/\(IntKind.i64.wrap ((x.p6.length:Int) - (1:Int)))<=(x.p6.length:Int)) (.need ((IntKind.i64.wrap ((x.p6.length:Int) - (1:Int))).toNat<=x.p6.length) (.leaf (true,x.1,x.2.1,x.2.2.1,x.p3,y8.2,(x.p5.take ((IntKind.i64.wrap ((x.p5.length:Int) - (1:Int))).toNat)),(x.p6.take ((IntKind.i64.wrap ((x.p6.length:Int) - (1:Int))).toNat)))))))))) (.ite (x.q7.Op_==37) (.ite (decide (s2.1<(0:Int))) (.leaf (false,x.1,x.2.1,x.2.2.1,x.p3,x.p4,x.p5,x.p6)) (.need (0<=(IntKind.i64.wrap ((x.p6.length:Int) - (1:Int)))/\(IntKind.i64.wrap ((x.p6.length:Int) - (1:Int)))<=(x.p6.length:Int)) (.need ((IntKind.i64.wrap ((x.p6.length:Int) - (1:Int))).toNat<=x.p6.length) (.leaf (true,x.1,x.2.1,x.2.2.1,x.p3,x.p4,x.p5,(x.p6.take ((IntKind.i64.wrap ((x.p6.length:Int) - (1:Int))).toNat))))))) (.ite (decide (s2.1<(0:Int))) (.leaf (true,x.1,x.2.1,x.2.2.1,x.p3,x.p4,x.p5,x.p6)) (.join (S:=Ybt) (zwb x) (.call (k13 n) x.q7.Op_ λ(y9:Bool)=>.ite y9 (.leaf (.inl (true,s2.1))) (.ite (x.q7.Op_==29) (.leaf (.inl (true,s2.1))) (.ite (x.q7.Op_==30) (.leaf (.inl (true,s2.1))) (.leaf (.inl ((x.q7.Op_==32),s2.1)))))) λs5=>.ite s5.1 (.bnd (idx x.2.1 x.q7.D_) λy10=>.leaf ((y10.Kind_==(3:Int)&&(y10.Param_==s5.2&&true)),x.1,x.2.1,x.2.2.1,x.p3,x.p4,x.p5,x.p6)) (.join (S:=Ybt) (zwc x) (.ite (x.q7.Op_==31) (.leaf (.inl (true,s5.2))) (.leaf (.inl ((x.q7.Op_==33),s5.2)))) λs6=>.ite s6.1 (.bnd (idx x.2.1 x.q7.A_) λy11=>.leaf ((y11.Kind_==(3:Int)&&(y11.Param_==s6.2&&true)),x.1,x.2.1,x.2.2.1,x.p3,x.p4,x.p5,x.p6)) (.leaf (false,x.1,x.2.1,x.2.2.1,x.p3,x.p4,x.p5,x.p6)))))))
def k36 (n:Nat):Con P_ Ty_:=zb (X:=Yad) (R:=Yan) (pro:=[200000]) (y1j n) 44 y1k (λx=>.two .no (.two .no (.join Int (zw7 x) ⟨[(0,.ref 200000),(3,.ref 3),(5,.any)],[(200000,.any),(3,.any)]⟩ .no (.two (.two .no (.two (.join (Yag) (zw8 x) ⟨[(0,.ref 200000),(3,.ref 3),(5,.any),(29,.any),(30,.any)],[(200000,.any),(3,.any)]⟩ .no (.two (.two (.join Bool (zw9 x) ⟨[(0,.ref 200000),(3,.ref 3),(42,.any)],[(200000,.any),(3,.any)]⟩ .no .no) .no) (.two .no (.two (.two (.join Bool (zwa x) ⟨[(0,.ref 200000),(68,.any)],[(200000,.any)]⟩ .no .no) (.two .no (.two (.two .no (.two (.loop Int (zw6 n x) false ⟨[(0,.ref 200000),(6,.any),(81,.ref 200000),(82,.any),(83,.any)],[(200000,.any)]⟩) .no)) .no))) .no)))) .no)) (.two .no (.two .no (.two (.two (.join (Ybt) (zwb x) ⟨[(0,.ref 200000),(3,.ref 3),(9,.ref 9),(139,.any)],[(200000,.any),(3,.any),(9,.any)]⟩ .no (.two .no (.join (Ybt) (zwc x) ⟨[(0,.ref 200000),(3,.ref 3),(9,.ref 9),(163,.any)],[(200000,.any),(3,.any),(9,.any)]⟩ .no .no))) .no) .no))))))) [.pt 200000,.ag [.any,.any,.any,.any,.any,.any,.any]] [(200000,[.im 1,.im 2,.im 3,.im 4,.ow false 5,.ow true 7,.ow false 6])] [] ⟨[(4,.any)],[(200000,.any)]⟩ [200000] false (λx=>[.pt 200000 [] 0 0,.ag [I_ x.q7.Op_,I_ x.q7.D_,I_ x.q7.A_,I_ x.q7.B_,I_ x.q7.C_,I_ x.q7.N_,.sc (.int .u32 x.q7.Bits_)]]) (λx=>[(200000,.lit 7 [[.im 1 x.1,.im 2 x.2.1,.im 3 x.2.2.1,.im 4 x.p3,.ow false 5 x.p4,.ow true 7 x.p5,.ow false 6 x.p6]])]) (λy=>([(4,B_ y.1)],[(200000,.lit 7 [[.im 1 y.2.1,.im 2 y.2.2.1,.im 3 y.p3,.im 4 y.p4,.ow false 5 y.p5,.ow true 7 y.p6,.ow false 6 y.q7]])])) (λy=>B_ y.1) (λy=>[(200000,.lit 7 [[.im 1 y.2.1,.im 2 y.2.2.1,.im 3 y.p3,.im 4 y.p4,.ow false 5 y.p5,.ow true 7 y.p6,.ow false 6 y.q7]])]) (y1l n)
def g9_c (n:Nat):Cx P_ Ty_:=⟨[k26 n],[(37,false,6),(38,false,6)],[],[]⟩
abbrev g9_k:List (List Nat):=[[1],[1,3],[1,3,5],[1,5,20,21],[1,5,20,21,22],[1,5,6,7,20,21],[1,5,6,20,21,26],[1,5,20,21],[1,5,20,21],[2]]
def y3d (n:Nat) (x:Xd) (v1:Yao) (q1:Yab):Pt P_ Ty_ [] (Bo (Yab) (Yab) Empty):=.ite (decide (q1.1<(3:Int))) (.bnd (idx [v1.1,v1.2.1,v1.2.2] q1.1) λy2=>.ite (y2 != (0:Int)) (.bnd (idx [x.A_,x.B_,x.C_] q1.1) λy3=>.need ((q1.2.length+([y3]:List Int).length) * 8<=140737488355328) (.leaf (.go ((IntKind.i64.wrap (q1.1+(1:Int))),(q1.2++([y3]:List Int)))))) (.leaf (.go ((IntKind.i64.wrap (q1.1+(1:Int))),q1.2)))) (.leaf (.out (q1.1,q1.2)))
def y3c (n:Nat) (x:Xd) (v1:Yao):LCon P_ Ty_ []:=lcon (X:=Yab) (Y:=Yab) (Z:=Empty) (g9_c n) (subC [1,1,1,0,1,0,0] (fnC P_ 46 g9_k)) (λq1=>.no) 0 false ⟨[(1,.ref 1),(5,.own 600001 false 6),(20,.any),(21,.any)],[(1,.any),(600001,.any)]⟩ ⟨[(1,.ref 1),(5,.ref 600001),(20,.any),(21,.any),(22,.any)],[(1,.any),(600001,.any)]⟩ ⟨[],[]⟩ (λq1=>([(1,.pt 1 [] 0 0),(5,.sw 600001 []),(20,.ag [I_ v1.1,I_ v1.2.1,I_ v1.2.2]),(21,I_ q1.1)],[(1,.lit 7 [[I_ x.Op_,I_ x.D_,I_ x.A_,I_ x.B_,I_ x.C_,I_ x.N_,.sc (.int .u32 x.Bits_)]]),(600001,.typ false 6 q1.2)])) (λp=>([(1,.pt 1 [] 0 0),(5,.sw 600001 []),(20,.ag [I_ v1.1,I_ v1.2.1,I_ v1.2.2]),(21,I_ p.1),(22,B_ false)],[(1,.lit 7 [[I_ x.Op_,I_ x.D_,I_ x.A_,I_ x.B_,I_ x.C_,I_ x.N_,.sc (.int .u32 x.Bits_)]]),(600001,.typ false 6 p.2)])) (λp=>nomatch p) n (y3d n x v1)
def g9_t (n:Nat) (x:Xd):Pt P_ Ty_ [] (List Int):=.call (k26 n) x.Op_ λ(y1:Ybs)=>.loop (V:=Yao) (y3c n x) (y1.2.2.1,y1.p3,y1.p4) ((0:Int),([]:List Int)) λ(v1:Yao) (y4:Yab)=>.leaf y4.2
def k9 (n:Nat):Con P_ Ty_:=zb (X:=Xd) (R:=(List Int)) (pro:=[]) (g9_c n) 46 g9_k (λx=>.two .no (.two .no (.two .no (.two (.two .no (.two (.loop (Yao) (y3c n x) false ⟨[(1,.ref 1),(5,.own 600001 false 6),(20,.any),(21,.any)],[(1,.any),(600001,.any)]⟩) .no)) .no)))) [.ag [.any,.any,.any,.any,.any,.any,.any]] [] [100000] ⟨[(2,.ref 100000)],[(100000,.any)]⟩ [100000] true (λx=>[.ag [I_ x.Op_,I_ x.D_,I_ x.A_,I_ x.B_,I_ x.C_,I_ x.N_,.sc (.int .u32 x.Bits_)]]) (λx=>[]) (λy=>([(2,.sw 100000 [])],[(100000,.typ false 6 y)])) (λy=>.sw 100000 []) (λy=>[(100000,.typ false 6 y)]) (g9_t n)
def yde (n:Nat):Cx P_ Ty_:=⟨[k26 n],[],[],[]⟩
abbrev ydf:List (List Nat):=[[1],[3],[2]]
def y0p (n:Nat) (x:Xd):Pt P_ Ty_ [] Bool:=.call (k26 n) x.Op_ λ(y1:Ybs)=>.leaf (y1.2.1 != (0:Int))
def k11 (n:Nat):Con P_ Ty_:=zb (X:=Xd) (R:=Bool) (pro:=[]) (yde n) 24 ydf (λx=>.no) [.ag [.any,.any,.any,.any,.any,.any,.any]] [] [] ⟨[(2,.any)],[]⟩ [] true (λx=>[.ag [I_ x.Op_,I_ x.D_,I_ x.A_,I_ x.B_,I_ x.C_,I_ x.N_,.sc (.int .u32 x.Bits_)]]) (λx=>[]) (λy=>([(2,B_ y)],[])) (λy=>B_ y) (λy=>[]) (y0p n)
def y1m (n:Nat):Cx P_ Ty_:=⟨[k9 n,k11 n],[(32,false,6),(41,true,7),(87,false,6)],[],[]⟩
abbrev y1n:List (List Nat):=[[0,3],[0,3,9,10,11],[0,3,9,10,11,12],[0,3,6,9,10,11],[0,3,9,10,11,22],[4],[0,3,9,10,11],[0,3,26],[0,3],[0,3],[0,3,57],[0,3],[0,3,7],[0,3,7,72],[],[4]]
def zwf (x:Yad) (p:Ycs):EH Ty_:=([(0,.pt 200000 [] 0 0),(3,.pt 3 [] 0 0)],[(200000,.lit 7 [[.im 1 x.1,.im 2 x.2.1,.im 3 x.2.2.1,.im 4 x.p3,.ow false 5 x.p4,.ow true 7 p.1,.ow false 6 p.2]]),(3,.lit 7 [[I_ x.q7.Op_,I_ x.q7.D_,I_ x.q7.A_,I_ x.q7.B_,I_ x.q7.C_,I_ x.q7.N_,.sc (.int .u32 x.q7.Bits_)]])])
def zwg (x:Yad) (p:Yct):EH Ty_:=([(0,.pt 200000 [] 0 0),(3,.pt 3 [] 0 0),(57,B_ p.1)],[(200000,.lit 7 [[.im 1 x.1,.im 2 x.2.1,.im 3 x.2.2.1,.im 4 x.p3,.ow false 5 x.p4,.ow true 7 p.2.1,.ow false 6 p.2.2]]),(3,.lit 7 [[I_ x.q7.Op_,I_ x.q7.D_,I_ x.q7.A_,I_ x.q7.B_,I_ x.q7.C_,I_ x.q7.N_,.sc (.int .u32 x.q7.Bits_)]])])
def zwh (n:Nat) (x:Yad) (v1:Yab) (q1:Int):Pt P_ Ty_ [200000] (Bo Int Int Unit):=.ite (decide (q1<v1.1)) (.need (0<=q1/\q1<(v1.2.length:Int)) (.bnd (v1.2[q1.toNat]?) λy2=>.need (0<=y2/\y2<(x.p4.length:Int)) (.bnd (x.p4[y2.toNat]?) λy3=>.ite (!y3) (.leaf (.ret ())) (.leaf (.go (IntKind.i64.wrap (q1+(1:Int)))))))) (.leaf (.out q1))
def zwe (n:Nat) (x:Yad) (v1:Yab):LCon P_ Ty_ [200000]:=lcon (X:=Int) (Y:=Int) (Z:=Unit) (y1m n) (subC [1,0,1,0,0] (fnC P_ 45 y1n)) (λq1=>.no) 0 true ⟨[(0,.ref 200000),(3,.ref 3),(9,.ref 9),(10,.any),(11,.any)],[(200000,.any),(3,.any),(9,.any)]⟩ ⟨[(0,.ref 200000),(3,.ref 3),(9,.ref 9),(10,.any),(11,.any),(12,.any)],[(200000,.any),(3,.any),(9,.any)]⟩ ⟨[(4,.any)],[(200000,.any)]⟩ (λq1=>([(0,.pt 200000 [] 0 0),(3,.pt 3 [] 0 0),(9,.sw 9 []),(10,I_ v1.1),(11,I_ q1)],[(200000,.lit 7 [[.im 1 x.1,.im 2 x.2.1,.im 3 x.2.2.1,.im 4 x.p3,.ow false 5 x.p4,.ow true 7 x.p5,.ow false 6 x.p6]]),(3,.lit 7 [[I_ x.q7.Op_,I_ x.q7.D_,I_ x.q7.A_,I_ x.q7.B_,I_ x.q7.C_,I_ x.q7.N_,.sc (.int .u32 x.q7.Bits_)]]),(9,.typ false 6 v1.2)])) (λp=>([(0,.pt 200000 [] 0 0),(3,.pt 3 [] 0 0),(9,.sw 9 []),(10,I_ v1.1),(11,I_ p),(12,B_ false)],[(200000,.lit 7 [[.im 1 x.1,.im 2 x.2.1,.im 3 x.2.2.1,.im 4 x.p3,.ow false 5 x.p4,.ow true 7 x.p5,.ow false 6 x.p6]]),(3,.lit 7 [[I_ x.q7.Op_,I_ x.q7.D_,I_ x.q7.A_,I_ x.q7.B_,I_ x.q7.C_,I_ x.q7.N_,.sc (.int .u32 x.q7.Bits_)]]),(9,.typ false 6 v1.2)])) (λp=>([(4,B_ false)],[(200000,.lit 7 [[.im 1 x.1,.im 2 x.2.1,.im 3 x.2.2.1,.im 4 x.p3,.ow false 5 x.p4,.ow true 7 x.p5,.ow false 6 x.p6]])])) n (zwh n x v1)
def y1o (n:Nat) (x:Yad):Pt P_ Ty_ [200000] (Yan):=.call (k9 n) x.q7 λ(y1:(List Int))=>.loopR (V:=Yab) (zwe n x) ((y1.length:Int),y1) (0:Int) (λ(v1:Yab) (y4:Int)=>.join (S:=Ycs) (zwf x) (.ite (x.q7.Op_==34) (.need ((x.p6.length+([(-1:Int)]:List Int).length) * 8<=140737488355328) (.need ((x.p5.length+([[]]:List (List Int)).length) * 24<=140737488355328) (.leaf (.inl ((x.p5++([[]]:List (List Int))),(x.p6++([(-1:Int)]:List Int))))))) (.leaf (.inl (x.p5,x.p6)))) λs1=>.join (S:=Yct) (zwg x) (.call (k11 n) x.q7 λ(y5:Bool)=>.ite y5 (.need (0<=x.q7.D_/\x.q7.D_<(x.p4.length:Int)) (.bnd (x.p4[x.q7.D_.toNat]?) λy6=>.leaf (.inl ((!y6),s1.1,s1.2)))) (.leaf (.inl (false,s1.1,s1.2)))) λs2=>.ite s2.1 (.need (0<=x.q7.D_/\x.q7.D_<(x.p4.length:Int)) (.bnd (x.p4[x.q7.D_.toNat]?) λy7=>.ite (decide ((IntKind.i64.wrap ((s2.2.1.length:Int) - (1:Int)))>=(0:Int))) (.need (0<=(IntKind.i64.wrap ((s2.2.1.length:Int) - (1:Int)))/\(IntKind.i64.wrap ((s2.2.1.length:Int) - (1:Int)))<(s2.2.1.length:Int)) (.bnd (s2.2.1[(IntKind.i64.wrap ((s2.2.1.length:Int) - (1:Int))).toNat]?) λy8=>.bnd (s2.2.1[(IntKind.i64.wrap ((s2.2.1.length:Int) - (1:Int))).toNat]?) λy9=>.bnd (s2.2.1[(IntKind.i64.wrap ((s2.2.1.length:Int) - (1:Int))).toNat]?) λy10=>.need ((y9.length+([x.q7.D_]:List Int).length) * 8<=140737488355328) (.need (0<=(IntKind.i64.wrap ((s2.2.1.length:Int) - (1:Int)))/\(IntKind.i64.wrap ((s2.2.1.length:Int) - (1:Int)))<(s2.2.1.length:Int)) (.need ((IntKind.i64.wrap ((s2.2.1.length:Int) - (1:Int))).toNat=(IntKind.i64.wrap ((s2.2.1.length:Int) - (1:Int))).toNat/\(IntKind.i64.wrap ((s2.2.1.length:Int) - (1:Int))).toNat<s2.2.1.length) (.leaf (true,x.1,x.2.1,x.2.2.1,x.p3,(x.p4.set x.q7.D_.toNat true),(s2.2.1.set ((IntKind.i64.wrap ((s2.2.1.length:Int) - (1:Int))).toNat) (y9++([x.q7.D_]:List Int))),s2.2.2)))))) (.leaf (true,x.1,x.2.1,x.2.2.1,x.p3,(x.p4.set x.q7.D_.toNat true),s2.2.1,s2.2.2)))) (.leaf (true,x.1,x.2.1,x.2.2.1,x.p3,x.p4,s2.2.1,s2.2.2))) λ(v1:Yab) (z1:Unit)=>.leaf (false,x.1,x.2.1,x.2.2.1,x.p3,x.p4,x.p5,x.p6)
def k37 (n:Nat):Con P_ Ty_:=zb (X:=Yad) (R:=Yan) (pro:=[200000]) (y1m n) 45 y1n (λx=>.two .no (.two (.two .no (.two (.loop (Yab) (zwe n x) true ⟨[(0,.ref 200000),(3,.ref 3),(9,.ref 9),(10,.any),(11,.any)],[(200000,.any),(3,.any),(9,.any)]⟩) .no)) (.join (Ycs) (zwf x) ⟨[(0,.ref 200000),(3,.ref 3)],[(200000,.any),(3,.any)]⟩ .no (.two (.join (Yct) (zwg x) ⟨[(0,.ref 200000),(3,.ref 3),(57,.any)],[(200000,.any),(3,.any)]⟩ .no .no) .no)))) [.pt 200000,.ag [.any,.any,.any,.any,.any,.any,.any]] [(200000,[.im 1,.im 2,.im 3,.im 4,.ow false 5,.ow true 7,.ow false 6])] [] ⟨[(4,.any)],[(200000,.any)]⟩ [200000] false (λx=>[.pt 200000 [] 0 0,.ag [I_ x.q7.Op_,I_ x.q7.D_,I_ x.q7.A_,I_ x.q7.B_,I_ x.q7.C_,I_ x.q7.N_,.sc (.int .u32 x.q7.Bits_)]]) (λx=>[(200000,.lit 7 [[.im 1 x.1,.im 2 x.2.1,.im 3 x.2.2.1,.im 4 x.p3,.ow false 5 x.p4,.ow true 7 x.p5,.ow false 6 x.p6]])]) (λy=>([(4,B_ y.1)],[(200000,.lit 7 [[.im 1 y.2.1,.im 2 y.2.2.1,.im 3 y.p3,.im 4 y.p4,.ow false 5 y.p5,.ow true 7 y.p6,.ow false 6 y.q7]])])) (λy=>B_ y.1) (λy=>[(200000,.lit 7 [[.im 1 y.2.1,.im 2 y.2.2.1,.im 3 y.p3,.im 4 y.p4,.ow false 5 y.p5,.ow true 7 y.p6,.ow false 6 y.q7]])]) (y1o n)
def y0t (n:Nat):Cx P_ Ty_:=⟨[k28 n,k29 n,k32 n,k35 n,k36 n,k37 n],[(45,false,5)],[],[]⟩
abbrev y0u:List (List Nat):=[[1],[1,4],[1,4,11],[2,3],[1,15],[2,3],[1,26],[2,3],[1,40],[2,3],[1,5],[1,5,49,50,51],[1,5,49,50,51,52],[1,5,6,7,49,50,51],[1,5,6,49,50,51,71],[2,3],[1,5,49,50,51],[1,79],[2,3],[2,3]]
def zua (x:Xe) (p:Bool):EH Ty_:=([(1,.pt 1 [] 0 0),(15,B_ p)],[(1,.lit 4 [[.im 1 x.Sign_,.im 2 x.Regs_,.im 3 x.Slots_,.im 4 x.List_]])])
def zub (x:Xe) (p:Yai):EH Ty_:=([(1,.pt 1 [] 0 0),(40,B_ p.1)],[(1,.lit 4 [[.im 1 p.2.1,.im 2 p.2.2.1,.im 3 p.p3,.im 4 p.q4]])])
def zuc (x:Xe) (v1:Ybe) (q1:Yay) (p:Yan):EH Ty_:=([(1,.pt 1 [] 0 0),(5,.pt 47 [] 0 0),(6,I_ q1.1),(49,.im 4 v1.1),(50,I_ v1.2.1),(51,I_ q1.1),(71,B_ p.1)],[(1,.lit 4 [[.im 1 v1.2.2.1,.im 2 v1.p3,.im 3 v1.q4,.im 4 v1.1]]),(47,.lit 7 [[.im 1 p.2.1,.im 2 p.2.2.1,.im 3 p.p3,.im 4 p.p4,.ow false 5 p.p5,.ow true 7 p.p6,.ow false 6 p.q7]])])
def zud (n:Nat) (x:Xe) (v1:Ybe) (q1:Yay):Pt P_ Ty_ [] (Bo (Yay) (Yay) Int):=.ite (decide (q1.1<v1.2.1)) (.bnd (idx v1.1 q1.1) λy4=>.join (S:=Yan) (zuc x v1 q1) (.call (k35 n) (q1.2.1,q1.2.2.1,q1.p3,q1.p4,q1.p5,q1.p6,q1.q7,y4) λ(y5:Yan)=>.ite (!y5.1) (.leaf (.inl (true,y5.2.1,y5.2.2.1,y5.p3,y5.p4,y5.p5,y5.p6,y5.q7))) (.call (k36 n) (y5.2.1,y5.2.2.1,y5.p3,y5.p4,y5.p5,y5.p6,y5.q7,y4) λ(y6:Yan)=>.ite (!y6.1) (.leaf (.inl (true,y6.2.1,y6.2.2.1,y6.p3,y6.p4,y6.p5,y6.p6,y6.q7))) (.call (k37 n) (y6.2.1,y6.2.2.1,y6.p3,y6.p4,y6.p5,y6.p6,y6.q7,y4) λ(y7:Yan)=>.leaf (.inl ((!y7.1),y7.2.1,y7.2.2.1,y7.p3,y7.p4,y7.p5,y7.p6,y7.q7))))) λs3=>.ite s3.1 (.leaf (.ret q1.1)) (.leaf (.go ((IntKind.i64.wrap (q1.1+(1:Int))),s3.2.1,s3.2.2.1,s3.p3,s3.p4,s3.p5,s3.p6,s3.q7)))) (.leaf (.out (q1.1,q1.2.1,q1.2.2.1,q1.p3,q1.p4,q1.p5,q1.p6,q1.q7)))
def zu9 (n:Nat) (x:Xe) (v1:Ybe):LCon P_ Ty_ []:=lcon (X:=Yay) (Y:=Yay) (Z:=Int) (y0t n) (subC [1,1,1,1,0,1,0,0] (fnC P_ 17 y0u)) (λq1=>.two .no (.two .no (.two (.two (.two .no (.join (Yan) (zuc x v1 q1) ⟨[(1,.ref 1),(5,.ref 47),(6,.any),(49,.im 4),(50,.any),(51,.any),(71,.any)],[(1,.any),(47,.any)]⟩ .no .no)) .no) .no))) 1 true ⟨[(1,.ref 1),(5,.ref 47),(49,.im 4),(50,.any),(51,.any)],[(1,.any),(47,.fix [.no,.no,.no,.no,.no,.ow true 7,.ow false 6])]⟩ ⟨[(1,.ref 1),(5,.ref 47),(49,.im 4),(50,.any),(51,.any),(52,.any)],[(1,.any),(47,.any)]⟩ ⟨[(2,.any),(3,.any)],[]⟩ (λq1=>([(1,.pt 1 [] 0 0),(5,.pt 47 [] 0 0),(49,.im 4 v1.1),(50,I_ v1.2.1),(51,I_ q1.1)],[(1,.lit 4 [[.im 1 v1.2.2.1,.im 2 v1.p3,.im 3 v1.q4,.im 4 v1.1]]),(47,.lit 7 [[.im 1 q1.2.1,.im 2 q1.2.2.1,.im 3 q1.p3,.im 4 q1.p4,.ow false 5 q1.p5,.ow true 7 q1.p6,.ow false 6 q1.q7]])])) (λp=>([(1,.pt 1 [] 0 0),(5,.pt 47 [] 0 0),(49,.im 4 v1.1),(50,I_ v1.2.1),(51,I_ p.1),(52,B_ false)],[(1,.lit 4 [[.im 1 v1.2.2.1,.im 2 v1.p3,.im 3 v1.q4,.im 4 v1.1]]),(47,.lit 7 [[.im 1 p.2.1,.im 2 p.2.2.1,.im 3 p.p3,.im 4 p.p4,.ow false 5 p.p5,.ow true 7 p.p6,.ow false 6 p.q7]])])) (λp=>([(2,I_ (160:Int)),(3,I_ p)],[])) n (zud n x v1)
def y0v (n:Nat) (x:Xe):Pt P_ Ty_ [] (Yaa):=.call (k28 n) x.Sign_ λ(y1:Int)=>.ite (y1 != (0:Int)) (.leaf (y1,(-1:Int))) (.join (S:=Bool) (zua x) (.ite (decide ((x.Regs_.length:Int) > (16384:Int))) (.leaf (.inl true)) (.leaf (.inl (decide ((x.List_.length:Int) > (32768:Int)))))) λs1=>.ite s1 (.leaf ((181:Int),(-1:Int))) (.ite (decide ((x.Slots_.length:Int) > (4096:Int))) (.leaf ((180:Int),(-1:Int))) (.join (S:=Yai) (zub x) (.call (k29 n) (x.Regs_,x.Sign_,x.Regs_,x.Slots_,x.List_) λ(y2:Yai)=>.ite y2.1 (.leaf (.inl (true,y2.2.1,y2.2.2.1,y2.p3,y2.q4))) (.call (k32 n) (y2.p3,y2.2.1,y2.2.2.1,y2.p3,y2.q4) λ(y3:Yai)=>.leaf (.inl (y3.1,y3.2.1,y3.2.2.1,y3.p3,y3.q4)))) λs2=>.ite s2.1 (.leaf ((160:Int),(-1:Int))) (.need (0<=(s2.2.2.1.length:Int)/\(s2.2.2.1.length:Int) * (1:Int)<=140737488355328) (.loopR (V:=Ybe) (zu9 n x) (s2.q4,(s2.q4.length:Int),s2.2.1,s2.2.2.1,s2.p3) ((0:Int),s2.2.1,s2.2.2.1,s2.p3,s2.q4,(replicate (s2.2.2.1.length:Int).toNat false),([]:List (List Int)),([]:List Int)) (λ(v1:Ybe) (y8:Yay)=>.ite (decide ((y8.q7.length:Int) > (0:Int))) (.leaf ((160:Int),(v1.1.length:Int))) (.leaf ((0:Int),(0:Int)))) λ(v1:Ybe) (z1:Int)=>.leaf ((160:Int),z1))))))
def k16 (n:Nat):Con P_ Ty_:=zb (X:=Xe) (R:=Yaa) (pro:=[]) (y0t n) 17 y0u (λx=>.two .no (.two (.two .no (.two (.two .no (.two .no (.join Bool (zua x) ⟨[(1,.ref 1),(15,.any)],[(1,.any)]⟩ .no .no))) .no)) (.two (.join (Yai) (zub x) ⟨[(1,.ref 1),(40,.any)],[(1,.any)]⟩ .no .no) (.two .no (.two (.two .no (.two (.loop (Ybe) (zu9 n x) true ⟨[(1,.ref 1),(5,.ref 47),(49,.im 4),(50,.any),(51,.any)],[(1,.any),(47,.fix [.no,.no,.no,.no,.no,.ow true 7,.ow false 6])]⟩) .no)) .no))))) [.ag [.im 1,.im 2,.im 3,.im 4]] [] [] ⟨[(2,.any),(3,.any)],[]⟩ [] true (λx=>[.ag [.im 1 x.Sign_,.im 2 x.Regs_,.im 3 x.Slots_,.im 4 x.List_]]) (λx=>[]) (λy=>([(2,I_ y.1),(3,I_ y.2)],[])) (λy=>.tu [I_ y.1,I_ y.2]) (λy=>[]) (y0v n)
def b193:Code:=(Go.Proofs.Tryz.f18.body).getD .skip
def r193:IC:=match z3n Go.Proofs.Tryz.prog 8 (lf (rt (rt b193))) [[2]] with | some (c,_)=>c | none=>.skip
abbrev c193:Cx Go.Proofs.Tryz.prog Ty_:=⟨[],[(5,false,1)],[],[]⟩
def g193 (_:Nat) (a0:List Xa):Option (List Xa):=need (a0.length * 32<=140737488355328) (some a0)
theorem zpm (n:Nat) (a0:List Xa) (r:List Xa) (hg:g193 n a0=some r):z17 Go.Proofs.Tryz.prog 18 [.im 3 (a0.map (c1 false))] [] (.sl 100000 [] 0 (r.map (c1 false)).length) [(100000,⟨3,r.map (c1 false)⟩)]:=by
 obtain ⟨hl,hr⟩:=z7a hg;obtain rfl:=Option.some.inj hr;rw [length_map];have e:evC (L:=EH Ty_) c193 r193 .no [(0,.im 1 a0)] [] zad=Raw.need ((([]:List Xa).length+a0.length) * 32<=140737488355328) (.leaf ([(2,.sw 100000 [])],[(100000,.typ false 1 (([]:List Xa)++a0))])):=by kernel_rfl
 exact zba (T:=Ty_) (ty:=1) (fn:=Go.Proofs.Tryz.f18) (b:=b193) (t:=22) (el:=53) (c3:=.seq r193 .ret) (by kernel_rfl) (by kernel_rfl) (by kernel_rfl) (by kernel_rfl) (by kernel_rfl) ⟨[[0]],[],by kernel_rfl⟩ (by kernel_rfl) (by kernel_rfl) (by kernel_rfl) ⟨[[2]],[],by kernel_rfl⟩ ⟨[[2]],[],by kernel_rfl⟩ (by kernel_rfl) (by kernel_rfl) a0
  (zdr (cx:=c193) (by rw [e];exact ⟨by simpa using hl,rfl⟩))
def k193 (n:Nat):Con Go.Proofs.Tryz.prog Ty_ where
 f:=18
 X:=(List Xa)
 Y:=(List Xa)
 A:=[.im 1]
 H:=[]
 N:=[100000]
 encA:=λx=>[.im 1 x]
 encH:=λ_=>[]
 G:=λx=>g193 n x
 encR:=λ_=>.sw 100000 []
 encO:=λy=>[(100000,.typ false 1 y)]
 strong:=true
 ok:=λx y h=>⟨λ_=>zpm n x y h,z17.toG (zpm n x y h)⟩
def b194:Code:=(Go.Proofs.Tryz.f19.body).getD .skip
def r194:IC:=match z3n Go.Proofs.Tryz.prog 8 (lf (rt (rt b194))) [[2]] with | some (c,_)=>c | none=>.skip
abbrev c194:Cx Go.Proofs.Tryz.prog Ty_:=⟨[],[(5,false,2)],[],[]⟩
def g194 (_:Nat) (a0:List Xb):Option (List Xb):=need (a0.length * 16<=140737488355328) (some a0)
theorem zpn (n:Nat) (a0:List Xb) (r:List Xb) (hg:g194 n a0=some r):z17 Go.Proofs.Tryz.prog 19 [.im 2 (a0.map (c2 false))] [] (.sl 100000 [] 0 (r.map (c2 false)).length) [(100000,⟨2,r.map (c2 false)⟩)]:=by
 obtain ⟨hl,hr⟩:=z7a hg;obtain rfl:=Option.some.inj hr;rw [length_map];have e:evC (L:=EH Ty_) c194 r194 .no [(0,.im 2 a0)] [] zad=Raw.need ((([]:List Xb).length+a0.length) * 16<=140737488355328) (.leaf ([(2,.sw 100000 [])],[(100000,.typ false 2 (([]:List Xb)++a0))])):=by kernel_rfl
 exact zba (T:=Ty_) (ty:=2) (fn:=Go.Proofs.Tryz.f19) (b:=b194) (t:=23) (el:=46) (c3:=.seq r194 .ret) (by kernel_rfl) (by kernel_rfl) (by kernel_rfl) (by kernel_rfl) (by kernel_rfl) ⟨[[0]],[],by kernel_rfl⟩ (by kernel_rfl) (by kernel_rfl) (by kernel_rfl) ⟨[[2]],[],by kernel_rfl⟩ ⟨[[2]],[],by kernel_rfl⟩ (by kernel_rfl) (by kernel_rfl) a0
  (zdr (cx:=c194) (by rw [e];exact ⟨by simpa using hl,rfl⟩))
def k194 (n:Nat):Con Go.Proofs.Tryz.prog Ty_ where
 f:=19
 X:=(List Xb)
 Y:=(List Xb)
 A:=[.im 2]
 H:=[]
 N:=[100000]
 encA:=λx=>[.im 2 x]
 encH:=λ_=>[]
 G:=λx=>g194 n x
 encR:=λ_=>.sw 100000 []
 encO:=λy=>[(100000,.typ false 2 y)]
 strong:=true
 ok:=λx y h=>⟨λ_=>zpn n x y h,z17.toG (zpn n x y h)⟩
def b195:Code:=(Go.Proofs.Tryz.f20.body).getD .skip
def r195:IC:=match z3n Go.Proofs.Tryz.prog 8 (lf (rt (rt b195))) [[2]] with | some (c,_)=>c | none=>.skip
abbrev c195:Cx Go.Proofs.Tryz.prog Ty_:=⟨[],[(5,false,3)],[],[]⟩
def g195 (_:Nat) (a0:List Xc):Option (List Xc):=need (a0.length * 32<=140737488355328) (some a0)
theorem zpo (n:Nat) (a0:List Xc) (r:List Xc) (hg:g195 n a0=some r):z17 Go.Proofs.Tryz.prog 20 [.im 5 (a0.map (c3 false))] [] (.sl 100000 [] 0 (r.map (c3 false)).length) [(100000,⟨5,r.map (c3 false)⟩)]:=by
 obtain ⟨hl,hr⟩:=z7a hg;obtain rfl:=Option.some.inj hr;rw [length_map];have e:evC (L:=EH Ty_) c195 r195 .no [(0,.im 3 a0)] [] zad=Raw.need ((([]:List Xc).length+a0.length) * 32<=140737488355328) (.leaf ([(2,.sw 100000 [])],[(100000,.typ false 3 (([]:List Xc)++a0))])):=by kernel_rfl
 exact zba (T:=Ty_) (ty:=3) (fn:=Go.Proofs.Tryz.f20) (b:=b195) (t:=24) (el:=48) (c3:=.seq r195 .ret) (by kernel_rfl) (by kernel_rfl) (by kernel_rfl) (by kernel_rfl) (by kernel_rfl) ⟨[[0]],[],by kernel_rfl⟩ (by kernel_rfl) (by kernel_rfl) (by kernel_rfl) ⟨[[2]],[],by kernel_rfl⟩ ⟨[[2]],[],by kernel_rfl⟩ (by kernel_rfl) (by kernel_rfl) a0
  (zdr (cx:=c195) (by rw [e];exact ⟨by simpa using hl,rfl⟩))
def k195 (n:Nat):Con Go.Proofs.Tryz.prog Ty_ where
 f:=20
 X:=(List Xc)
 Y:=(List Xc)
 A:=[.im 3]
 H:=[]
 N:=[100000]
 encA:=λx=>[.im 3 x]
 encH:=λ_=>[]
 G:=λx=>g195 n x
 encR:=λ_=>.sw 100000 []
 encO:=λy=>[(100000,.typ false 3 y)]
 strong:=true
 ok:=λx y h=>⟨λ_=>zpo n x y h,z17.toG (zpo n x y h)⟩
def zux (n:Nat):Cx P_ Ty_:=⟨[k11 n],[(9,false,5)],[],[]⟩
abbrev zuy:List (List Nat):=[[1],[1,3],[3,11,12,13],[3,11,12,13,14],[3,5,11,12,13],[3,5,11,12,13,19],[3,5,11,12,13,24],[2],[3,11,12,13],[3,11,12,13],[2]]
def zpy (n:Nat) (x:Xe) (v1:Unit) (q1:Yaf):Pt P_ Ty_ [] (Bo (Yaf) (Yaf) Unit):=.ite (decide (q1.1<(x.List_.length:Int))) (.bnd (idx x.List_ q1.1) λy1=>.call (k11 n) y1 λ(y2:Bool)=>.ite (!y2) (.leaf (.go ((IntKind.i64.wrap (q1.1+(1:Int))),q1.2))) (.need (0<=y1.D_/\y1.D_<(q1.2.length:Int)) (.bnd (q1.2[y1.D_.toNat]?) λy3=>.ite y3 (.leaf (.ret ())) (.need (0<=y1.D_/\y1.D_<(q1.2.length:Int)) (.bnd (q1.2[y1.D_.toNat]?) λy4=>.leaf (.go ((IntKind.i64.wrap (q1.1+(1:Int))),(q1.2.set y1.D_.toNat true)))))))) (.leaf (.out (q1.1,q1.2)))
def zpx (n:Nat) (x:Xe) (v1:Unit):LCon P_ Ty_ []:=lcon (X:=Yaf) (Y:=Yaf) (Z:=Unit) (zux n) (subC [1,1,0,1,0,0] (fnC P_ 21 zuy)) (λq1=>.no) 0 true ⟨[(3,.ref 9),(11,.im 4),(12,.any),(13,.any)],[(9,.any)]⟩ ⟨[(3,.ref 9),(11,.im 4),(12,.any),(13,.any),(14,.any)],[(9,.any)]⟩ ⟨[(2,.any)],[]⟩ (λq1=>([(3,.sw 9 []),(11,.im 4 x.List_),(12,I_ (x.List_.length:Int)),(13,I_ q1.1)],[(9,.typ false 5 q1.2)])) (λp=>([(3,.sw 9 []),(11,.im 4 x.List_),(12,I_ (x.List_.length:Int)),(13,I_ p.1),(14,B_ false)],[(9,.typ false 5 p.2)])) (λp=>([(2,B_ false)],[])) n (zpy n x v1)
def zuz (n:Nat) (x:Xe):Pt P_ Ty_ [] Bool:=.need (0<=(x.Regs_.length:Int)/\(x.Regs_.length:Int) * (1:Nat)<=140737488355328) (.loopR (V:=Unit) (zpx n x) () ((0:Int),(replicate (x.Regs_.length:Int).toNat false)) (λ(v1:Unit) (y5:Yaf)=>.leaf true) λ(v1:Unit) (z1:Unit)=>.leaf false)
def k239 (n:Nat):Con P_ Ty_:=zb (X:=Xe) (R:=Bool) (pro:=[]) (zux n) 21 zuy (λx=>.two .no (.two .no (.two (.two .no (.two (.loop Unit (zpx n x) true ⟨[(3,.ref 9),(11,.im 4),(12,.any),(13,.any)],[(9,.any)]⟩) .no)) .no))) [.ag [.im 1,.im 2,.im 3,.im 4]] [] [] ⟨[(2,.any)],[]⟩ [] true (λx=>[.ag [.im 1 x.Sign_,.im 2 x.Regs_,.im 3 x.Slots_,.im 4 x.List_]]) (λx=>[]) (λy=>([(2,B_ y)],[])) (λy=>B_ y) (λy=>[]) (zuz n)
def b196:Code:=(Go.Proofs.Tryz.f22.body).getD .skip
def r196:IC:=match z3n Go.Proofs.Tryz.prog 8 (lf (rt (rt b196))) [[2]] with | some (c,_)=>c | none=>.skip
abbrev c196:Cx Go.Proofs.Tryz.prog Ty_:=⟨[],[(5,false,4)],[],[]⟩
def g196 (_:Nat) (a0:List Xd):Option (List Xd):=need (a0.length * 56<=140737488355328) (some a0)
theorem zpp (n:Nat) (a0:List Xd) (r:List Xd) (hg:g196 n a0=some r):z17 Go.Proofs.Tryz.prog 22 [.im 7 (a0.map (c4 false))] [] (.sl 100000 [] 0 (r.map (c4 false)).length) [(100000,⟨7,r.map (c4 false)⟩)]:=by
 obtain ⟨hl,hr⟩:=z7a hg;obtain rfl:=Option.some.inj hr;rw [length_map];have e:evC (L:=EH Ty_) c196 r196 .no [(0,.im 4 a0)] [] zad=Raw.need ((([]:List Xd).length+a0.length) * 56<=140737488355328) (.leaf ([(2,.sw 100000 [])],[(100000,.typ false 4 (([]:List Xd)++a0))])):=by kernel_rfl
 exact zba (T:=Ty_) (ty:=4) (fn:=Go.Proofs.Tryz.f22) (b:=b196) (t:=25) (el:=44) (c3:=.seq r196 .ret) (by kernel_rfl) (by kernel_rfl) (by kernel_rfl) (by kernel_rfl) (by kernel_rfl) ⟨[[0]],[],by kernel_rfl⟩ (by kernel_rfl) (by kernel_rfl) (by kernel_rfl) ⟨[[2]],[],by kernel_rfl⟩ ⟨[[2]],[],by kernel_rfl⟩ (by kernel_rfl) (by kernel_rfl) a0
  (zdr (cx:=c196) (by rw [e];exact ⟨by simpa using hl,rfl⟩))
def k196 (n:Nat):Con Go.Proofs.Tryz.prog Ty_ where
 f:=22
 X:=(List Xd)
 Y:=(List Xd)
 A:=[.im 4]
 H:=[]
 N:=[100000]
 encA:=λx=>[.im 4 x]
 encH:=λ_=>[]
 G:=λx=>g196 n x
 encR:=λ_=>.sw 100000 []
 encO:=λy=>[(100000,.typ false 4 y)]
 strong:=true
 ok:=λx y h=>⟨λ_=>zpp n x y h,z17.toG (zpp n x y h)⟩
def zv9 (n:Nat):Cx P_ Ty_:=⟨[k9 n],[],[],[]⟩
abbrev zva:List (List Nat):=[[0,3,4],[0,3,4,9,10],[0,3,4,9,10,11],[0,3,4,5,9,10],[0,3,4,6,9,10],[0,3,4,9,10],[0,3,4,9,10],[4]]
def zq0 (n:Nat) (x:Ybg) (v1:Int) (q1:Yat):Pt P_ Ty_ [200000] (Bo (Yat) (Yat) Empty):=.ite (decide (q1.1<v1)) (.bnd (idx [2,3,4] q1.1) λy2=>.bnd (z2n [some q1.2.1,some q1.2.2.1,some q1.p3,some q1.p4,some q1.p5,some q1.q6,none] y2) λy3=>.need (0<=y3/\y3<(x.2.1.length:Int)) (.bnd (x.2.1[y3.toNat]?) λy4=>.bnd (z2n [some q1.2.1,some q1.2.2.1,some q1.p3,some q1.p4,some q1.p5,some q1.q6,none] y2) λy5=>.leaf (.go ((IntKind.i64.wrap (q1.1+(1:Int))),(bif Nat.beq y2 0 then y4 else q1.2.1),(bif Nat.beq y2 1 then y4 else q1.2.2.1),(bif Nat.beq y2 2 then y4 else q1.p3),(bif Nat.beq y2 3 then y4 else q1.p4),(bif Nat.beq y2 4 then y4 else q1.p5),(bif Nat.beq y2 5 then y4 else q1.q6))))) (.leaf (.out (q1.1,q1.2.1,q1.2.2.1,q1.p3,q1.p4,q1.p5,q1.q6)))
def zpz (n:Nat) (x:Ybg) (v1:Int):LCon P_ Ty_ [200000]:=lcon (X:=Yat) (Y:=Yat) (Z:=Empty) (zv9 n) (subC [1,0,1,0,0] (fnC P_ 23 zva)) (λq1=>.no) 0 false ⟨[(0,.ref 200000),(3,.ref 3),(4,.ref 4),(9,.any),(10,.any)],[(200000,.any),(3,.any),(4,.any)]⟩ ⟨[(0,.ref 200000),(3,.ref 3),(4,.ref 4),(9,.any),(10,.any),(11,.any)],[(200000,.any),(3,.any),(4,.any)]⟩ ⟨[],[]⟩ (λq1=>([(0,.pt 200000 [] 0 0),(3,.pt 3 [] 0 0),(4,.pt 4 [] 0 0),(9,I_ v1),(10,I_ q1.1)],[(200000,.lit 2 [[.ow true 9 x.1,.ow false 6 x.2.1]]),(3,.lit 7 [[I_ q1.2.1,I_ q1.2.2.1,I_ q1.p3,I_ q1.p4,I_ q1.p5,I_ q1.q6,.sc (.int .u32 x.2.2.Bits_)]]),(4,.lit 7 [[I_ (0:Int),I_ (0:Int),I_ (0:Int),I_ (0:Int),I_ (0:Int),I_ (0:Int),.sc (.int .u32 (0:Int))]])])) (λp=>([(0,.pt 200000 [] 0 0),(3,.pt 3 [] 0 0),(4,.pt 4 [] 0 0),(9,I_ v1),(10,I_ p.1),(11,B_ false)],[(200000,.lit 2 [[.ow true 9 x.1,.ow false 6 x.2.1]]),(3,.lit 7 [[I_ p.2.1,I_ p.2.2.1,I_ p.p3,I_ p.p4,I_ p.p5,I_ p.q6,.sc (.int .u32 x.2.2.Bits_)]]),(4,.lit 7 [[I_ (0:Int),I_ (0:Int),I_ (0:Int),I_ (0:Int),I_ (0:Int),I_ (0:Int),.sc (.int .u32 (0:Int))]])])) (λp=>nomatch p) n (zq0 n x v1)
def zvb (n:Nat) (x:Ybg):Pt P_ Ty_ [200000] (Ybp):=.call (k9 n) x.2.2 λ(y1:(List Int))=>.loop (V:=Int) (zpz n x) (y1.length:Int) ((0:Int),x.2.2.Op_,x.2.2.D_,x.2.2.A_,x.2.2.B_,x.2.2.C_,x.2.2.N_) λ(v1:Int) (y6:Yat)=>.leaf (x.1,x.2.1,y6.2.1,y6.2.2.1,y6.p3,y6.p4,y6.p5,y6.q6,x.2.2.Bits_)
def k240 (n:Nat):Con P_ Ty_:=zb (X:=Ybg) (R:=Ybp) (pro:=[200000]) (zv9 n) 23 zva (λx=>.two .no (.two (.two .no (.two (.loop Int (zpz n x) false ⟨[(0,.ref 200000),(3,.ref 3),(4,.ref 4),(9,.any),(10,.any)],[(200000,.any),(3,.any),(4,.any)]⟩) .no)) .no)) [.pt 200000,.ag [.any,.any,.any,.any,.any,.any,.any]] [(200000,[.ow true 9,.ow false 6])] [] ⟨[(4,.ref 100000)],[(200000,.any),(100000,.any)]⟩ [200000] true (λx=>[.pt 200000 [] 0 0,.ag [I_ x.2.2.Op_,I_ x.2.2.D_,I_ x.2.2.A_,I_ x.2.2.B_,I_ x.2.2.C_,I_ x.2.2.N_,.sc (.int .u32 x.2.2.Bits_)]]) (λx=>[(200000,.lit 2 [[.ow true 9 x.1,.ow false 6 x.2.1]])]) (λy=>([(4,.pt 100000 [] 0 0)],[(200000,.lit 2 [[.ow true 9 y.1,.ow false 6 y.2.1]]),(100000,.lit 7 [[I_ y.2.2.1,I_ y.p3,I_ y.p4,I_ y.p5,I_ y.p6,I_ y.p7,.sc (.int .u32 y.q8)]])])) (λy=>.ag [I_ y.2.2.1,I_ y.p3,I_ y.p4,I_ y.p5,I_ y.p6,I_ y.p7,.sc (.int .u32 y.q8)]) (λy=>[(200000,.lit 2 [[.ow true 9 y.1,.ow false 6 y.2.1]])]) (zvb n)
def zvc (n:Nat):Cx P_ Ty_:=⟨[],[],[],[]⟩
abbrev zvd:List (List Nat):=[[0,3],[3,13,14,15],[3,13,14,15,16],[3,7,13,14,15],[3,8,9,13,14,15],[3,8,13,14,15,25],[4,5],[3,13,14,15],[4,5]]
def zq2 (n:Nat) (x:Ybh) (v1:Unit) (q1:Int):Pt P_ Ty_ [200000] (Bo Int Int Int):=.ite (decide (q1<(x.1.length:Int))) (.need (0<=q1/\q1<(x.1.length:Int)) (.bnd (x.1[q1.toNat]?) λy1=>.bnd (x.1[q1.toNat]?) λy2=>.ite (List.any y2 (kf8 [(.int .i64 x.2.2.i_.Op_),(.int .i64 x.2.2.i_.D_),(.int .i64 x.2.2.i_.A_),(.int .i64 x.2.2.i_.B_),(.int .i64 x.2.2.i_.C_),(.int .i64 x.2.2.i_.N_),(.int .u32 x.2.2.i_.Bits_),(.int .i64 x.2.2.t_.Kind_),(.int .i64 x.2.2.t_.Param_)])) (.leaf (.ret (((List.find? (kf8 [(.int .i64 x.2.2.i_.Op_),(.int .i64 x.2.2.i_.D_),(.int .i64 x.2.2.i_.A_),(.int .i64 x.2.2.i_.B_),(.int .i64 x.2.2.i_.C_),(.int .i64 x.2.2.i_.N_),(.int .u32 x.2.2.i_.Bits_),(.int .i64 x.2.2.t_.Kind_),(.int .i64 x.2.2.t_.Param_)]) y2).getD (⟨x.2.2,(0:Int)⟩:Xg)).v_))) (.leaf (.go (IntKind.i64.wrap (q1+(1:Int))))))) (.leaf (.out q1))
def zq1 (n:Nat) (x:Ybh) (v1:Unit):LCon P_ Ty_ [200000]:=lcon (X:=Int) (Y:=Int) (Z:=Int) (zvc n) (subC [1,0,1,0,0] (fnC P_ 25 zvd)) (λq1=>.no) 0 true ⟨[(3,.ref 3),(13,.ref 200000),(14,.any),(15,.any)],[(200000,.any),(3,.any)]⟩ ⟨[(3,.ref 3),(13,.ref 200000),(14,.any),(15,.any),(16,.any)],[(200000,.any),(3,.any)]⟩ ⟨[(4,.any),(5,.any)],[(200000,.any)]⟩ (λq1=>([(3,.pt 3 [] 0 0),(13,.sw 200000 [(0,0)]),(14,I_ (x.1.length:Int)),(15,I_ q1)],[(200000,.lit 2 [[.ow true 9 x.1,.ow false 6 x.2.1]]),(3,.lit 9 [[I_ x.2.2.i_.Op_,I_ x.2.2.i_.D_,I_ x.2.2.i_.A_,I_ x.2.2.i_.B_,I_ x.2.2.i_.C_,I_ x.2.2.i_.N_,.sc (.int .u32 x.2.2.i_.Bits_),I_ x.2.2.t_.Kind_,I_ x.2.2.t_.Param_]])])) (λp=>([(3,.pt 3 [] 0 0),(13,.sw 200000 [(0,0)]),(14,I_ (x.1.length:Int)),(15,I_ p),(16,B_ false)],[(200000,.lit 2 [[.ow true 9 x.1,.ow false 6 x.2.1]]),(3,.lit 9 [[I_ x.2.2.i_.Op_,I_ x.2.2.i_.D_,I_ x.2.2.i_.A_,I_ x.2.2.i_.B_,I_ x.2.2.i_.C_,I_ x.2.2.i_.N_,.sc (.int .u32 x.2.2.i_.Bits_),I_ x.2.2.t_.Kind_,I_ x.2.2.t_.Param_]])])) (λp=>([(4,I_ p),(5,B_ true)],[(200000,.lit 2 [[.ow true 9 x.1,.ow false 6 x.2.1]])])) n (zq2 n x v1)
def zve (n:Nat) (x:Ybh):Pt P_ Ty_ [200000] (Ycj):=.loopR (V:=Unit) (zq1 n x) () (0:Int) (λ(v1:Unit) (y3:Int)=>.leaf ((0:Int),false,x.1,x.2.1)) λ(v1:Unit) (z1:Int)=>.leaf (z1,true,x.1,x.2.1)
def k241 (n:Nat):Con P_ Ty_:=zb (X:=Ybh) (R:=Ycj) (pro:=[200000]) (zvc n) 25 zvd (λx=>.two .no (.two (.two .no (.two (.loop Unit (zq1 n x) true ⟨[(3,.ref 3),(13,.ref 200000),(14,.any),(15,.any)],[(200000,.any),(3,.any)]⟩) .no)) .no)) [.pt 200000,.ag [.any,.any,.any,.any,.any,.any,.any,.any,.any]] [(200000,[.ow true 9,.ow false 6])] [] ⟨[(4,.any),(5,.any)],[(200000,.any)]⟩ [200000] true (λx=>[.pt 200000 [] 0 0,.ag [I_ x.2.2.i_.Op_,I_ x.2.2.i_.D_,I_ x.2.2.i_.A_,I_ x.2.2.i_.B_,I_ x.2.2.i_.C_,I_ x.2.2.i_.N_,.sc (.int .u32 x.2.2.i_.Bits_),I_ x.2.2.t_.Kind_,I_ x.2.2.t_.Param_]]) (λx=>[(200000,.lit 2 [[.ow true 9 x.1,.ow false 6 x.2.1]])]) (λy=>([(4,I_ y.1),(5,B_ y.2.1)],[(200000,.lit 2 [[.ow true 9 y.2.2.1,.ow false 6 y.q3]])])) (λy=>.tu [I_ y.1,B_ y.2.1]) (λy=>[(200000,.lit 2 [[.ow true 9 y.2.2.1,.ow false 6 y.q3]])]) (zve n)
def zlq (n:Nat):Cx P_ Ty_:=⟨[k16 n,k193 n,k194 n,k195 n,k239 n,k196 n,k240 n,k11 n,k241 n],[(40,false,8),(41,true,9),(45,false,6),(83,false,8),(84,true,9),(190,false,4),(191,false,4)],[],[]⟩
abbrev zlr:List (List Nat):=[[1,2],[1,2,4],[1,2,20],[2,3],[1,2,6],[1,2,6,34],[2,6],[2,3],[1,2,6,7],[1,2,6,7,52,53],[1,2,6,7,52,53,54],[1,2,6,7,8,52,53],[1,2,6,7,52,53],[1,2,6,7,52,53],[1,2,6,7,65,66,67],[1,2,6,7,65,66,67,68],[1,2,6,7,10,65,66,67],[1,2,6,7,10,65,66,67],[1,2,6,7,10,65,66,67,74],[1,2,6,7,10,65,66,67],[1,2,6,7,10,65,66,67,88],[1,2,6,7,10,65,66,67],[1,2,6,7,10,65,66,67,106],[1,2,6,7,65,66,67],[1,2,6,7,10,65,66,67,134],[1,2,6,7,10,11,65,66,67],[1,2,6,7,10,11,65,66,67],[1,2,6,7,10,11,12,13,65,66,67],[1,2,6,7,10,11,12,65,66,67,163],[1,2,6,7,65,66,67],[1,2,6,7,10,65,66,67],[1,2,6,7,65,66,67],[1,2,6,7,65,66,67],[2,3]]
def zps (x:Xe) (v2:Yal) (q2:Yaq) (p:Ybu):EH Ty_:=([(1,.pt 1 [] 0 0),(2,.pt 2 [] 0 0),(6,.pt 6 [] 0 0),(7,.pt 47 [] 0 0),(10,.pt 10 [] 0 0),(65,.im 4 x.List_),(66,I_ (x.List_.length:Int)),(67,I_ q2.1),(106,B_ p.1)],[(1,.lit 4 [[.im 1 x.Sign_,.im 2 x.Regs_,.im 3 x.Slots_,.im 4 x.List_]]),(2,.lit 4 [[.zs,.zs,.zs,.zs]]),(6,.lit 4 [[.ow false 1 v2.1,.ow false 2 v2.2.1,.ow false 3 v2.2.2,.ow false 4 q2.2.1]]),(47,.lit 2 [[.ow true 9 p.2.1,.ow false 6 p.2.2.1]]),(10,.lit 7 [[I_ p.p3,I_ p.p4,I_ p.p5,I_ p.p6,I_ p.p7,I_ p.p8,.sc (.int .u32 p.q9)]])])
def zpt (x:Xe) (v2:Yal) (q2:Yaq) (p:Ybu):EH Ty_:=([(1,.pt 1 [] 0 0),(2,.pt 2 [] 0 0),(6,.pt 6 [] 0 0),(7,.pt 47 [] 0 0),(10,.pt 10 [] 0 0),(65,.im 4 x.List_),(66,I_ (x.List_.length:Int)),(67,I_ q2.1),(134,B_ p.1)],[(1,.lit 4 [[.im 1 x.Sign_,.im 2 x.Regs_,.im 3 x.Slots_,.im 4 x.List_]]),(2,.lit 4 [[.zs,.zs,.zs,.zs]]),(6,.lit 4 [[.ow false 1 v2.1,.ow false 2 v2.2.1,.ow false 3 v2.2.2,.ow false 4 q2.2.1]]),(47,.lit 2 [[.ow true 9 p.2.1,.ow false 6 p.2.2.1]]),(10,.lit 7 [[I_ p.p3,I_ p.p4,I_ p.p5,I_ p.p6,I_ p.p7,I_ p.p8,.sc (.int .u32 p.q9)]])])
def zpu (x:Xe) (v2:Yal) (q2:Yaq) (p:Ybp):EH Ty_:=([(1,.pt 1 [] 0 0),(2,.pt 2 [] 0 0),(6,.pt 6 [] 0 0),(7,.pt 47 [] 0 0),(10,.pt 10 [] 0 0),(65,.im 4 x.List_),(66,I_ (x.List_.length:Int)),(67,I_ q2.1)],[(1,.lit 4 [[.im 1 x.Sign_,.im 2 x.Regs_,.im 3 x.Slots_,.im 4 x.List_]]),(2,.lit 4 [[.zs,.zs,.zs,.zs]]),(6,.lit 4 [[.ow false 1 v2.1,.ow false 2 v2.2.1,.ow false 3 v2.2.2,.ow false 4 q2.2.1]]),(47,.lit 2 [[.ow true 9 p.1,.ow false 6 p.2.1]]),(10,.lit 7 [[I_ p.2.2.1,I_ p.p3,I_ p.p4,I_ p.p5,I_ p.p6,I_ p.p7,.sc (.int .u32 p.q8)]])])
def zpv (n:Nat) (x:Xe) (v1:Yal) (q1:Yab):Pt P_ Ty_ [] (Bo (Yab) (Yab) Empty):=.ite (decide (q1.1<((replicate (x.Regs_.length:Int).toNat (0:Int)).length:Int))) (.need (0<=q1.1/\q1.1<(q1.2.length:Int)) (.bnd (q1.2[q1.1.toNat]?) λy7=>.leaf (.go ((IntKind.i64.wrap (q1.1+(1:Int))),(q1.2.set q1.1.toNat q1.1))))) (.leaf (.out (q1.1,q1.2)))
def zpq (n:Nat) (x:Xe) (v1:Yal):LCon P_ Ty_ []:=lcon (X:=Yab) (Y:=Yab) (Z:=Empty) (zlq n) (subC [1,1,1,1,1,0,1,0,0] (fnC P_ 8 zlr)) (λq1=>.no) 0 false ⟨[(1,.ref 1),(2,.ref 2),(6,.ref 6),(7,.ref 47),(52,.any),(53,.any)],[(1,.any),(2,.any),(6,.any),(47,.any)]⟩ ⟨[(1,.ref 1),(2,.ref 2),(6,.ref 6),(7,.ref 47),(52,.any),(53,.any),(54,.any)],[(1,.any),(2,.any),(6,.any),(47,.any)]⟩ ⟨[],[]⟩ (λq1=>([(1,.pt 1 [] 0 0),(2,.pt 2 [] 0 0),(6,.pt 6 [] 0 0),(7,.pt 47 [] 0 0),(52,I_ ((replicate (x.Regs_.length:Int).toNat (0:Int)).length:Int)),(53,I_ q1.1)],[(1,.lit 4 [[.im 1 x.Sign_,.im 2 x.Regs_,.im 3 x.Slots_,.im 4 x.List_]]),(2,.lit 4 [[.zs,.zs,.zs,.zs]]),(6,.lit 4 [[.ow false 1 v1.1,.ow false 2 v1.2.1,.ow false 3 v1.2.2,.zs]]),(47,.lit 2 [[.ow true 9 ([([]:List Xg)]:List (List Xg)),.ow false 6 q1.2]])])) (λp=>([(1,.pt 1 [] 0 0),(2,.pt 2 [] 0 0),(6,.pt 6 [] 0 0),(7,.pt 47 [] 0 0),(52,I_ ((replicate (x.Regs_.length:Int).toNat (0:Int)).length:Int)),(53,I_ p.1),(54,B_ false)],[(1,.lit 4 [[.im 1 x.Sign_,.im 2 x.Regs_,.im 3 x.Slots_,.im 4 x.List_]]),(2,.lit 4 [[.zs,.zs,.zs,.zs]]),(6,.lit 4 [[.ow false 1 v1.1,.ow false 2 v1.2.1,.ow false 3 v1.2.2,.zs]]),(47,.lit 2 [[.ow true 9 ([([]:List Xg)]:List (List Xg)),.ow false 6 p.2]])])) (λp=>nomatch p) n (zpv n x v1)
def zpw (n:Nat) (x:Xe) (v2:Yal) (q2:Yaq):Pt P_ Ty_ [] (Bo (Yaq) (Yaq) Empty):=.ite (decide (q2.1<(x.List_.length:Int))) (.bnd (idx x.List_ q2.1) λy9=>.call (k240 n) (q2.2.2.1,q2.q3,y9) λ(y10:Ybp)=>.join (S:=Ybp) (zpu x v2 q2) (.ite (y10.2.2.1==34) (.need ((y10.1.length+([([]:List Xg)]:List (List Xg)).length) * 8<=140737488355328) (.leaf (.inl ((y10.1++([([]:List Xg)]:List (List Xg))),y10.2.1,y10.2.2.1,y10.p3,y10.p4,y10.p5,y10.p6,y10.p7,y10.q8)))) (.ite (y10.2.2.1==35) (.need (0<=(IntKind.i64.wrap ((y10.1.length:Int) - (1:Int)))/\(IntKind.i64.wrap ((y10.1.length:Int) - (1:Int)))<=(y10.1.length:Int)) (.need ((IntKind.i64.wrap ((y10.1.length:Int) - (1:Int))).toNat<=y10.1.length) (.leaf (.inl ((y10.1.take ((IntKind.i64.wrap ((y10.1.length:Int) - (1:Int))).toNat)),y10.2.1,y10.2.2.1,y10.p3,y10.p4,y10.p5,y10.p6,y10.p7,y10.q8))))) (.join (S:=Ybu) (zps x v2 q2) (.ite (y10.2.2.1==3) (.bnd (idx x.Regs_ y10.p4) λy11=>.bnd (idx x.Regs_ y10.p3) λy12=>.leaf (.inl ((y11.Kind_==y12.Kind_&&(y11.Param_==y12.Param_&&true)),y10.1,y10.2.1,y10.2.2.1,y10.p3,y10.p4,y10.p5,y10.p6,y10.p7,y10.q8))) (.leaf (.inl (false,y10.1,y10.2.1,y10.2.2.1,y10.p3,y10.p4,y10.p5,y10.p6,y10.p7,y10.q8)))) λs1=>.ite s1.1 (.need (0<=s1.p4/\s1.p4<(s1.2.2.1.length:Int)) (.bnd (s1.2.2.1[s1.p4.toNat]?) λy13=>.leaf (.inr (.go ((IntKind.i64.wrap (q2.1+(1:Int))),q2.2.1,s1.2.1,(s1.2.2.1.set s1.p4.toNat s1.p5)))))) (.join (S:=Ybu) (zpt x v2 q2) (.call (k11 n) (⟨s1.p3,s1.p4,s1.p5,s1.p6,s1.p7,s1.p8,s1.q9⟩:Xd) λ(y14:Bool)=>.ite y14 (.ite (s1.p3 != (32:Int)) (.leaf (.inl ((s1.p3 != (3:Int)),s1.2.1,s1.2.2.1,s1.p3,s1.p4,s1.p5,s1.p6,s1.p7,s1.p8,s1.q9))) (.leaf (.inl (false,s1.2.1,s1.2.2.1,s1.p3,s1.p4,s1.p5,s1.p6,s1.p7,s1.p8,s1.q9)))) (.leaf (.inl (false,s1.2.1,s1.2.2.1,s1.p3,s1.p4,s1.p5,s1.p6,s1.p7,s1.p8,s1.q9)))) λs2=>.ite s2.1 (.bnd (idx x.Regs_ s2.p4) λy15=>.call (k241 n) (s2.2.1,s2.2.2.1,(⟨(⟨s2.p3,(0:Int),s2.p5,s2.p6,s2.p7,s2.p8,s2.q9⟩:Xd),y15⟩:Xf)) λ(y16:Ycj)=>.ite y16.2.1 (.need (0<=s2.p4/\s2.p4<(y16.q3.length:Int)) (.bnd (y16.q3[s2.p4.toNat]?) λy17=>.leaf (.inr (.go ((IntKind.i64.wrap (q2.1+(1:Int))),q2.2.1,y16.2.2.1,(y16.q3.set s2.p4.toNat y16.1)))))) (.need (0<=(IntKind.i64.wrap ((y16.2.2.1.length:Int) - (1:Int)))/\(IntKind.i64.wrap ((y16.2.2.1.length:Int) - (1:Int)))<(y16.2.2.1.length:Int)) (.bnd (y16.2.2.1[(IntKind.i64.wrap ((y16.2.2.1.length:Int) - (1:Int))).toNat]?) λy18=>.bnd (y16.2.2.1[(IntKind.i64.wrap ((y16.2.2.1.length:Int) - (1:Int))).toNat]?) λy19=>.leaf (.inl ((y16.2.2.1.set ((IntKind.i64.wrap ((y16.2.2.1.length:Int) - (1:Int))).toNat) (mput (kf8 [(.int .i64 s2.p3),(.int .i64 (0:Int)),(.int .i64 s2.p5),(.int .i64 s2.p6),(.int .i64 s2.p7),(.int .i64 s2.p8),(.int .u32 s2.q9),(.int .i64 y15.Kind_),(.int .i64 y15.Param_)]) (⟨(⟨(⟨s2.p3,(0:Int),s2.p5,s2.p6,s2.p7,s2.p8,s2.q9⟩:Xd),y15⟩:Xf),s2.p4⟩:Xg) y19)),y16.q3,s2.p3,s2.p4,s2.p5,s2.p6,s2.p7,s2.p8,s2.q9))))) (.leaf (.inl (s2.2.1,s2.2.2.1,s2.p3,s2.p4,s2.p5,s2.p6,s2.p7,s2.p8,s2.q9))))))) λs3=>.need ((q2.2.1.length+([(⟨s3.2.2.1,s3.p3,s3.p4,s3.p5,s3.p6,s3.p7,s3.q8⟩:Xd)]:List Xd).length) * 56<=140737488355328) (.leaf (.go ((IntKind.i64.wrap (q2.1+(1:Int))),(q2.2.1++([(⟨s3.2.2.1,s3.p3,s3.p4,s3.p5,s3.p6,s3.p7,s3.q8⟩:Xd)]:List Xd)),s3.1,s3.2.1)))) (.leaf (.out (q2.1,q2.2.1,q2.2.2.1,q2.q3)))
def zpr (n:Nat) (x:Xe) (v2:Yal):LCon P_ Ty_ []:=lcon (X:=Yaq) (Y:=Yaq) (Z:=Empty) (zlq n) (subC [1,1,1,1,1,1,0,1,0,0] (fnC P_ 8 zlr)) (λq2=>.two .no (.two .no (.two (.two (.two .no (.two .no (.join (Ybp) (zpu x v2 q2) ⟨[(1,.ref 1),(2,.ref 2),(6,.ref 6),(7,.ref 47),(10,.ref 10),(65,.im 4),(66,.any),(67,.any)],[(1,.any),(2,.any),(6,.any),(47,.any),(10,.any)]⟩ (.two (.two .no (.two .no (.two .no (.two .no (.join (Ybu) (zps x v2 q2) ⟨[(1,.ref 1),(2,.ref 2),(6,.ref 6),(7,.ref 47),(10,.ref 10),(65,.im 4),(66,.any),(67,.any),(106,.any)],[(1,.any),(2,.any),(6,.any),(47,.any),(10,.any)]⟩ .no (.two .no (.join (Ybu) (zpt x v2 q2) ⟨[(1,.ref 1),(2,.ref 2),(6,.ref 6),(7,.ref 47),(10,.ref 10),(65,.im 4),(66,.any),(67,.any),(134,.any)],[(1,.any),(2,.any),(6,.any),(47,.any),(10,.any)]⟩ .no .no))))))) .no) .no))) .no) .no))) 2 false ⟨[(1,.ref 1),(2,.ref 2),(6,.ref 6),(7,.ref 47),(65,.im 4),(66,.any),(67,.any)],[(1,.any),(2,.any),(6,.fix [.no,.no,.no,.ow false 4]),(47,.any)]⟩ ⟨[(1,.ref 1),(2,.ref 2),(6,.ref 6),(7,.ref 47),(65,.im 4),(66,.any),(67,.any),(68,.any)],[(1,.any),(2,.any),(6,.any),(47,.any)]⟩ ⟨[],[]⟩ (λq2=>([(1,.pt 1 [] 0 0),(2,.pt 2 [] 0 0),(6,.pt 6 [] 0 0),(7,.pt 47 [] 0 0),(65,.im 4 x.List_),(66,I_ (x.List_.length:Int)),(67,I_ q2.1)],[(1,.lit 4 [[.im 1 x.Sign_,.im 2 x.Regs_,.im 3 x.Slots_,.im 4 x.List_]]),(2,.lit 4 [[.zs,.zs,.zs,.zs]]),(6,.lit 4 [[.ow false 1 v2.1,.ow false 2 v2.2.1,.ow false 3 v2.2.2,.ow false 4 q2.2.1]]),(47,.lit 2 [[.ow true 9 q2.2.2.1,.ow false 6 q2.q3]])])) (λp=>([(1,.pt 1 [] 0 0),(2,.pt 2 [] 0 0),(6,.pt 6 [] 0 0),(7,.pt 47 [] 0 0),(65,.im 4 x.List_),(66,I_ (x.List_.length:Int)),(67,I_ p.1),(68,B_ false)],[(1,.lit 4 [[.im 1 x.Sign_,.im 2 x.Regs_,.im 3 x.Slots_,.im 4 x.List_]]),(2,.lit 4 [[.zs,.zs,.zs,.zs]]),(6,.lit 4 [[.ow false 1 v2.1,.ow false 2 v2.2.1,.ow false 3 v2.2.2,.ow false 4 p.2.1]]),(47,.lit 2 [[.ow true 9 p.2.2.1,.ow false 6 p.q3]])])) (λp=>nomatch p) n (zpw n x v2)
def zuw (n:Nat) (x:Xe):Pt P_ Ty_ [] (Yac):=.call (k16 n) x λ(y1:Yaa)=>.ite (y1.1 != (0:Int)) (.leaf ((160:Int),([]:List Xa),([]:List Xb),([]:List Xc),([]:List Xd))) (.call (k193 n) x.Sign_ λ(y2:(List Xa))=>.call (k194 n) x.Regs_ λ(y3:(List Xb))=>.call (k195 n) x.Slots_ λ(y4:(List Xc))=>.call (k239 n) x λ(y5:Bool)=>.ite (!y5) (.call (k196 n) x.List_ λ(y6:(List Xd))=>.leaf ((0:Int),y2,y3,y4,y6)) (.need (0<=(x.Regs_.length:Int)/\(x.Regs_.length:Int) * (8:Nat)<=140737488355328) (.loop (V:=Yal) (zpq n x) (y2,y3,y4) ((0:Int),(replicate (x.Regs_.length:Int).toNat (0:Int))) λ(v1:Yal) (y8:Yab)=>.loop (V:=Yal) (zpr n x) (v1.1,v1.2.1,v1.2.2) ((0:Int),([]:List Xd),([([]:List Xg)]:List (List Xg)),y8.2) λ(v2:Yal) (y20:Yaq)=>.leaf ((0:Int),v2.1,v2.2.1,v2.2.2,y20.2.1))))
def k238 (n:Nat):Con P_ Ty_:=zb (X:=Xe) (R:=Yac) (pro:=[]) (zlq n) 8 zlr (λx=>.two .no (.two .no (.two .no (.two .no (.two .no (.two (.two .no (.two (.loop (Yal) (zpq n x) false ⟨[(1,.ref 1),(2,.ref 2),(6,.ref 6),(7,.ref 47),(52,.any),(53,.any)],[(1,.any),(2,.any),(6,.any),(47,.any)]⟩) .no)) (.two (.two .no (.two (.loop (Yal) (zpr n x) false ⟨[(1,.ref 1),(2,.ref 2),(6,.ref 6),(7,.ref 47),(65,.im 4),(66,.any),(67,.any)],[(1,.any),(2,.any),(6,.fix [.no,.no,.no,.ow false 4]),(47,.any)]⟩) .no)) .no))))))) [.ag [.im 1,.im 2,.im 3,.im 4]] [] [100000] ⟨[(2,.ref 100000),(3,.any)],[(100000,.fix [.ow false 1,.ow false 2,.ow false 3,.ow false 4])]⟩ [100000] true (λx=>[.ag [.im 1 x.Sign_,.im 2 x.Regs_,.im 3 x.Slots_,.im 4 x.List_]]) (λx=>[]) (λy=>([(2,.pt 100000 [] 0 0),(3,I_ y.1)],[(100000,.lit 4 [[.ow false 1 y.2.1,.ow false 2 y.2.2.1,.ow false 3 y.p3,.ow false 4 y.q4]])])) (λy=>.tu [.ag [.sw 100000 [(0,0)],.sw 100000 [(0,1)],.sw 100000 [(0,2)],.sw 100000 [(0,3)]],I_ y.1]) (λy=>[(100000,.lit 4 [[.ow false 1 y.2.1,.ow false 2 y.2.2.1,.ow false 3 y.p3,.ow false 4 y.q4]])]) (zuw n)
def zgk (n:Nat):Cx P_ Ty_:=⟨[],[],[],[]⟩
abbrev zgl:List (List Nat):=[[2,3],[2,3,42],[4],[2,3,5],[2,3,5,47],[2,3,5,60],[4],[2,3,5],[2,3,6],[2,3,6,65],[2,3,6,78],[4],[2,3,6],[2,3,7],[2,3,7,83],[2,3,7,96],[4],[2,3,7],[2,3,8],[2,3,8,101],[2,3,8,114],[4],[2,3,8],[4]]
def zv4 (x:Yak) (p:Bool):EH Ty_:=([(2,.pt 2 [] 0 0),(3,.pt 3 [] 0 0),(42,B_ p)],[(2,.lit 4 [[.im 1 x.1.Sign_,.im 2 x.1.Regs_,.im 3 x.1.Slots_,.im 4 x.1.List_]]),(3,.lit 4 [[.im 1 x.2.Sign_,.im 2 x.2.Regs_,.im 3 x.2.Slots_,.im 4 x.2.List_]])])
def zv5 (n:Nat) (x:Yak) (v1:Unit) (q1:Int):Pt P_ Ty_ [] (Bo Int Int Unit):=.ite (decide (q1<(x.1.Sign_.length:Int))) (.bnd (idx x.1.Sign_ q1) λy1=>.bnd (idx x.2.Sign_ q1) λy2=>.ite (!(y1.Name_==y2.Name_&&(y1.Kind_==y2.Kind_&&(y1.Len_==y2.Len_&&true)))) (.leaf (.ret ())) (.leaf (.go (IntKind.i64.wrap (q1+(1:Int)))))) (.leaf (.out q1))
def zv0 (n:Nat) (x:Yak) (v1:Unit):LCon P_ Ty_ []:=lcon (X:=Int) (Y:=Int) (Z:=Unit) (zgk n) (subC [1,1,0,1,0,0] (fnC P_ 9 zgl)) (λq1=>.no) 0 true ⟨[(2,.ref 2),(3,.ref 3),(5,.any)],[(2,.any),(3,.any)]⟩ ⟨[(2,.ref 2),(3,.ref 3),(5,.any),(47,.any)],[(2,.any),(3,.any)]⟩ ⟨[(4,.any)],[]⟩ (λq1=>([(2,.pt 2 [] 0 0),(3,.pt 3 [] 0 0),(5,I_ q1)],[(2,.lit 4 [[.im 1 x.1.Sign_,.im 2 x.1.Regs_,.im 3 x.1.Slots_,.im 4 x.1.List_]]),(3,.lit 4 [[.im 1 x.2.Sign_,.im 2 x.2.Regs_,.im 3 x.2.Slots_,.im 4 x.2.List_]])])) (λp=>([(2,.pt 2 [] 0 0),(3,.pt 3 [] 0 0),(5,I_ p),(47,B_ false)],[(2,.lit 4 [[.im 1 x.1.Sign_,.im 2 x.1.Regs_,.im 3 x.1.Slots_,.im 4 x.1.List_]]),(3,.lit 4 [[.im 1 x.2.Sign_,.im 2 x.2.Regs_,.im 3 x.2.Slots_,.im 4 x.2.List_]])])) (λp=>([(4,B_ false)],[])) n (zv5 n x v1)
def zv6 (n:Nat) (x:Yak) (v2:Unit) (q2:Int):Pt P_ Ty_ [] (Bo Int Int Unit):=.ite (decide (q2<(x.1.Regs_.length:Int))) (.bnd (idx x.1.Regs_ q2) λy4=>.bnd (idx x.2.Regs_ q2) λy5=>.ite (!(y4.Kind_==y5.Kind_&&(y4.Param_==y5.Param_&&true))) (.leaf (.ret ())) (.leaf (.go (IntKind.i64.wrap (q2+(1:Int)))))) (.leaf (.out q2))
def zv1 (n:Nat) (x:Yak) (v2:Unit):LCon P_ Ty_ []:=lcon (X:=Int) (Y:=Int) (Z:=Unit) (zgk n) (subC [1,1,1,0,1,0,0] (fnC P_ 9 zgl)) (λq2=>.no) 2 true ⟨[(2,.ref 2),(3,.ref 3),(6,.any)],[(2,.any),(3,.any)]⟩ ⟨[(2,.ref 2),(3,.ref 3),(6,.any),(65,.any)],[(2,.any),(3,.any)]⟩ ⟨[(4,.any)],[]⟩ (λq2=>([(2,.pt 2 [] 0 0),(3,.pt 3 [] 0 0),(6,I_ q2)],[(2,.lit 4 [[.im 1 x.1.Sign_,.im 2 x.1.Regs_,.im 3 x.1.Slots_,.im 4 x.1.List_]]),(3,.lit 4 [[.im 1 x.2.Sign_,.im 2 x.2.Regs_,.im 3 x.2.Slots_,.im 4 x.2.List_]])])) (λp=>([(2,.pt 2 [] 0 0),(3,.pt 3 [] 0 0),(6,I_ p),(65,B_ false)],[(2,.lit 4 [[.im 1 x.1.Sign_,.im 2 x.1.Regs_,.im 3 x.1.Slots_,.im 4 x.1.List_]]),(3,.lit 4 [[.im 1 x.2.Sign_,.im 2 x.2.Regs_,.im 3 x.2.Slots_,.im 4 x.2.List_]])])) (λp=>([(4,B_ false)],[])) n (zv6 n x v2)
def zv7 (n:Nat) (x:Yak) (v3:Unit) (q3:Int):Pt P_ Ty_ [] (Bo Int Int Unit):=.ite (decide (q3<(x.1.Slots_.length:Int))) (.bnd (idx x.1.Slots_ q3) λy7=>.bnd (idx x.2.Slots_ q3) λy8=>.ite (!(y7.Type_.Kind_==y8.Type_.Kind_&&(y7.Type_.Param_==y8.Type_.Param_&&(y7.Keep_==y8.Keep_&&(y7.Bits_==y8.Bits_&&(y7.Int_==y8.Int_&&true)))))) (.leaf (.ret ())) (.leaf (.go (IntKind.i64.wrap (q3+(1:Int)))))) (.leaf (.out q3))
def zv2 (n:Nat) (x:Yak) (v3:Unit):LCon P_ Ty_ []:=lcon (X:=Int) (Y:=Int) (Z:=Unit) (zgk n) (subC [1,1,1,1,0,1,0,0] (fnC P_ 9 zgl)) (λq3=>.no) 4 true ⟨[(2,.ref 2),(3,.ref 3),(7,.any)],[(2,.any),(3,.any)]⟩ ⟨[(2,.ref 2),(3,.ref 3),(7,.any),(83,.any)],[(2,.any),(3,.any)]⟩ ⟨[(4,.any)],[]⟩ (λq3=>([(2,.pt 2 [] 0 0),(3,.pt 3 [] 0 0),(7,I_ q3)],[(2,.lit 4 [[.im 1 x.1.Sign_,.im 2 x.1.Regs_,.im 3 x.1.Slots_,.im 4 x.1.List_]]),(3,.lit 4 [[.im 1 x.2.Sign_,.im 2 x.2.Regs_,.im 3 x.2.Slots_,.im 4 x.2.List_]])])) (λp=>([(2,.pt 2 [] 0 0),(3,.pt 3 [] 0 0),(7,I_ p),(83,B_ false)],[(2,.lit 4 [[.im 1 x.1.Sign_,.im 2 x.1.Regs_,.im 3 x.1.Slots_,.im 4 x.1.List_]]),(3,.lit 4 [[.im 1 x.2.Sign_,.im 2 x.2.Regs_,.im 3 x.2.Slots_,.im 4 x.2.List_]])])) (λp=>([(4,B_ false)],[])) n (zv7 n x v3)
def zv8 (n:Nat) (x:Yak) (v4:Unit) (q4:Int):Pt P_ Ty_ [] (Bo Int Int Unit):=.ite (decide (q4<(x.1.List_.length:Int))) (.bnd (idx x.1.List_ q4) λy10=>.bnd (idx x.2.List_ q4) λy11=>.ite (!(y10.Op_==y11.Op_&&(y10.D_==y11.D_&&(y10.A_==y11.A_&&(y10.B_==y11.B_&&(y10.C_==y11.C_&&(y10.N_==y11.N_&&(y10.Bits_==y11.Bits_&&true)))))))) (.leaf (.ret ())) (.leaf (.go (IntKind.i64.wrap (q4+(1:Int)))))) (.leaf (.out q4))
def zv3 (n:Nat) (x:Yak) (v4:Unit):LCon P_ Ty_ []:=lcon (X:=Int) (Y:=Int) (Z:=Unit) (zgk n) (subC [1,1,1,1,1,0,1,0,0] (fnC P_ 9 zgl)) (λq4=>.no) 6 true ⟨[(2,.ref 2),(3,.ref 3),(8,.any)],[(2,.any),(3,.any)]⟩ ⟨[(2,.ref 2),(3,.ref 3),(8,.any),(101,.any)],[(2,.any),(3,.any)]⟩ ⟨[(4,.any)],[]⟩ (λq4=>([(2,.pt 2 [] 0 0),(3,.pt 3 [] 0 0),(8,I_ q4)],[(2,.lit 4 [[.im 1 x.1.Sign_,.im 2 x.1.Regs_,.im 3 x.1.Slots_,.im 4 x.1.List_]]),(3,.lit 4 [[.im 1 x.2.Sign_,.im 2 x.2.Regs_,.im 3 x.2.Slots_,.im 4 x.2.List_]])])) (λp=>([(2,.pt 2 [] 0 0),(3,.pt 3 [] 0 0),(8,I_ p),(101,B_ false)],[(2,.lit 4 [[.im 1 x.1.Sign_,.im 2 x.1.Regs_,.im 3 x.1.Slots_,.im 4 x.1.List_]]),(3,.lit 4 [[.im 1 x.2.Sign_,.im 2 x.2.Regs_,.im 3 x.2.Slots_,.im 4 x.2.List_]])])) (λp=>([(4,B_ false)],[])) n (zv8 n x v4)
def y0x (n:Nat) (x:Yak):Pt P_ Ty_ [] Bool:=.join (S:=Bool) (zv4 x) (.ite ((x.1.Sign_.length:Int) != (x.2.Sign_.length:Int)) (.leaf (.inl true)) (.ite ((x.1.Regs_.length:Int) != (x.2.Regs_.length:Int)) (.leaf (.inl true)) (.ite ((x.1.Slots_.length:Int) != (x.2.Slots_.length:Int)) (.leaf (.inl true)) (.leaf (.inl ((x.1.List_.length:Int) != (x.2.List_.length:Int))))))) λs1=>.ite s1 (.leaf false) (.loopR (V:=Unit) (zv0 n x) () (0:Int) (λ(v1:Unit) (y3:Int)=>.loopR (V:=Unit) (zv1 n x) () (0:Int) (λ(v2:Unit) (y6:Int)=>.loopR (V:=Unit) (zv2 n x) () (0:Int) (λ(v3:Unit) (y9:Int)=>.loopR (V:=Unit) (zv3 n x) () (0:Int) (λ(v4:Unit) (y12:Int)=>.leaf true) λ(v4:Unit) (z4:Unit)=>.leaf false) λ(v3:Unit) (z3:Unit)=>.leaf false) λ(v2:Unit) (z2:Unit)=>.leaf false) λ(v1:Unit) (z1:Unit)=>.leaf false)
def k23 (n:Nat):Con P_ Ty_:=zb (X:=Yak) (R:=Bool) (pro:=[]) (zgk n) 9 zgl (λx=>.two .no (.two (.join Bool (zv4 x) ⟨[(2,.ref 2),(3,.ref 3),(42,.any)],[(2,.any),(3,.any)]⟩ .no .no) (.two (.two .no (.two (.loop Unit (zv0 n x) true ⟨[(2,.ref 2),(3,.ref 3),(5,.any)],[(2,.any),(3,.any)]⟩) .no)) (.two (.two .no (.two (.loop Unit (zv1 n x) true ⟨[(2,.ref 2),(3,.ref 3),(6,.any)],[(2,.any),(3,.any)]⟩) .no)) (.two (.two .no (.two (.loop Unit (zv2 n x) true ⟨[(2,.ref 2),(3,.ref 3),(7,.any)],[(2,.any),(3,.any)]⟩) .no)) (.two (.two .no (.two (.loop Unit (zv3 n x) true ⟨[(2,.ref 2),(3,.ref 3),(8,.any)],[(2,.any),(3,.any)]⟩) .no)) .no)))))) [.ag [.im 1,.im 2,.im 3,.im 4],.ag [.im 1,.im 2,.im 3,.im 4]] [] [] ⟨[(4,.any)],[]⟩ [] true (λx=>[.ag [.im 1 x.1.Sign_,.im 2 x.1.Regs_,.im 3 x.1.Slots_,.im 4 x.1.List_],.ag [.im 1 x.2.Sign_,.im 2 x.2.Regs_,.im 3 x.2.Slots_,.im 4 x.2.List_]]) (λx=>[]) (λy=>([(4,B_ y)],[])) (λy=>B_ y) (λy=>[]) (y0x n)
def y2x (n:Nat):Cx P_ Ty_:=⟨[],[],[],[]⟩
abbrev y2y:List (List Nat):=[[0],[0,11],[2],[0,3],[0,3,15],[0,3,4],[0,3,59],[2],[0,3],[2]]
def zxj (x:ByteArray) (p:Bool):EH Ty_:=([(0,.sc (.string x)),(11,B_ p)],[])
def zxk (x:ByteArray) (v1:Unit) (q1:Int) (p:Bool):EH Ty_:=([(0,.sc (.string x)),(3,I_ q1),(59,B_ p)],[])
def zxl (n:Nat) (x:ByteArray) (v1:Unit) (q1:Int):Pt P_ Ty_ [] (Bo Int Int Unit):=.ite (decide (q1<(x.size:Int))) (.need (0<=q1/\q1<(x.size:Int)) (.join (S:=Bool) (zxk x v1 q1) (.ite (decide ((z8 x q1)>=(97:Int))) (.ite (decide ((z8 x q1)<=(122:Int))) (.leaf (.inl false)) (.ite (decide ((z8 x q1)>=(65:Int))) (.ite (decide ((z8 x q1)<=(90:Int))) (.leaf (.inl false)) (.ite (decide ((z8 x q1)>=(48:Int))) (.ite (decide ((z8 x q1)<=(57:Int))) (.leaf (.inl false)) (.ite ((z8 x q1)==95) (.leaf (.inl false)) (.ite ((z8 x q1)==46) (.leaf (.inl false)) (.ite ((z8 x q1)==47) (.leaf (.inl false)) (.leaf (.inl (!((z8 x q1)==45)))))))) (.ite ((z8 x q1)==95) (.leaf (.inl false)) (.ite ((z8 x q1)==46) (.leaf (.inl false)) (.ite ((z8 x q1)==47) (.leaf (.inl false)) (.leaf (.inl (!((z8 x q1)==45))))))))) (.ite (decide ((z8 x q1)>=(48:Int))) (.ite (decide ((z8 x q1)<=(57:Int))) (.leaf (.inl false)) (.ite ((z8 x q1)==95) (.leaf (.inl false)) (.ite ((z8 x q1)==46) (.leaf (.inl false)) (.ite ((z8 x q1)==47) (.leaf (.inl false)) (.leaf (.inl (!((z8 x q1)==45)))))))) (.ite ((z8 x q1)==95) (.leaf (.inl false)) (.ite ((z8 x q1)==46) (.leaf (.inl false)) (.ite ((z8 x q1)==47) (.leaf (.inl false)) (.leaf (.inl (!((z8 x q1)==45)))))))))) (.ite (decide ((z8 x q1)>=(65:Int))) (.ite (decide ((z8 x q1)<=(90:Int))) (.leaf (.inl false)) (.ite (decide ((z8 x q1)>=(48:Int))) (.ite (decide ((z8 x q1)<=(57:Int))) (.leaf (.inl false)) (.ite ((z8 x q1)==95) (.leaf (.inl false)) (.ite ((z8 x q1)==46) (.leaf (.inl false)) (.ite ((z8 x q1)==47) (.leaf (.inl false)) (.leaf (.inl (!((z8 x q1)==45)))))))) (.ite ((z8 x q1)==95) (.leaf (.inl false)) (.ite ((z8 x q1)==46) (.leaf (.inl false)) (.ite ((z8 x q1)==47) (.leaf (.inl false)) (.leaf (.inl (!((z8 x q1)==45))))))))) (.ite (decide ((z8 x q1)>=(48:Int))) (.ite (decide ((z8 x q1)<=(57:Int))) (.leaf (.inl false)) (.ite ((z8 x q1)==95) (.leaf (.inl false)) (.ite ((z8 x q1)==46) (.leaf (.inl false)) (.ite ((z8 x q1)==47) (.leaf (.inl false)) (.leaf (.inl (!((z8 x q1)==45)))))))) (.ite ((z8 x q1)==95) (.leaf (.inl false)) (.ite ((z8 x q1)==46) (.leaf (.inl false)) (.ite ((z8 x q1)==47) (.leaf (.inl false)) (.leaf (.inl (!((z8 x q1)==45)))))))))) λs2=>.ite s2 (.leaf (.ret ())) (.leaf (.go (IntKind.i64.wrap (q1+(1:Int))))))) (.leaf (.out q1))
def zxi (n:Nat) (x:ByteArray) (v1:Unit):LCon P_ Ty_ []:=lcon (X:=Int) (Y:=Int) (Z:=Unit) (y2x n) (subC [1,1,0,1,0,0] (fnC P_ 80 y2y)) (λq1=>.two .no (.two (.two (.two .no (.join Bool (zxk x v1 q1) ⟨[(0,.any),(3,.any),(59,.any)],[]⟩ .no .no)) .no) .no)) 0 true ⟨[(0,.any),(3,.any)],[]⟩ ⟨[(0,.any),(3,.any),(15,.any)],[]⟩ ⟨[(2,.any)],[]⟩ (λq1=>([(0,.sc (.string x)),(3,I_ q1)],[])) (λp=>([(0,.sc (.string x)),(3,I_ p),(15,B_ false)],[])) (λp=>([(2,B_ false)],[])) n (zxl n x v1)
def y2z (n:Nat) (x:ByteArray):Pt P_ Ty_ [] Bool:=.join (S:=Bool) (zxj x) (.ite (x==(⟨#[]⟩:ByteArray)) (.leaf (.inl true)) (.leaf (.inl (decide ((x.size:Int) > (64:Int)))))) λs1=>.ite s1 (.leaf false) (.loopR (V:=Unit) (zxi n x) () (0:Int) (λ(v1:Unit) (y1:Int)=>.leaf true) λ(v1:Unit) (z1:Unit)=>.leaf false)
def k63 (n:Nat):Con P_ Ty_:=zb (X:=ByteArray) (R:=Bool) (pro:=[]) (y2x n) 80 y2y (λx=>.two .no (.two (.join Bool (zxj x) ⟨[(0,.any),(11,.any)],[]⟩ .no .no) (.two (.two .no (.two (.loop Unit (zxi n x) true ⟨[(0,.any),(3,.any)],[]⟩) .no)) .no))) [.any] [] [] ⟨[(2,.any)],[]⟩ [] true (λx=>[.sc (.string x)]) (λx=>[]) (λy=>([(2,B_ y)],[])) (λy=>B_ y) (λy=>[]) (y2z n)
def yeg (n:Nat):Cx P_ Ty_:=⟨[k63 n],[],[],[]⟩
abbrev yeh:List (List Nat):=[[1],[2]]
def y2j (n:Nat) (x:Xa):Pt P_ Ty_ [] Bool:=.call (k63 n) x.Name_ λ(y1:Bool)=>.ite y1 (.ite (x.Kind_==1) (.ite (decide (x.Len_>=(1:Int))) (.leaf (decide (x.Len_<=(4096:Int)))) (.leaf false)) (.ite (x.Kind_==2) (.ite (decide (x.Len_>=(1:Int))) (.leaf (decide (x.Len_<=(4096:Int)))) (.leaf false)) (.leaf false))) (.leaf false)
def k55 (n:Nat):Con P_ Ty_:=zb (X:=Xa) (R:=Bool) (pro:=[]) (yeg n) 65 yeh (λx=>.no) [.ag [.any,.any,.any]] [] [] ⟨[(2,.any)],[]⟩ [] true (λx=>[.ag [.sc (.string x.Name_),I_ x.Kind_,I_ x.Len_]]) (λx=>[]) (λy=>([(2,B_ y)],[])) (λy=>B_ y) (λy=>[]) (y2j n)
def y2k (n:Nat):Cx P_ Ty_:=⟨[],[],[],[]⟩
abbrev y2l:List (List Nat):=[[0,1],[0,1,6],[0,1,6,10],[0,1,6,19],[4,5],[0,1,6],[4,5]]
def zwz (n:Nat) (x:Ybi) (v1:Unit) (q1:Int):Pt P_ Ty_ [] (Bo Int Int Int):=.ite (decide (q1<(x.1.length:Int))) (.bnd (idx x.1 q1) λy1=>.ite (y1.Name_==x.2) (.leaf (.ret q1)) (.leaf (.go (IntKind.i64.wrap (q1+(1:Int)))))) (.leaf (.out q1))
def zwy (n:Nat) (x:Ybi) (v1:Unit):LCon P_ Ty_ []:=lcon (X:=Int) (Y:=Int) (Z:=Int) (y2k n) (subC [1,0,1,0,0] (fnC P_ 66 y2l)) (λq1=>.no) 0 true ⟨[(0,.im 1),(1,.any),(6,.any)],[]⟩ ⟨[(0,.im 1),(1,.any),(6,.any),(10,.any)],[]⟩ ⟨[(4,.any),(5,.any)],[]⟩ (λq1=>([(0,.im 1 x.1),(1,.sc (.string x.2)),(6,I_ q1)],[])) (λp=>([(0,.im 1 x.1),(1,.sc (.string x.2)),(6,I_ p),(10,B_ false)],[])) (λp=>([(4,I_ p),(5,B_ true)],[])) n (zwz n x v1)
def y2m (n:Nat) (x:Ybi):Pt P_ Ty_ [] (Yag):=.loopR (V:=Unit) (zwy n x) () (0:Int) (λ(v1:Unit) (y2:Int)=>.leaf ((0:Int),false)) λ(v1:Unit) (z1:Int)=>.leaf (z1,true)
def k56 (n:Nat):Con P_ Ty_:=zb (X:=Ybi) (R:=Yag) (pro:=[]) (y2k n) 66 y2l (λx=>.two .no (.two (.two .no (.two (.loop Unit (zwy n x) true ⟨[(0,.im 1),(1,.any),(6,.any)],[]⟩) .no)) .no)) [.im 1,.any] [] [] ⟨[(4,.any),(5,.any)],[]⟩ [] true (λx=>[.im 1 x.1,.sc (.string x.2)]) (λx=>[]) (λy=>([(4,I_ y.1),(5,B_ y.2)],[])) (λy=>.tu [I_ y.1,B_ y.2]) (λy=>[]) (y2m n)
def yeq (n:Nat):Cx P_ Ty_:=⟨[k55 n],[],[],[]⟩
abbrev yer:List (List Nat):=[[1],[1,3],[2],[1,7],[2],[2]]
def y35 (n:Nat) (x:Xa):Pt P_ Ty_ [] Int:=.call (k55 n) x λ(y1:Bool)=>.ite (!y1) (.leaf (0:Int)) (.ite (x.Kind_==2) (.leaf (IntKind.i64.wrap ((2:Int) * x.Len_))) (.leaf x.Len_))
def k64 (n:Nat):Con P_ Ty_:=zb (X:=Xa) (R:=Int) (pro:=[]) (yeq n) 81 yer (λx=>.no) [.ag [.any,.any,.any]] [] [] ⟨[(2,.any)],[]⟩ [] true (λx=>[.ag [.sc (.string x.Name_),I_ x.Kind_,I_ x.Len_]]) (λx=>[]) (λy=>([(2,I_ y)],[])) (λy=>I_ y) (λy=>[]) (y35 n)
def y2n (n:Nat):Cx P_ Ty_:=⟨[k64 n],[],[],[]⟩
abbrev y2o:List (List Nat):=[[0],[0,3],[0,3,4],[0,3,4,8],[0,3,4],[0,3,4],[2]]
def zx1 (n:Nat) (x:(List Xa)) (v1:Unit) (q1:Yaa):Pt P_ Ty_ [] (Bo (Yaa) (Yaa) Empty):=.ite (decide (q1.2<(x.length:Int))) (.bnd (idx x q1.2) λy1=>.call (k64 n) y1 λ(y2:Int)=>.leaf (.go ((IntKind.i64.wrap (q1.1+y2)),(IntKind.i64.wrap (q1.2+(1:Int)))))) (.leaf (.out (q1.1,q1.2)))
def zx0 (n:Nat) (x:(List Xa)) (v1:Unit):LCon P_ Ty_ []:=lcon (X:=Yaa) (Y:=Yaa) (Z:=Empty) (y2n n) (subC [1,1,0,1,0,0] (fnC P_ 67 y2o)) (λq1=>.no) 0 false ⟨[(0,.im 1),(3,.any),(4,.any)],[]⟩ ⟨[(0,.im 1),(3,.any),(4,.any),(8,.any)],[]⟩ ⟨[],[]⟩ (λq1=>([(0,.im 1 x),(3,I_ q1.1),(4,I_ q1.2)],[])) (λp=>([(0,.im 1 x),(3,I_ p.1),(4,I_ p.2),(8,B_ false)],[])) (λp=>nomatch p) n (zx1 n x v1)
def y2p (n:Nat) (x:(List Xa)):Pt P_ Ty_ [] Int:=.loop (V:=Unit) (zx0 n x) () ((0:Int),(0:Int)) λ(v1:Unit) (y3:Yaa)=>.leaf y3.1
def k57 (n:Nat):Con P_ Ty_:=zb (X:=(List Xa)) (R:=Int) (pro:=[]) (y2n n) 67 y2o (λx=>.two .no (.two .no (.two (.two .no (.two (.loop Unit (zx0 n x) false ⟨[(0,.im 1),(3,.any),(4,.any)],[]⟩) .no)) .no))) [.im 1] [] [] ⟨[(2,.any)],[]⟩ [] true (λx=>[.im 1 x]) (λx=>[]) (λy=>([(2,I_ y)],[])) (λy=>I_ y) (λy=>[]) (y2p n)
def zrw (n:Nat):Cx P_ Ty_:=⟨[k55 n,k56 n,k57 n],[],[],[]⟩
abbrev zrx:List (List Nat):=[[0],[0,9],[2],[0,3],[0,3,13],[0,3,21],[2],[0,3],[0,4],[0,4,25],[0,4,5],[0,4,40],[2],[0,4],[43],[2],[2]]
def zwk (n:Nat) (x:(List Xa)) (v1:Unit) (q1:Int):Pt P_ Ty_ [] (Bo Int Int Unit):=.ite (decide (q1<(x.length:Int))) (.bnd (idx x q1) λy1=>.call (k55 n) y1 λ(y2:Bool)=>.ite (!y2) (.leaf (.ret ())) (.leaf (.go (IntKind.i64.wrap (q1+(1:Int)))))) (.leaf (.out q1))
def zwi (n:Nat) (x:(List Xa)) (v1:Unit):LCon P_ Ty_ []:=lcon (X:=Int) (Y:=Int) (Z:=Unit) (zrw n) (subC [1,1,0,1,0,0] (fnC P_ 48 zrx)) (λq1=>.no) 0 true ⟨[(0,.im 1),(3,.any)],[]⟩ ⟨[(0,.im 1),(3,.any),(13,.any)],[]⟩ ⟨[(2,.any)],[]⟩ (λq1=>([(0,.im 1 x),(3,I_ q1)],[])) (λp=>([(0,.im 1 x),(3,I_ p),(13,B_ false)],[])) (λp=>([(2,I_ (100:Int))],[])) n (zwk n x v1)
def zwl (n:Nat) (x:(List Xa)) (v2:Unit) (q2:Int):Pt P_ Ty_ [] (Bo Int Int Unit):=.ite (decide (q2<(x.length:Int))) (.bnd (idx x q2) λy4=>.call (k56 n) (x,y4.Name_) λ(y5:Yag)=>.ite (y5.1 != q2) (.leaf (.ret ())) (.leaf (.go (IntKind.i64.wrap (q2+(1:Int)))))) (.leaf (.out q2))
def zwj (n:Nat) (x:(List Xa)) (v2:Unit):LCon P_ Ty_ []:=lcon (X:=Int) (Y:=Int) (Z:=Unit) (zrw n) (subC [1,1,1,0,1,0,0] (fnC P_ 48 zrx)) (λq2=>.no) 2 true ⟨[(0,.im 1),(4,.any)],[]⟩ ⟨[(0,.im 1),(4,.any),(25,.any)],[]⟩ ⟨[(2,.any)],[]⟩ (λq2=>([(0,.im 1 x),(4,I_ q2)],[])) (λp=>([(0,.im 1 x),(4,I_ p),(25,B_ false)],[])) (λp=>([(2,I_ (101:Int))],[])) n (zwl n x v2)
def y1p (n:Nat) (x:(List Xa)):Pt P_ Ty_ [] Int:=.ite (decide ((x.length:Int) > (64:Int))) (.leaf (2:Int)) (.loopR (V:=Unit) (zwi n x) () (0:Int) (λ(v1:Unit) (y3:Int)=>.loopR (V:=Unit) (zwj n x) () (0:Int) (λ(v2:Unit) (y6:Int)=>.call (k57 n) x λ(y7:Int)=>.ite (decide (y7 > (65536:Int))) (.leaf (102:Int)) (.leaf (0:Int))) λ(v2:Unit) (z2:Unit)=>.leaf (101:Int)) λ(v1:Unit) (z1:Unit)=>.leaf (100:Int))
def k38 (n:Nat):Con P_ Ty_:=zb (X:=(List Xa)) (R:=Int) (pro:=[]) (zrw n) 48 zrx (λx=>.two .no (.two .no (.two (.two .no (.two (.loop Unit (zwi n x) true ⟨[(0,.im 1),(3,.any)],[]⟩) .no)) (.two (.two .no (.two (.loop Unit (zwj n x) true ⟨[(0,.im 1),(4,.any)],[]⟩) .no)) .no)))) [.im 1] [] [] ⟨[(2,.any)],[]⟩ [] true (λx=>[.im 1 x]) (λx=>[]) (λy=>([(2,I_ y)],[])) (λy=>I_ y) (λy=>[]) (y1p n)
def ye2 (n:Nat):Cx P_ Ty_:=⟨[],[],[],[]⟩
abbrev ye3:List (List Nat):=[[1,2],[1,2,7],[4],[4]]
def y1q (n:Nat) (x:Yck):Pt P_ Ty_ [] Bool:=.ite (x.1.Kind_==3) (.ite (decide (x.1.Param_>=(0:Int))) (.leaf (decide (x.1.Param_<(x.2.length:Int)))) (.leaf false)) (.ite (x.1.Kind_==1) (.leaf (x.1.Param_==0)) (.ite (x.1.Kind_==2) (.leaf (x.1.Param_==0)) (.leaf false)))
def k39 (n:Nat):Con P_ Ty_:=zb (X:=Yck) (R:=Bool) (pro:=[]) (ye2 n) 49 ye3 (λx=>.no) [.ag [.any,.any],.im 1] [] [] ⟨[(4,.any)],[]⟩ [] true (λx=>[.ag [I_ x.1.Kind_,I_ x.1.Param_],.im 1 x.2]) (λx=>[]) (λy=>([(4,B_ y)],[])) (λy=>B_ y) (λy=>[]) (y1q n)
def yf0 (n:Nat):Cx P_ Ty_:=⟨[],[],[],[]⟩
abbrev yf1:List (List Nat):=[[0,2],[2,3],[2,3,4],[2,3,4,5],[2,4,5,6],[2,4,5,6,25],[2,4,6],[2,4],[2,4,5,6,34],[2,4],[2,4],[2,4,5],[2,4],[2]]
def zxm (x:Int) (p:Ycu):EH Ty_:=([(2,.pt 2 [] 0 0),(4,.pt 4 [] 0 0)],[(2,.lit 5 [[B_ false,.sc (.int .u64 (0:Int)),I_ (0:Int),B_ false,B_ false]]),(4,.lit 5 [[B_ (((IntKind.u64.wrap x).fdiv (2 ^ min (31:Int).toNat IntKind.u64.bits))==1),.sc (.int .u64 p.1),I_ p.2.1,B_ p.2.2.1,B_ p.q3]])])
def y3a (n:Nat) (x:Int):Pt P_ Ty_ [] (Yah):=.join (S:=Ycu) (zxm x) (.ite ((IntKind.i64.wrap (IntKind.u64.wrap (BitVec.ofInt IntKind.u64.bits ((IntKind.u64.wrap x).fdiv (2 ^ min (23:Int).toNat IntKind.u64.bits)) &&& BitVec.ofInt IntKind.u64.bits (255:Int)).toNat))==255) (.leaf (.inl ((0:Int),(0:Int),((IntKind.u64.wrap (BitVec.ofInt IntKind.u64.bits (IntKind.u64.wrap x) &&& BitVec.ofInt IntKind.u64.bits (8388607:Int)).toNat)==0),((IntKind.u64.wrap (BitVec.ofInt IntKind.u64.bits (IntKind.u64.wrap x) &&& BitVec.ofInt IntKind.u64.bits (8388607:Int)).toNat) != (0:Int))))) (.ite ((IntKind.i64.wrap (IntKind.u64.wrap (BitVec.ofInt IntKind.u64.bits ((IntKind.u64.wrap x).fdiv (2 ^ min (23:Int).toNat IntKind.u64.bits)) &&& BitVec.ofInt IntKind.u64.bits (255:Int)).toNat))==0) (.leaf (.inl ((IntKind.u64.wrap (BitVec.ofInt IntKind.u64.bits (IntKind.u64.wrap x) &&& BitVec.ofInt IntKind.u64.bits (8388607:Int)).toNat),(-149:Int),false,false))) (.leaf (.inl ((IntKind.u64.wrap ((8388608:Int)+(IntKind.u64.wrap (BitVec.ofInt IntKind.u64.bits (IntKind.u64.wrap x) &&& BitVec.ofInt IntKind.u64.bits (8388607:Int)).toNat))),(IntKind.i64.wrap ((IntKind.i64.wrap (IntKind.u64.wrap (BitVec.ofInt IntKind.u64.bits ((IntKind.u64.wrap x).fdiv (2 ^ min (23:Int).toNat IntKind.u64.bits)) &&& BitVec.ofInt IntKind.u64.bits (255:Int)).toNat)) - (150:Int))),false,false))))) λs1=>.leaf ((((IntKind.u64.wrap x).fdiv (2 ^ min (31:Int).toNat IntKind.u64.bits))==1),s1.1,s1.2.1,s1.2.2.1,s1.q3)
def k69 (n:Nat):Con P_ Ty_:=zb (X:=Int) (R:=Yah) (pro:=[]) (yf0 n) 97 yf1 (λx=>.two .no (.two .no (.two .no (.two .no (.two .no (.join (Ycu) (zxm x) ⟨[(2,.ref 2),(4,.ref 4)],[(2,.any),(4,.any)]⟩ .no .no)))))) [.any] [] [] ⟨[(2,.ref 100000)],[(100000,.any)]⟩ [] true (λx=>[I_ x]) (λx=>[]) (λy=>([(2,.pt 100000 [] 0 0)],[(100000,.lit 5 [[B_ y.1,.sc (.int .u64 y.2.1),I_ y.2.2.1,B_ y.p3,B_ y.q4]])])) (λy=>.ag [B_ y.1,.sc (.int .u64 y.2.1),I_ y.2.2.1,B_ y.p3,B_ y.q4]) (λy=>[]) (y3a n)
def yes (n:Nat):Cx P_ Ty_:=⟨[k69 n],[],[],[]⟩
abbrev yet:List (List Nat):=[[0],[0,5],[2],[2]]
def y36 (n:Nat) (x:Int):Pt P_ Ty_ [] Int:=.call (k69 n) x λ(y1:Yah)=>.ite y1.q4 (.leaf (2143289344:Int)) (.leaf x)
def k65 (n:Nat):Con P_ Ty_:=zb (X:=Int) (R:=Int) (pro:=[]) (yes n) 82 yet (λx=>.no) [.any] [] [] ⟨[(2,.any)],[]⟩ [] true (λx=>[I_ x]) (λx=>[]) (λy=>([(2,I_ y)],[])) (λy=>I_ y) (λy=>[]) (y36 n)
def yei (n:Nat):Cx P_ Ty_:=⟨[k65 n],[],[],[]⟩
abbrev yej:List (List Nat):=[[0],[2]]
def y2q (n:Nat) (x:Int):Pt P_ Ty_ [] Bool:=.call (k65 n) (IntKind.i64.wrap x) λ(y1:Int)=>.leaf (y1==(IntKind.i64.wrap x))
def k58 (n:Nat):Con P_ Ty_:=zb (X:=Int) (R:=Bool) (pro:=[]) (yei n) 68 yej (λx=>.no) [.any] [] [] ⟨[(2,.any)],[]⟩ [] true (λx=>[.sc (.int .u32 x)]) (λx=>[]) (λy=>([(2,B_ y)],[])) (λy=>B_ y) (λy=>[]) (y2q n)
def ye4 (n:Nat):Cx P_ Ty_:=⟨[k39 n,k58 n],[],[],[]⟩
abbrev ye5:List (List Nat):=[[1,2],[2,9],[4],[2,13],[4],[4]]
def y1r (n:Nat) (x:Ycl):Pt P_ Ty_ [] Bool:=.call (k39 n) (x.1.Type_,x.2) λ(y1:Bool)=>.ite (!y1) (.leaf false) (.ite (x.1.Type_.Kind_==2) (.ite (x.1.Bits_==0) (.ite (decide (x.1.Int_>=(0:Int))) (.leaf (decide (x.1.Int_<=(2147483647:Int)))) (.leaf false)) (.leaf false)) (.ite (x.1.Int_==0) (.call (k58 n) x.1.Bits_ λ(y2:Bool)=>.leaf y2) (.leaf false)))
def k40 (n:Nat):Con P_ Ty_:=zb (X:=Ycl) (R:=Bool) (pro:=[]) (ye4 n) 50 ye5 (λx=>.no) [.ag [.any,.any,.any,.any,.any],.im 1] [] [] ⟨[(4,.any)],[]⟩ [] true (λx=>[.ag [I_ x.1.Type_.Kind_,I_ x.1.Type_.Param_,B_ x.1.Keep_,.sc (.int .u32 x.1.Bits_),I_ x.1.Int_],.im 1 x.2]) (λx=>[]) (λy=>([(4,B_ y)],[])) (λy=>B_ y) (λy=>[]) (y1r n)
def ydo (n:Nat):Cx P_ Ty_:=⟨[],[],[],[]⟩
abbrev ydp:List (List Nat):=[[0],[4],[4,5],[2,3],[4,7],[2,3],[4,9],[2,3],[4,11],[4,11],[4,11],[4,11],[4,11],[4,11],[4,11],[2,3],[4,19],[4,19],[4,19],[4,19],[2,3],[4,24],[2,3],[4,26],[2,3],[4,28],[2,3],[4,30],[2,3],[4,32],[4,32],[2,3],[4,35],[4,35],[2,3],[4,38],[4,38],[4,38],[4,38],[4,38],[2,3],[4,44],[2,3],[4,46],[4,46],[2,3],[4,49],[2,3],[4,51],[2,3],[4,53],[2,3],[4,55],[2,3],[4,57],[4,57],[2,3],[60],[2,3],[2,3]]
def zvs (x:Int) (p:Bool):EH Ty_:=([(4,I_ x),(11,B_ p)],[])
def zvt (x:Int) (p:Bool):EH Ty_:=([(4,I_ x),(19,B_ p)],[])
def zvu (x:Int) (p:Bool):EH Ty_:=([(4,I_ x),(32,B_ p)],[])
def zvv (x:Int) (p:Bool):EH Ty_:=([(4,I_ x),(35,B_ p)],[])
def zvw (x:Int) (p:Bool):EH Ty_:=([(4,I_ x),(38,B_ p)],[])
def zvx (x:Int) (p:Bool):EH Ty_:=([(4,I_ x),(46,B_ p)],[])
def zvy (x:Int) (p:Bool):EH Ty_:=([(4,I_ x),(57,B_ p)],[])
def y0z (n:Nat) (x:Int):Pt P_ Ty_ [] (Yam):=.ite (x==1) (.leaf ((⟨#[110,45,45,45,45]⟩:ByteArray),true)) (.ite (x==2) (.leaf ((⟨#[119,45,45,45,105]⟩:ByteArray),true)) (.ite (x==3) (.leaf ((⟨#[97,99,45,45,45]⟩:ByteArray),true)) (.join (S:=Bool) (zvs x) (.ite (x==4) (.leaf (.inl true)) (.ite (x==5) (.leaf (.inl true)) (.ite (x==6) (.leaf (.inl true)) (.ite (x==7) (.leaf (.inl true)) (.ite (x==8) (.leaf (.inl true)) (.ite (x==9) (.leaf (.inl true)) (.leaf (.inl (x==10))))))))) λs1=>.ite s1 (.leaf ((⟨#[100,120,120,45,45]⟩:ByteArray),true)) (.join (S:=Bool) (zvt x) (.ite (x==11) (.leaf (.inl true)) (.ite (x==12) (.leaf (.inl true)) (.ite (x==13) (.leaf (.inl true)) (.leaf (.inl (x==14)))))) λs2=>.ite s2 (.leaf ((⟨#[100,120,45,45,45]⟩:ByteArray),true)) (.ite (x==15) (.leaf ((⟨#[100,120,120,120,45]⟩:ByteArray),true)) (.ite (x==16) (.leaf ((⟨#[110,110,119,45,45]⟩:ByteArray),true)) (.ite (x==17) (.leaf ((⟨#[110,119,45,45,45]⟩:ByteArray),true)) (.ite (x==18) (.leaf ((⟨#[119,110,45,45,45]⟩:ByteArray),true)) (.join (S:=Bool) (zvu x) (.ite (x==19) (.leaf (.inl true)) (.leaf (.inl (x==20)))) λs3=>.ite s3 (.leaf ((⟨#[110,118,45,45,45]⟩:ByteArray),true)) (.join (S:=Bool) (zvv x) (.ite (x==21) (.leaf (.inl true)) (.leaf (.inl (x==25)))) λs4=>.ite s4 (.leaf ((⟨#[119,119,45,45,45]⟩:ByteArray),true)) (.join (S:=Bool) (zvw x) (.ite (x==22) (.leaf (.inl true)) (.ite (x==23) (.leaf (.inl true)) (.ite (x==24) (.leaf (.inl true)) (.ite (x==27) (.leaf (.inl true)) (.leaf (.inl (x==28))))))) λs5=>.ite s5 (.leaf ((⟨#[119,119,119,45,45]⟩:ByteArray),true)) (.ite (x==26) (.leaf ((⟨#[119,119,119,119,45]⟩:ByteArray),true)) (.join (S:=Bool) (zvx x) (.ite (x==29) (.leaf (.inl true)) (.leaf (.inl (x==30)))) λs6=>.ite s6 (.leaf ((⟨#[118,45,45,45,112]⟩:ByteArray),true)) (.ite (x==31) (.leaf ((⟨#[45,118,45,45,112]⟩:ByteArray),true)) (.ite (x==32) (.leaf ((⟨#[97,45,45,45,115]⟩:ByteArray),true)) (.ite (x==33) (.leaf ((⟨#[45,97,45,45,115]⟩:ByteArray),true)) (.ite (x==34) (.leaf ((⟨#[45,119,45,45,45]⟩:ByteArray),true)) (.join (S:=Bool) (zvy x) (.ite (x==35) (.leaf (.inl true)) (.leaf (.inl (x==37)))) λs7=>.ite s7 (.leaf ((⟨#[45,45,45,45,45]⟩:ByteArray),true)) (.ite (x==36) (.leaf ((⟨#[45,45,45,45,113]⟩:ByteArray),true)) (.leaf ((⟨#[]⟩:ByteArray),false)))))))))))))))))))))
def k27 (n:Nat):Con P_ Ty_:=zb (X:=Int) (R:=Yam) (pro:=[]) (ydo n) 56 ydp (λx=>.two .no (.two (.two .no (.two (.two .no (.two .no (.two .no (.two .no (.two .no (.two .no (.join Bool (zvs x) ⟨[(4,.any),(11,.any)],[]⟩ .no (.two .no (.join Bool (zvt x) ⟨[(4,.any),(19,.any)],[]⟩ .no (.two .no (.two .no (.two .no (.two .no (.two .no (.two .no (.two .no (.two .no (.two .no (.join Bool (zvu x) ⟨[(4,.any),(32,.any)],[]⟩ .no (.two .no (.join Bool (zvv x) ⟨[(4,.any),(35,.any)],[]⟩ .no (.two .no (.join Bool (zvw x) ⟨[(4,.any),(38,.any)],[]⟩ .no (.two .no (.two .no (.two .no (.join Bool (zvx x) ⟨[(4,.any),(46,.any)],[]⟩ .no (.two .no (.two .no (.two .no (.two .no (.two .no (.two .no (.two .no (.two .no (.two .no (.join Bool (zvy x) ⟨[(4,.any),(57,.any)],[]⟩ .no .no))))))))))))))))))))))))))))))))))))) .no)) .no)) [.any] [] [] ⟨[(2,.any),(3,.any)],[]⟩ [] true (λx=>[I_ x]) (λx=>[]) (λy=>([(2,.sc (.string y.1)),(3,B_ y.2)],[])) (λy=>.tu [.sc (.string y.1),B_ y.2]) (λy=>[]) (y0z n)
def yf2 (n:Nat):Cx P_ Ty_:=⟨[],[],[],[]⟩
abbrev yf3:List (List Nat):=[[1,2,4],[1,2,4,14],[4,5],[4,5]]
def zxn (x:Xe×Int) (p:Bool):EH Ty_:=([(1,I_ x.2),(2,.pt 2 [] 0 0),(4,.pt 4 [] 0 0),(14,B_ p)],[(2,.lit 4 [[.im 1 x.1.Sign_,.im 2 x.1.Regs_,.im 3 x.1.Slots_,.im 4 x.1.List_]]),(4,.lit 2 [[I_ (0:Int),I_ (0:Int)]])])
def y3b (n:Nat) (x:Xe×Int):Pt P_ Ty_ [] (Ybj):=.join (S:=Bool) (zxn x) (.ite (decide (x.2<(0:Int))) (.leaf (.inl true)) (.leaf (.inl (decide (x.2>=(x.1.Regs_.length:Int)))))) λs1=>.ite s1 (.leaf (false,(0:Int),(0:Int))) (.bnd (idx x.1.Regs_ x.2) λy1=>.leaf (true,y1.Kind_,y1.Param_))
def k70 (n:Nat):Con P_ Ty_:=zb (X:=Xe×Int) (R:=Ybj) (pro:=[]) (yf2 n) 98 yf3 (λx=>.two .no (.two (.join Bool (zxn x) ⟨[(1,.any),(2,.ref 2),(4,.ref 4),(14,.any)],[(2,.any),(4,.any)]⟩ .no .no) .no)) [.ag [.im 1,.im 2,.im 3,.im 4],.any] [] [] ⟨[(4,.ref 100000),(5,.any)],[(100000,.any)]⟩ [] true (λx=>[.ag [.im 1 x.1.Sign_,.im 2 x.1.Regs_,.im 3 x.1.Slots_,.im 4 x.1.List_],I_ x.2]) (λx=>[]) (λy=>([(4,.pt 100000 [] 0 0),(5,B_ y.1)],[(100000,.lit 2 [[I_ y.2.1,I_ y.2.2]])])) (λy=>.tu [.ag [I_ y.2.1,I_ y.2.2],B_ y.1]) (λy=>[]) (y3b n)
def yeu (n:Nat):Cx P_ Ty_:=⟨[k70 n],[],[],[]⟩
abbrev yev:List (List Nat):=[[1,2,4,7],[1,2,4,7,14],[8],[1,7,9,10],[1,7,9,24],[8],[1,7,9,11],[1,7,9,11,12],[7,9,11,12,31],[7,9,11,12,31,32],[8],[7,9,11,12,31,35],[8],[7,9,11,12,31,40],[8],[7,9,11,12,31,43],[8],[7,9,11,31,49],[8],[7,9,11,57],[8],[8]]
def y37 (n:Nat) (x:Ycm):Pt P_ Ty_ [] Bool:=.ite (x.2.1==45) (.leaf (x.2.2.1==0)) (.call (k70 n) (x.1,x.2.2.1) λ(y1:Ybj)=>.ite (!y1.1) (.leaf false) (.ite (x.2.1==110) (.leaf (y1.2.1==1)) (.ite (x.2.1==119) (.leaf (y1.2.1==2)) (.ite (x.2.1==118) (.leaf (y1.2.1==3)) (.ite (x.2.1==100) (.ite (y1.2.1==1) (.leaf true) (.leaf (y1.2.1==3))) (.ite (x.2.1==120) (.ite (y1.2.1==1) (.leaf true) (.leaf (y1.2.1==x.q3.Kind_&&(y1.2.2==x.q3.Param_&&true)))) (.ite (x.2.1==99) (.ite (y1.2.1==x.q3.Kind_&&(y1.2.2==x.q3.Param_&&true)) (.leaf true) (.ite (y1.2.1==1) (.leaf (x.q3.Kind_==3)) (.leaf false))) (.leaf true))))))))
def k66 (n:Nat):Con P_ Ty_:=zb (X:=Ycm) (R:=Bool) (pro:=[]) (yeu n) 83 yev (λx=>.no) [.ag [.im 1,.im 2,.im 3,.im 4],.any,.any,.ag [.any,.any]] [] [] ⟨[(8,.any)],[]⟩ [] true (λx=>[.ag [.im 1 x.1.Sign_,.im 2 x.1.Regs_,.im 3 x.1.Slots_,.im 4 x.1.List_],.sc (.int .u8 x.2.1),I_ x.2.2.1,.ag [I_ x.q3.Kind_,I_ x.q3.Param_]]) (λx=>[]) (λy=>([(8,B_ y)],[])) (λy=>B_ y) (λy=>[]) (y37 n)
def yew (n:Nat):Cx P_ Ty_:=⟨[],[],[],[]⟩
abbrev yex:List (List Nat):=[[1,2,3],[6]]
def y38 (n:Nat) (x:Ycn):Pt P_ Ty_ [] Bool:=.ite (x.2.1==0) (.leaf true) (.ite (x.2.1==1) (.bnd (idx x.1.Sign_ x.2.2) λy1=>.leaf (y1.Kind_==2)) (.leaf false))
def k67 (n:Nat):Con P_ Ty_:=zb (X:=Ycn) (R:=Bool) (pro:=[]) (yew n) 84 yex (λx=>.no) [.ag [.im 1,.im 2,.im 3,.im 4],.any,.any] [] [] ⟨[(6,.any)],[]⟩ [] true (λx=>[.ag [.im 1 x.1.Sign_,.im 2 x.1.Regs_,.im 3 x.1.Slots_,.im 4 x.1.List_],I_ x.2.1,I_ x.2.2]) (λx=>[]) (λy=>([(6,B_ y)],[])) (λy=>B_ y) (λy=>[]) (y38 n)
def yek (n:Nat):Cx P_ Ty_:=⟨[k27 n,k58 n,k66 n,k67 n],[],[],[]⟩
abbrev yel:List (List Nat):=[[2,3],[2,3,5,6],[2,3,5,32],[4],[2,3,5,7],[2,3,5,7,36],[2,3,5,7,44],[4],[2,3,5,7],[2,3,5,7,53],[4],[2,3,5,7,81],[4],[2,3,5,8],[2,3,5,8,90],[2,3,5,8],[2,3,8,98],[2,3,8,98,99],[4],[2,3,8,98,109],[4],[2,3,8,98,117],[4],[2,3,141],[4],[4]]
def zx2 (x:Yaj) (p:Yam):EH Ty_:=([(2,.pt 2 [] 0 0),(3,.pt 3 [] 0 0),(5,.sc (.string p.1)),(32,B_ p.2)],[(2,.lit 4 [[.im 1 x.1.Sign_,.im 2 x.1.Regs_,.im 3 x.1.Slots_,.im 4 x.1.List_]]),(3,.lit 7 [[I_ x.2.Op_,I_ x.2.D_,I_ x.2.A_,I_ x.2.B_,I_ x.2.C_,I_ x.2.N_,.sc (.int .u32 x.2.Bits_)]])])
def zx3 (x:Yaj) (p:Yaz):EH Ty_:=([(2,.pt 2 [] 0 0),(3,.pt 3 [] 0 0),(5,.sc (.string p.1)),(7,.pt 7 [] 0 0)],[(2,.lit 4 [[.im 1 x.1.Sign_,.im 2 x.1.Regs_,.im 3 x.1.Slots_,.im 4 x.1.List_]]),(3,.lit 7 [[I_ x.2.Op_,I_ x.2.D_,I_ x.2.A_,I_ x.2.B_,I_ x.2.C_,I_ x.2.N_,.sc (.int .u32 x.2.Bits_)]]),(7,.lit 2 [[I_ p.2.1,I_ p.2.2]])])
def zx4 (x:Yaj) (p:Ybv):EH Ty_:=([(2,.pt 2 [] 0 0),(3,.pt 3 [] 0 0),(5,.sc (.string p.1)),(7,.pt 7 [] 0 0),(81,B_ p.2.1)],[(2,.lit 4 [[.im 1 x.1.Sign_,.im 2 x.1.Regs_,.im 3 x.1.Slots_,.im 4 x.1.List_]]),(3,.lit 7 [[I_ x.2.Op_,I_ x.2.D_,I_ x.2.A_,I_ x.2.B_,I_ x.2.C_,I_ x.2.N_,.sc (.int .u32 x.2.Bits_)]]),(7,.lit 2 [[I_ p.2.2.1,I_ p.q3]])])
def zx5 (x:Yaj) (p:Ybv):EH Ty_:=([(2,.pt 2 [] 0 0),(3,.pt 3 [] 0 0),(5,.sc (.string p.1)),(8,.pt 8 [] 0 0),(90,B_ p.2.1)],[(2,.lit 4 [[.im 1 x.1.Sign_,.im 2 x.1.Regs_,.im 3 x.1.Slots_,.im 4 x.1.List_]]),(3,.lit 7 [[I_ x.2.Op_,I_ x.2.D_,I_ x.2.A_,I_ x.2.B_,I_ x.2.C_,I_ x.2.N_,.sc (.int .u32 x.2.Bits_)]]),(8,.lit 2 [[I_ p.2.2.1,I_ p.q3]])])
def zx6 (x:Yaj) (p:Yaz):EH Ty_:=([(2,.pt 2 [] 0 0),(3,.pt 3 [] 0 0),(5,.sc (.string p.1)),(8,.pt 8 [] 0 0)],[(2,.lit 4 [[.im 1 x.1.Sign_,.im 2 x.1.Regs_,.im 3 x.1.Slots_,.im 4 x.1.List_]]),(3,.lit 7 [[I_ x.2.Op_,I_ x.2.D_,I_ x.2.A_,I_ x.2.B_,I_ x.2.C_,I_ x.2.N_,.sc (.int .u32 x.2.Bits_)]]),(8,.lit 2 [[I_ p.2.1,I_ p.2.2]])])
def y2r (n:Nat) (x:Yaj):Pt P_ Ty_ [] Bool:=.call (k27 n) x.2.Op_ λ(y1:Yam)=>.join (S:=Yam) (zx2 x) (.ite (!y1.2) (.leaf (.inl (y1.1,true))) (.ite (x.2.Op_ != (1:Int)) (.ite (x.2.Bits_ != (0:Int)) (.leaf (.inl (y1.1,true))) (.call (k58 n) x.2.Bits_ λ(y2:Bool)=>.leaf (.inl (y1.1,(!y2))))) (.call (k58 n) x.2.Bits_ λ(y3:Bool)=>.leaf (.inl (y1.1,(!y3)))))) λs1=>.ite s1.2 (.leaf false) (.join (S:=Yaz) (zx3 x) (.need (0<=(0:Int)/\(0:Int)<(s1.1.size:Int)) (.ite ((z8 s1.1 (0:Int)) != (45:Int)) (.need (0<=(0:Int)/\(0:Int)<(s1.1.size:Int)) (.call (k66 n) (x.1,(z8 s1.1 (0:Int)),x.2.D_,(⟨(0:Int),(0:Int)⟩:Xb)) λ(y4:Bool)=>.ite (!y4) (.leaf (.inr false)) (.bnd (idx x.1.Regs_ x.2.D_) λy5=>.leaf (.inl (s1.1,y5.Kind_,y5.Param_))))) (.ite (x.2.D_ != (0:Int)) (.leaf (.inr false)) (.leaf (.inl (s1.1,(0:Int),(0:Int))))))) λs2=>.join (S:=Ybv) (zx4 x) (.need (0<=(1:Int)/\(1:Int)<(s2.1.size:Int)) (.call (k66 n) (x.1,(z8 s2.1 (1:Int)),x.2.A_,(⟨s2.2.1,s2.2.2⟩:Xb)) λ(y6:Bool)=>.ite (!y6) (.leaf (.inl (s2.1,true,s2.2.1,s2.2.2))) (.need (0<=(2:Int)/\(2:Int)<(s2.1.size:Int)) (.call (k66 n) (x.1,(z8 s2.1 (2:Int)),x.2.B_,(⟨s2.2.1,s2.2.2⟩:Xb)) λ(y7:Bool)=>.ite (!y7) (.leaf (.inl (s2.1,true,s2.2.1,s2.2.2))) (.need (0<=(3:Int)/\(3:Int)<(s2.1.size:Int)) (.call (k66 n) (x.1,(z8 s2.1 (3:Int)),x.2.C_,(⟨s2.2.1,s2.2.2⟩:Xb)) λ(y8:Bool)=>.leaf (.inl (s2.1,(!y8),s2.2.1,s2.2.2)))))))) λs3=>.ite s3.2.1 (.leaf false) (.join (S:=Yaz) (zx6 x) (.join (S:=Ybv) (zx5 x) (.need (0<=(0:Int)/\(0:Int)<(s3.1.size:Int)) (.ite ((z8 s3.1 (0:Int))==45) (.need (0<=(1:Int)/\(1:Int)<(s3.1.size:Int)) (.leaf (.inl (s3.1,((z8 s3.1 (1:Int)) != (45:Int)),s3.2.2.1,s3.q3)))) (.leaf (.inl (s3.1,false,s3.2.2.1,s3.q3))))) λs4=>.ite s4.2.1 (.bnd (idx x.1.Regs_ x.2.A_) λy9=>.leaf (.inl (s4.1,y9.Kind_,y9.Param_))) (.leaf (.inl (s4.1,s4.2.2.1,s4.q3)))) λs5=>.need (0<=(4:Int)/\(4:Int)<(s5.1.size:Int)) (.ite ((z8 s5.1 (4:Int))==105) (.ite (decide (x.2.N_>=(0:Int))) (.leaf (decide (x.2.N_<=(2147483647:Int)))) (.leaf false)) (.ite ((z8 s5.1 (4:Int))==112) (.call (k67 n) (x.1,x.2.N_,s5.2.2) λ(y10:Bool)=>.leaf y10) (.ite ((z8 s5.1 (4:Int))==115) (.ite (decide (x.2.N_>=(0:Int))) (.ite (decide (x.2.N_<(x.1.Slots_.length:Int))) (.bnd (idx x.1.Slots_ x.2.N_) λy11=>.leaf (y11.Type_.Kind_==s5.2.1&&(y11.Type_.Param_==s5.2.2&&true))) (.leaf false)) (.leaf false)) (.ite ((z8 s5.1 (4:Int))==113) (.ite (decide (x.2.N_>=(0:Int))) (.leaf (decide (x.2.N_<(x.1.Sign_.length:Int)))) (.leaf false)) (.leaf (x.2.N_==0))))))))
def k59 (n:Nat):Con P_ Ty_:=zb (X:=Yaj) (R:=Bool) (pro:=[]) (yek n) 69 yel (λx=>.two .no (.two .no (.two (.join (Yam) (zx2 x) ⟨[(2,.ref 2),(3,.ref 3),(5,.any),(32,.any)],[(2,.any),(3,.any)]⟩ .no .no) (.two .no (.join (Yaz) (zx3 x) ⟨[(2,.ref 2),(3,.ref 3),(5,.any),(7,.ref 7)],[(2,.any),(3,.any),(7,.any)]⟩ .no (.two (.join (Ybv) (zx4 x) ⟨[(2,.ref 2),(3,.ref 3),(5,.any),(7,.ref 7),(81,.any)],[(2,.any),(3,.any),(7,.any)]⟩ .no .no) (.two .no (.join (Yaz) (zx6 x) ⟨[(2,.ref 2),(3,.ref 3),(5,.any),(8,.ref 8)],[(2,.any),(3,.any),(8,.any)]⟩ (.join (Ybv) (zx5 x) ⟨[(2,.ref 2),(3,.ref 3),(5,.any),(8,.ref 8),(90,.any)],[(2,.any),(3,.any),(8,.any)]⟩ .no .no) .no)))))))) [.ag [.im 1,.im 2,.im 3,.im 4],.ag [.any,.any,.any,.any,.any,.any,.any]] [] [] ⟨[(4,.any)],[]⟩ [] true (λx=>[.ag [.im 1 x.1.Sign_,.im 2 x.1.Regs_,.im 3 x.1.Slots_,.im 4 x.1.List_],.ag [I_ x.2.Op_,I_ x.2.D_,I_ x.2.A_,I_ x.2.B_,I_ x.2.C_,I_ x.2.N_,.sc (.int .u32 x.2.Bits_)]]) (λx=>[]) (λy=>([(4,B_ y)],[])) (λy=>B_ y) (λy=>[]) (y2r n)
def ydk (n:Nat):Cx P_ Ty_:=⟨[],[],[],[]⟩
abbrev ydl:List (List Nat):=[[0],[2]]
def y0s (n:Nat) (x:Int):Pt P_ Ty_ [] Bool:=.ite (decide (x>=(3:Int))) (.leaf (decide (x<=(15:Int)))) (.leaf false)
def k14 (n:Nat):Con P_ Ty_:=zb (X:=Int) (R:=Bool) (pro:=[]) (ydk n) 85 ydl (λx=>.no) [.any] [] [] ⟨[(2,.any)],[]⟩ [] true (λx=>[I_ x]) (λx=>[]) (λy=>([(2,B_ y)],[])) (λy=>B_ y) (λy=>[]) (y0s n)
def yem (n:Nat):Cx P_ Ty_:=⟨[k14 n],[],[],[]⟩
abbrev yen:List (List Nat):=[[2,3],[2,3,5],[2,3,5,6],[2,3,5,6],[2,3,5,6],[2,3,5,6],[2,5],[2,3,5,21],[2,3,5,21],[2,5],[2,5,47],[4],[4]]
def zx7 (x:Yaj) (p:Bool):EH Ty_:=([(2,.pt 2 [] 0 0),(3,.pt 3 [] 0 0),(5,I_ (-1:Int)),(6,B_ p)],[(2,.lit 4 [[.im 1 x.1.Sign_,.im 2 x.1.Regs_,.im 3 x.1.Slots_,.im 4 x.1.List_]]),(3,.lit 7 [[I_ x.2.Op_,I_ x.2.D_,I_ x.2.A_,I_ x.2.B_,I_ x.2.C_,I_ x.2.N_,.sc (.int .u32 x.2.Bits_)]])])
def zx8 (x:Yaj) (p:Bool):EH Ty_:=([(2,.pt 2 [] 0 0),(3,.pt 3 [] 0 0),(5,I_ (-1:Int)),(21,B_ p)],[(2,.lit 4 [[.im 1 x.1.Sign_,.im 2 x.1.Regs_,.im 3 x.1.Slots_,.im 4 x.1.List_]]),(3,.lit 7 [[I_ x.2.Op_,I_ x.2.D_,I_ x.2.A_,I_ x.2.B_,I_ x.2.C_,I_ x.2.N_,.sc (.int .u32 x.2.Bits_)]])])
def zx9 (x:Yaj) (p:Int):EH Ty_:=([(2,.pt 2 [] 0 0),(5,I_ p)],[(2,.lit 4 [[.im 1 x.1.Sign_,.im 2 x.1.Regs_,.im 3 x.1.Slots_,.im 4 x.1.List_]])])
def zxa (x:Yaj) (p:Yag):EH Ty_:=([(2,.pt 2 [] 0 0),(5,I_ p.1),(47,B_ p.2)],[(2,.lit 4 [[.im 1 x.1.Sign_,.im 2 x.1.Regs_,.im 3 x.1.Slots_,.im 4 x.1.List_]])])
def y2s (n:Nat) (x:Yaj):Pt P_ Ty_ [] Int:=.join (S:=Int) (zx9 x) (.join (S:=Bool) (zx7 x) (.call (k14 n) x.2.Op_ λ(y1:Bool)=>.ite y1 (.leaf (.inl true)) (.ite (x.2.Op_==29) (.leaf (.inl true)) (.ite (x.2.Op_==30) (.leaf (.inl true)) (.leaf (.inl (x.2.Op_==32)))))) λs1=>.ite s1 (.leaf (.inl x.2.D_)) (.join (S:=Bool) (zx8 x) (.ite (x.2.Op_==31) (.leaf (.inl true)) (.leaf (.inl (x.2.Op_==33)))) λs2=>.ite s2 (.leaf (.inl x.2.A_)) (.leaf (.inl (-1:Int))))) λs3=>.join (S:=Yag) (zxa x) (.ite (decide (s3<(0:Int))) (.leaf (.inl (s3,true))) (.ite (decide (s3>=(x.1.Regs_.length:Int))) (.leaf (.inl (s3,true))) (.bnd (idx x.1.Regs_ s3) λy2=>.leaf (.inl (s3,(y2.Kind_ != (3:Int))))))) λs4=>.ite s4.2 (.leaf (-1:Int)) (.bnd (idx x.1.Regs_ s4.1) λy3=>.leaf y3.Param_)
def k60 (n:Nat):Con P_ Ty_:=zb (X:=Yaj) (R:=Int) (pro:=[]) (yem n) 70 yen (λx=>.two .no (.two .no (.join Int (zx9 x) ⟨[(2,.ref 2),(5,.any)],[(2,.any)]⟩ (.two (.join Bool (zx7 x) ⟨[(2,.ref 2),(3,.ref 3),(5,.any),(6,.any)],[(2,.any),(3,.any)]⟩ .no (.two .no (.join Bool (zx8 x) ⟨[(2,.ref 2),(3,.ref 3),(5,.any),(21,.any)],[(2,.any),(3,.any)]⟩ .no .no))) .no) (.two (.join (Yag) (zxa x) ⟨[(2,.ref 2),(5,.any),(47,.any)],[(2,.any)]⟩ .no .no) .no)))) [.ag [.im 1,.im 2,.im 3,.im 4],.ag [.any,.any,.any,.any,.any,.any,.any]] [] [] ⟨[(4,.any)],[]⟩ [] true (λx=>[.ag [.im 1 x.1.Sign_,.im 2 x.1.Regs_,.im 3 x.1.Slots_,.im 4 x.1.List_],.ag [I_ x.2.Op_,I_ x.2.D_,I_ x.2.A_,I_ x.2.B_,I_ x.2.C_,I_ x.2.N_,.sc (.int .u32 x.2.Bits_)]]) (λx=>[]) (λy=>([(4,I_ y)],[])) (λy=>I_ y) (λy=>[]) (y2s n)
def y0m (n:Nat):Cx P_ Ty_:=⟨[k27 n],[(20,false,6),(38,false,6),(39,false,6)],[],[]⟩
abbrev y0n:List (List Nat):=[[1],[1,3],[1,3,4,5],[3,4,5,6],[3,4,5,6,7],[3,4,5,6,7,25],[3,4,5,6,7,32],[3,4,5,6,7],[3,4,5,6,7],[2]]
def zto (x:Xd) (v1:Yam) (q1:Yab) (p:Bool):EH Ty_:=([(3,.sw 600001 []),(4,.sc (.string v1.1)),(5,B_ v1.2),(6,.sw 20 []),(7,I_ q1.1),(25,B_ p)],[(600001,.typ false 6 q1.2),(20,.typ false 6 ([x.A_,x.B_,x.C_]:List Int))])
def ztp (n:Nat) (x:Xd) (v1:Yam) (q1:Yab):Pt P_ Ty_ [] (Bo (Yab) (Yab) Empty):=.join (S:=Bool) (zto x v1 q1) (.ite v1.2 (.leaf (.inl (decide (q1.1<(3:Int))))) (.leaf (.inl false))) λs1=>.ite s1 (.need (0<=(IntKind.i64.wrap (q1.1+(1:Int)))/\(IntKind.i64.wrap (q1.1+(1:Int)))<(v1.1.size:Int)) (.ite ((z8 v1.1 (IntKind.i64.wrap (q1.1+(1:Int)))) != (45:Int)) (.need (0<=q1.1/\q1.1<(([x.A_,x.B_,x.C_]:List Int).length:Int)) (.bnd (([x.A_,x.B_,x.C_]:List Int)[q1.1.toNat]?) λy2=>.need ((q1.2.length+([y2]:List Int).length) * 8<=140737488355328) (.leaf (.go ((IntKind.i64.wrap (q1.1+(1:Int))),(q1.2++([y2]:List Int))))))) (.leaf (.go ((IntKind.i64.wrap (q1.1+(1:Int))),q1.2))))) (.leaf (.out (q1.1,q1.2)))
def ztn (n:Nat) (x:Xd) (v1:Yam):LCon P_ Ty_ []:=lcon (X:=Yab) (Y:=Yab) (Z:=Empty) (y0m n) (subC [1,1,1,1,0,1,0,0] (fnC P_ 71 y0n)) (λq1=>.two (.join Bool (zto x v1 q1) ⟨[(3,.ref 600001),(4,.any),(5,.any),(6,.ref 20),(7,.any),(25,.any)],[(600001,.any),(20,.any)]⟩ .no .no) .no) 0 false ⟨[(3,.own 600001 false 6),(4,.any),(5,.any),(6,.ref 20),(7,.any)],[(600001,.any),(20,.any)]⟩ ⟨[(3,.ref 600001),(4,.any),(5,.any),(6,.ref 20),(7,.any),(25,.any)],[(600001,.any),(20,.any)]⟩ ⟨[],[]⟩ (λq1=>([(3,.sw 600001 []),(4,.sc (.string v1.1)),(5,B_ v1.2),(6,.sw 20 []),(7,I_ q1.1)],[(600001,.typ false 6 q1.2),(20,.typ false 6 ([x.A_,x.B_,x.C_]:List Int))])) (λp=>([(3,.sw 600001 []),(4,.sc (.string v1.1)),(5,B_ v1.2),(6,.sw 20 []),(7,I_ p.1),(25,B_ false)],[(600001,.typ false 6 p.2),(20,.typ false 6 ([x.A_,x.B_,x.C_]:List Int))])) (λp=>nomatch p) n (ztp n x v1)
def y0o (n:Nat) (x:Xd):Pt P_ Ty_ [] (List Int):=.call (k27 n) x.Op_ λ(y1:Yam)=>.loop (V:=Yam) (ztn n x) (y1.1,y1.2) ((0:Int),([]:List Int)) λ(v1:Yam) (y3:Yab)=>.leaf y3.2
def k10 (n:Nat):Con P_ Ty_:=zb (X:=Xd) (R:=(List Int)) (pro:=[]) (y0m n) 71 y0n (λx=>.two .no (.two .no (.two .no (.two .no (.two (.two .no (.two (.loop (Yam) (ztn n x) false ⟨[(3,.own 600001 false 6),(4,.any),(5,.any),(6,.ref 20),(7,.any)],[(600001,.any),(20,.any)]⟩) .no)) .no))))) [.ag [.any,.any,.any,.any,.any,.any,.any]] [] [100000] ⟨[(2,.ref 100000)],[(100000,.any)]⟩ [100000] true (λx=>[.ag [I_ x.Op_,I_ x.D_,I_ x.A_,I_ x.B_,I_ x.C_,I_ x.N_,.sc (.int .u32 x.Bits_)]]) (λx=>[]) (λy=>([(2,.sw 100000 [])],[(100000,.typ false 6 y)])) (λy=>.sw 100000 []) (λy=>[(100000,.typ false 6 y)]) (y0o n)
def y1s (n:Nat):Cx P_ Ty_:=⟨[k59 n,k60 n,k10 n],[],[],[]⟩
abbrev y1t:List (List Nat):=[[2,3,4,5],[2,3,4,5,9],[2,3,5,9,49],[8],[2,3,5,9,10],[2,3,5,9,10,11],[2,3,5,9,10,11,55],[2,3,5,9,10,11,65],[8],[2,3,5,9,10,11],[3,9,67],[3,9,67,68],[3,9,67,68],[8],[3,9,67,74],[8],[9,83],[8],[8]]
def zwn (x:Yba) (p:Bool):EH Ty_:=([(2,.im 5 x.2.2.1),(3,.im 10 x.q3),(4,.pt 4 [] 0 0),(5,.pt 5 [] 0 0),(9,B_ p)],[(4,.lit 4 [[.im 1 x.1.Sign_,.im 2 x.1.Regs_,.im 3 x.1.Slots_,.im 4 x.1.List_]]),(5,.lit 7 [[I_ x.2.1.Op_,I_ x.2.1.D_,I_ x.2.1.A_,I_ x.2.1.B_,I_ x.2.1.C_,I_ x.2.1.N_,.sc (.int .u32 x.2.1.Bits_)]])])
def zwo (x:Yba) (p:Ybw):EH Ty_:=([(2,.im 5 x.2.2.1),(3,.im 10 x.q3),(5,.pt 5 [] 0 0),(9,B_ p.1),(49,B_ p.2)],[(5,.lit 7 [[I_ x.2.1.Op_,I_ x.2.1.D_,I_ x.2.1.A_,I_ x.2.1.B_,I_ x.2.1.C_,I_ x.2.1.N_,.sc (.int .u32 x.2.1.Bits_)]])])
def zwp (x:Yba) (p:Ybw):EH Ty_:=([(3,.im 10 x.q3),(9,B_ p.1),(67,I_ x.2.1.Op_),(68,B_ p.2)],[])
def zwq (n:Nat) (x:Yba) (v1:Ybk) (q1:Int):Pt P_ Ty_ [] (Bo Int Int Unit):=.ite (decide (q1<(v1.2.length:Int))) (.need (0<=q1/\q1<(v1.2.length:Int)) (.bnd (v1.2[q1.toNat]?) λy6=>.bnd (idx x.2.2.1 y6) λy7=>.ite (!y7) (.leaf (.ret ())) (.leaf (.go (IntKind.i64.wrap (q1+(1:Int))))))) (.leaf (.out q1))
def zwm (n:Nat) (x:Yba) (v1:Ybk):LCon P_ Ty_ []:=lcon (X:=Int) (Y:=Int) (Z:=Unit) (y1s n) (subC [1,1,1,1,0,1,0,0] (fnC P_ 51 y1t)) (λq1=>.no) 0 true ⟨[(2,.im 5),(3,.im 10),(5,.ref 5),(9,.any),(10,.ref 51),(11,.any)],[(5,.any),(51,.any)]⟩ ⟨[(2,.im 5),(3,.im 10),(5,.ref 5),(9,.any),(10,.ref 51),(11,.any),(55,.any)],[(5,.any),(51,.any)]⟩ ⟨[(8,.any)],[]⟩ (λq1=>([(2,.im 5 x.2.2.1),(3,.im 10 x.q3),(5,.pt 5 [] 0 0),(9,B_ v1.1),(10,.sw 51 []),(11,I_ q1)],[(5,.lit 7 [[I_ x.2.1.Op_,I_ x.2.1.D_,I_ x.2.1.A_,I_ x.2.1.B_,I_ x.2.1.C_,I_ x.2.1.N_,.sc (.int .u32 x.2.1.Bits_)]]),(51,.typ false 6 v1.2)])) (λp=>([(2,.im 5 x.2.2.1),(3,.im 10 x.q3),(5,.pt 5 [] 0 0),(9,B_ v1.1),(10,.sw 51 []),(11,I_ p),(55,B_ false)],[(5,.lit 7 [[I_ x.2.1.Op_,I_ x.2.1.D_,I_ x.2.1.A_,I_ x.2.1.B_,I_ x.2.1.C_,I_ x.2.1.N_,.sc (.int .u32 x.2.1.Bits_)]]),(51,.typ false 6 v1.2)])) (λp=>([(8,B_ false)],[])) n (zwq n x v1)
def y1u (n:Nat) (x:Yba):Pt P_ Ty_ [] Bool:=.join (S:=Bool) (zwn x) (.ite (decide ((x.q3.length:Int) > (0:Int))) (.bnd (idx x.q3 (IntKind.i64.wrap ((x.q3.length:Int) - (1:Int)))) λy1=>.leaf (.inl (y1.Op_==36))) (.leaf (.inl false))) λs1=>.join (S:=Ybw) (zwo x) (.call (k59 n) (x.1,x.2.1) λ(y2:Bool)=>.ite (!y2) (.leaf (.inl (s1,true))) (.ite s1 (.ite (x.2.1.Op_ != (37:Int)) (.call (k60 n) (x.1,x.2.1) λ(y3:Int)=>.bnd (idx x.q3 (IntKind.i64.wrap ((x.q3.length:Int) - (1:Int)))) λy4=>.leaf (.inl (s1,(y3 != y4.Param_)))) (.leaf (.inl (s1,false)))) (.leaf (.inl (s1,false))))) λs2=>.ite s2.2 (.leaf false) (.call (k10 n) x.2.1 λ(y5:(List Int))=>.loopR (V:=Ybk) (zwm n x) (s2.1,y5) (0:Int) (λ(v1:Ybk) (y8:Int)=>.join (S:=Ybw) (zwp x) (.ite (x.2.1.Op_==34) (.leaf (.inl (v1.1,true))) (.leaf (.inl (v1.1,(x.2.1.Op_==36))))) λs3=>.ite s3.2 (.leaf (decide ((x.q3.length:Int)<(64:Int)))) (.ite (x.2.1.Op_==35) (.ite (decide ((x.q3.length:Int) > (0:Int))) (.leaf (!s3.1)) (.leaf false)) (.ite (x.2.1.Op_==37) (.leaf s3.1) (.leaf true)))) λ(v1:Ybk) (z1:Unit)=>.leaf false)
def k41 (n:Nat):Con P_ Ty_:=zb (X:=Yba) (R:=Bool) (pro:=[]) (y1s n) 51 y1t (λx=>.two .no (.join Bool (zwn x) ⟨[(2,.im 5),(3,.im 10),(4,.ref 4),(5,.ref 5),(9,.any)],[(4,.any),(5,.any)]⟩ .no (.two (.join (Ybw) (zwo x) ⟨[(2,.im 5),(3,.im 10),(5,.ref 5),(9,.any),(49,.any)],[(5,.any)]⟩ .no .no) (.two .no (.two (.two .no (.two (.loop (Ybk) (zwm n x) true ⟨[(2,.im 5),(3,.im 10),(5,.ref 5),(9,.any),(10,.ref 51),(11,.any)],[(5,.any),(51,.any)]⟩) .no)) (.two (.two .no (.two (.join (Ybw) (zwp x) ⟨[(3,.im 10),(9,.any),(67,.any),(68,.any)],[]⟩ .no .no) .no)) .no)))))) [.ag [.im 1,.im 2,.im 3,.im 4],.ag [.any,.any,.any,.any,.any,.any,.any],.im 5,.im 10] [] [] ⟨[(8,.any)],[]⟩ [] true (λx=>[.ag [.im 1 x.1.Sign_,.im 2 x.1.Regs_,.im 3 x.1.Slots_,.im 4 x.1.List_],.ag [I_ x.2.1.Op_,I_ x.2.1.D_,I_ x.2.1.A_,I_ x.2.1.B_,I_ x.2.1.C_,I_ x.2.1.N_,.sc (.int .u32 x.2.1.Bits_)],.im 5 x.2.2.1,.im 10 x.q3]) (λx=>[]) (λy=>([(8,B_ y)],[])) (λy=>B_ y) (λy=>[]) (y1u n)
def ye6 (n:Nat):Cx P_ Ty_:=⟨[],[(6,false,5)],[],[]⟩
abbrev ye7:List (List Nat):=[[0],[0,3],[2]]
def y1v (n:Nat) (x:(List Bool)):Pt P_ Ty_ [] (List Bool):=.need (x.length * 1<=140737488355328) (.leaf x)
def k42 (n:Nat):Con P_ Ty_:=zb (X:=(List Bool)) (R:=(List Bool)) (pro:=[]) (ye6 n) 52 ye7 (λx=>.no) [.im 5] [] [100000] ⟨[(2,.ref 100000)],[(100000,.any)]⟩ [100000] true (λx=>[.im 5 x]) (λx=>[]) (λy=>([(2,.sw 100000 [])],[(100000,.typ false 5 y)])) (λy=>.sw 100000 []) (λy=>[(100000,.typ false 5 y)]) (y1v n)
def ydg (n:Nat):Cx P_ Ty_:=⟨[k27 n],[],[],[]⟩
abbrev ydh:List (List Nat):=[[1],[3,4],[2]]
def y0q (n:Nat) (x:Xd):Pt P_ Ty_ [] Bool:=.call (k27 n) x.Op_ λ(y1:Yam)=>.ite y1.2 (.need (0<=(0:Int)/\(0:Int)<(y1.1.size:Int)) (.leaf ((z8 y1.1 (0:Int)) != (45:Int)))) (.leaf false)
def k12 (n:Nat):Con P_ Ty_:=zb (X:=Xd) (R:=Bool) (pro:=[]) (ydg n) 32 ydh (λx=>.no) [.ag [.any,.any,.any,.any,.any,.any,.any]] [] [] ⟨[(2,.any)],[]⟩ [] true (λx=>[.ag [I_ x.Op_,I_ x.D_,I_ x.A_,I_ x.B_,I_ x.C_,I_ x.N_,.sc (.int .u32 x.Bits_)]]) (λx=>[]) (λy=>([(2,B_ y)],[])) (λy=>B_ y) (λy=>[]) (y0q n)
def zgi (n:Nat):Cx P_ Ty_:=⟨[k38 n,k39 n,k40 n,k41 n,k42 n,k12 n],[(75,false,5),(76,false,5),(113,true,10),(114,true,10)],[113],[]⟩
abbrev zgj:List (List Nat):=[[1],[1,4],[1,4,15],[2,3],[1,19],[2,3],[1,30],[2,3],[1,5],[1,5,39],[1,5,50],[2,3],[1,5],[1,6],[1,6,55],[1,6,66],[2,3],[1,6],[1,7],[1,7,8],[1,7,8,71],[1,7,8],[1,7,8],[1,7,9],[1,7,9,10],[1,7,9,10,81],[1,7,9,10,11],[1,7,9,10,11,94],[2,3],[1,7,9,10,11,96],[1,7,9,10],[1,7,9,10,11,115],[1,7,9,10],[1,7,9,10],[1,7,9,10,11,132],[1,7,9,10],[1,7,9,10,11,141],[1,7,9,10],[1,7,9,10],[1,150],[2,3],[2,3]]
def zuq (x:Xe) (p:Bool):EH Ty_:=([(1,.pt 1 [] 0 0),(19,B_ p)],[(1,.lit 4 [[.im 1 x.Sign_,.im 2 x.Regs_,.im 3 x.Slots_,.im 4 x.List_]])])
def zur (x:Xe) (v4:Unit) (q4:Ybb) (p:Ycv):EH Ty_:=([(1,.pt 1 [] 0 0),(7,.sw 600002 []),(9,.sw 600003 []),(10,I_ q4.1),(11,.pt 11 [] 0 0),(96,B_ p.1)],[(1,.lit 4 [[.im 1 x.Sign_,.im 2 x.Regs_,.im 3 x.Slots_,.im 4 x.List_]]),(600002,.typ false 5 q4.2.1),(600003,.typ true 10 q4.2.2),(11,.lit 7 [[I_ p.2.1,I_ p.2.2.1,I_ p.p3,I_ p.p4,I_ p.p5,I_ p.p6,.sc (.int .u32 p.q7)]])])
def zus (n:Nat) (x:Xe) (v1:Unit) (q1:Int):Pt P_ Ty_ [] (Bo Int Int Unit):=.ite (decide (q1<(x.Regs_.length:Int))) (.bnd (idx x.Regs_ q1) λy2=>.call (k39 n) (y2,x.Sign_) λ(y3:Bool)=>.ite (!y3) (.leaf (.ret ())) (.leaf (.go (IntKind.i64.wrap (q1+(1:Int)))))) (.leaf (.out q1))
def zum (n:Nat) (x:Xe) (v1:Unit):LCon P_ Ty_ []:=lcon (X:=Int) (Y:=Int) (Z:=Unit) (zgi n) (subC [1,1,1,0,1,0,0] (fnC P_ 26 zgj)) (λq1=>.no) 1 true ⟨[(1,.ref 1),(5,.any)],[(1,.any)]⟩ ⟨[(1,.ref 1),(5,.any),(39,.any)],[(1,.any)]⟩ ⟨[(2,.any),(3,.any)],[]⟩ (λq1=>([(1,.pt 1 [] 0 0),(5,I_ q1)],[(1,.lit 4 [[.im 1 x.Sign_,.im 2 x.Regs_,.im 3 x.Slots_,.im 4 x.List_]])])) (λp=>([(1,.pt 1 [] 0 0),(5,I_ p),(39,B_ false)],[(1,.lit 4 [[.im 1 x.Sign_,.im 2 x.Regs_,.im 3 x.Slots_,.im 4 x.List_]])])) (λp=>([(2,I_ (160:Int)),(3,I_ (-1:Int))],[])) n (zus n x v1)
def zut (n:Nat) (x:Xe) (v2:Unit) (q2:Int):Pt P_ Ty_ [] (Bo Int Int Unit):=.ite (decide (q2<(x.Slots_.length:Int))) (.bnd (idx x.Slots_ q2) λy5=>.call (k40 n) (y5,x.Sign_) λ(y6:Bool)=>.ite (!y6) (.leaf (.ret ())) (.leaf (.go (IntKind.i64.wrap (q2+(1:Int)))))) (.leaf (.out q2))
def zun (n:Nat) (x:Xe) (v2:Unit):LCon P_ Ty_ []:=lcon (X:=Int) (Y:=Int) (Z:=Unit) (zgi n) (subC [1,1,1,1,0,1,0,0] (fnC P_ 26 zgj)) (λq2=>.no) 3 true ⟨[(1,.ref 1),(6,.any)],[(1,.any)]⟩ ⟨[(1,.ref 1),(6,.any),(55,.any)],[(1,.any)]⟩ ⟨[(2,.any),(3,.any)],[]⟩ (λq2=>([(1,.pt 1 [] 0 0),(6,I_ q2)],[(1,.lit 4 [[.im 1 x.Sign_,.im 2 x.Regs_,.im 3 x.Slots_,.im 4 x.List_]])])) (λp=>([(1,.pt 1 [] 0 0),(6,I_ p),(55,B_ false)],[(1,.lit 4 [[.im 1 x.Sign_,.im 2 x.Regs_,.im 3 x.Slots_,.im 4 x.List_]])])) (λp=>([(2,I_ (160:Int)),(3,I_ (-1:Int))],[])) n (zut n x v2)
def zuu (n:Nat) (x:Xe) (v3:Unit) (q3:Yaf):Pt P_ Ty_ [] (Bo (Yaf) (Yaf) Empty):=.ite (decide (q3.1<(x.Regs_.length:Int))) (.need ((q3.2.length+([false]:List Bool).length) * 1<=140737488355328) (.leaf (.go ((IntKind.i64.wrap (q3.1+(1:Int))),(q3.2++([false]:List Bool)))))) (.leaf (.out (q3.1,q3.2)))
def zuo (n:Nat) (x:Xe) (v3:Unit):LCon P_ Ty_ []:=lcon (X:=Yaf) (Y:=Yaf) (Z:=Empty) (zgi n) (subC [1,1,1,1,1,1,0,1,0,0] (fnC P_ 26 zgj)) (λq3=>.no) 5 false ⟨[(1,.ref 1),(7,.own 600001 false 5),(8,.any)],[(1,.any),(600001,.any)]⟩ ⟨[(1,.ref 1),(7,.ref 600001),(8,.any),(71,.any)],[(1,.any),(600001,.any)]⟩ ⟨[],[]⟩ (λq3=>([(1,.pt 1 [] 0 0),(7,.sw 600001 []),(8,I_ q3.1)],[(1,.lit 4 [[.im 1 x.Sign_,.im 2 x.Regs_,.im 3 x.Slots_,.im 4 x.List_]]),(600001,.typ false 5 q3.2)])) (λp=>([(1,.pt 1 [] 0 0),(7,.sw 600001 []),(8,I_ p.1),(71,B_ false)],[(1,.lit 4 [[.im 1 x.Sign_,.im 2 x.Regs_,.im 3 x.Slots_,.im 4 x.List_]]),(600001,.typ false 5 p.2)])) (λp=>nomatch p) n (zuu n x v3)
def zuv (n:Nat) (x:Xe) (v4:Unit) (q4:Ybb):Pt P_ Ty_ [] (Bo (Ybb) (Ybb) Int):=.ite (decide (q4.1<(x.List_.length:Int))) (.bnd (idx x.List_ q4.1) λy9=>.call (k41 n) (x,y9,q4.2.1,q4.2.2) λ(y10:Bool)=>.ite (!y10) (.leaf (.ret q4.1)) (.join (S:=Ycv) (zur x v4 q4) (.ite (y9.Op_==34) (.leaf (.inl (true,y9.Op_,y9.D_,y9.A_,y9.B_,y9.C_,y9.N_,y9.Bits_))) (.leaf (.inl ((y9.Op_==36),y9.Op_,y9.D_,y9.A_,y9.B_,y9.C_,y9.N_,y9.Bits_)))) λs2=>.ite s2.1 (.call (k42 n) q4.2.1 λ(y11:(List Bool))=>.need ((q4.2.2.length+([(⟨s2.2.1,s2.p6,y11⟩:Xh)]:List Xh).length) * 40<=140737488355328) (.leaf (.go ((IntKind.i64.wrap (q4.1+(1:Int))),q4.2.1,(q4.2.2++([(⟨s2.2.1,s2.p6,y11⟩:Xh)]:List Xh)))))) (.ite (s2.2.1==35) (.need (0<=(IntKind.i64.wrap ((q4.2.2.length:Int) - (1:Int)))/\(IntKind.i64.wrap ((q4.2.2.length:Int) - (1:Int)))<(q4.2.2.length:Int)) (.bnd (q4.2.2[(IntKind.i64.wrap ((q4.2.2.length:Int) - (1:Int))).toNat]?) λy12=>.bnd (q4.2.2[(IntKind.i64.wrap ((q4.2.2.length:Int) - (1:Int))).toNat]?) λy13=>.call (k42 n) y13.Set_ λ(y14:(List Bool))=>.need (0<=(IntKind.i64.wrap ((q4.2.2.length:Int) - (1:Int)))/\(IntKind.i64.wrap ((q4.2.2.length:Int) - (1:Int)))<=(q4.2.2.length:Int)) (.need ((IntKind.i64.wrap ((q4.2.2.length:Int) - (1:Int))).toNat<=q4.2.2.length) (.leaf (.go ((IntKind.i64.wrap (q4.1+(1:Int))),y14,(q4.2.2.take ((IntKind.i64.wrap ((q4.2.2.length:Int) - (1:Int))).toNat)))))))) (.ite (s2.2.1==37) (.need (0<=(IntKind.i64.wrap ((q4.2.2.length:Int) - (1:Int)))/\(IntKind.i64.wrap ((q4.2.2.length:Int) - (1:Int)))<=(q4.2.2.length:Int)) (.need ((IntKind.i64.wrap ((q4.2.2.length:Int) - (1:Int))).toNat<=q4.2.2.length) (.leaf (.go ((IntKind.i64.wrap (q4.1+(1:Int))),q4.2.1,(q4.2.2.take ((IntKind.i64.wrap ((q4.2.2.length:Int) - (1:Int))).toNat))))))) (.call (k12 n) (⟨s2.2.1,s2.2.2.1,s2.p3,s2.p4,s2.p5,s2.p6,s2.q7⟩:Xd) λ(y15:Bool)=>.ite y15 (.need (0<=s2.2.2.1/\s2.2.2.1<(q4.2.1.length:Int)) (.bnd (q4.2.1[s2.2.2.1.toNat]?) λy16=>.leaf (.go ((IntKind.i64.wrap (q4.1+(1:Int))),(q4.2.1.set s2.2.2.1.toNat true),q4.2.2)))) (.leaf (.go ((IntKind.i64.wrap (q4.1+(1:Int))),q4.2.1,q4.2.2)))))))) (.leaf (.out (q4.1,q4.2.1,q4.2.2)))
def zup (n:Nat) (x:Xe) (v4:Unit):LCon P_ Ty_ []:=lcon (X:=Ybb) (Y:=Ybb) (Z:=Int) (zgi n) (subC [1,1,1,1,1,1,1,1,0,1,0,0] (fnC P_ 26 zgj)) (λq4=>.two .no (.two (.two (.two .no (.two .no (.two (.join (Ycv) (zur x v4 q4) ⟨[(1,.ref 1),(7,.ref 600002),(9,.ref 600003),(10,.any),(11,.ref 11),(96,.any)],[(1,.any),(600002,.any),(600003,.any),(11,.any)]⟩ .no .no) .no))) .no) .no)) 7 true ⟨[(1,.ref 1),(7,.ref 600002),(9,.own 600003 true 10),(10,.any)],[(1,.any),(600002,.any),(600003,.any)]⟩ ⟨[(1,.ref 1),(7,.ref 600002),(9,.ref 600003),(10,.any),(81,.any)],[(1,.any),(600002,.any),(600003,.any)]⟩ ⟨[(2,.any),(3,.any)],[]⟩ (λq4=>([(1,.pt 1 [] 0 0),(7,.sw 600002 []),(9,.sw 600003 []),(10,I_ q4.1)],[(1,.lit 4 [[.im 1 x.Sign_,.im 2 x.Regs_,.im 3 x.Slots_,.im 4 x.List_]]),(600002,.typ false 5 q4.2.1),(600003,.typ true 10 q4.2.2)])) (λp=>([(1,.pt 1 [] 0 0),(7,.sw 600002 []),(9,.sw 600003 []),(10,I_ p.1),(81,B_ false)],[(1,.lit 4 [[.im 1 x.Sign_,.im 2 x.Regs_,.im 3 x.Slots_,.im 4 x.List_]]),(600002,.typ false 5 p.2.1),(600003,.typ true 10 p.2.2)])) (λp=>([(2,I_ (160:Int)),(3,I_ p)],[])) n (zuv n x v4)
def y0w (n:Nat) (x:Xe):Pt P_ Ty_ [] (Yaa):=.call (k38 n) x.Sign_ λ(y1:Int)=>.ite (y1 != (0:Int)) (.leaf (y1,(-1:Int))) (.join (S:=Bool) (zuq x) (.ite (decide ((x.Regs_.length:Int) > (16384:Int))) (.leaf (.inl true)) (.leaf (.inl (decide ((x.List_.length:Int) > (32768:Int)))))) λs1=>.ite s1 (.leaf ((181:Int),(-1:Int))) (.ite (decide ((x.Slots_.length:Int) > (4096:Int))) (.leaf ((180:Int),(-1:Int))) (.loopR (V:=Unit) (zum n x) () (0:Int) (λ(v1:Unit) (y4:Int)=>.loopR (V:=Unit) (zun n x) () (0:Int) (λ(v2:Unit) (y7:Int)=>.loop (V:=Unit) (zuo n x) () ((0:Int),([]:List Bool)) λ(v3:Unit) (y8:Yaf)=>.loopR (V:=Unit) (zup n x) () ((0:Int),y8.2,([]:List Xh)) (λ(v4:Unit) (y17:Ybb)=>.ite (decide ((y17.2.2.length:Int) > (0:Int))) (.leaf ((160:Int),(x.List_.length:Int))) (.leaf ((0:Int),(0:Int)))) λ(v4:Unit) (z3:Int)=>.leaf ((160:Int),z3)) λ(v2:Unit) (z2:Unit)=>.leaf ((160:Int),(-1:Int))) λ(v1:Unit) (z1:Unit)=>.leaf ((160:Int),(-1:Int)))))
def k21 (n:Nat):Con P_ Ty_:=zb (X:=Xe) (R:=Yaa) (pro:=[]) (zgi n) 26 zgj (λx=>.two .no (.two .no (.two (.two (.two .no (.two .no (.join Bool (zuq x) ⟨[(1,.ref 1),(19,.any)],[(1,.any)]⟩ .no .no))) .no) (.two (.two .no (.two (.loop Unit (zum n x) true ⟨[(1,.ref 1),(5,.any)],[(1,.any)]⟩) .no)) (.two (.two .no (.two (.loop Unit (zun n x) true ⟨[(1,.ref 1),(6,.any)],[(1,.any)]⟩) .no)) (.two .no (.two (.two .no (.two (.loop Unit (zuo n x) false ⟨[(1,.ref 1),(7,.own 600001 false 5),(8,.any)],[(1,.any),(600001,.any)]⟩) .no)) (.two .no (.two (.two .no (.two (.loop Unit (zup n x) true ⟨[(1,.ref 1),(7,.ref 600002),(9,.own 600003 true 10),(10,.any)],[(1,.any),(600002,.any),(600003,.any)]⟩) .no)) .no))))))))) [.ag [.im 1,.im 2,.im 3,.im 4]] [] [] ⟨[(2,.any),(3,.any)],[]⟩ [] true (λx=>[.ag [.im 1 x.Sign_,.im 2 x.Regs_,.im 3 x.Slots_,.im 4 x.List_]]) (λx=>[]) (λy=>([(2,I_ y.1),(3,I_ y.2)],[])) (λy=>.tu [I_ y.1,I_ y.2]) (λy=>[]) (y0w n)
def ybx (n:Nat):Cx P_ Ty_:=⟨[k21 n],[],[],[]⟩
abbrev yby:List (List Nat):=[[1],[3],[2]]
def zvi (n:Nat) (x:Xe):Pt P_ Ty_ [] Bool:=.call (k21 n) x λ(y1:Yaa)=>.leaf (y1.1==0)
def k243 (n:Nat):Con P_ Ty_:=zb (X:=Xe) (R:=Bool) (pro:=[]) (ybx n) 10 yby (λx=>.no) [.ag [.im 1,.im 2,.im 3,.im 4]] [] [] ⟨[(2,.any)],[]⟩ [] true (λx=>[.ag [.im 1 x.Sign_,.im 2 x.Regs_,.im 3 x.Slots_,.im 4 x.List_]]) (λx=>[]) (λy=>([(2,B_ y)],[])) (λy=>B_ y) (λy=>[]) (zvi n)
def yc1 (n:Nat):Cx P_ Ty_:=⟨[],[(9,false,4),(11,false,1),(16,false,2)],[],[]⟩
abbrev yc2:List (List Nat):=[[0],[0,1],[0,1,2],[0]]
def yc3 (n:Nat) (x:Unit):Pt P_ Ty_ [] Unit:=.leaf ()
def k245 (n:Nat):Con P_ Ty_:=zb (X:=Unit) (R:=Unit) (pro:=[]) (yc1 n) 27 yc2 (λx=>.no) [] [] [100000] ⟨[(0,.ref 100000)],[(100000,.any)]⟩ [100000] true (λx=>[]) (λx=>[]) (λy=>([(0,.pt 100000 [] 0 0)],[(100000,.lit 4 [[.ow false 1 ([(⟨(⟨#[119]⟩:ByteArray),(1:Int),(2:Int)⟩:Xa)]:List Xa),.ow false 2 ([(⟨(3:Int),(0:Int)⟩:Xb),(⟨(3:Int),(0:Int)⟩:Xb),(⟨(3:Int),(0:Int)⟩:Xb),(⟨(3:Int),(0:Int)⟩:Xb)]:List Xb),.zs,.ow false 4 ([(⟨(29:Int),(0:Int),(0:Int),(0:Int),(0:Int),(0:Int),(0:Int)⟩:Xd),(⟨(29:Int),(1:Int),(0:Int),(0:Int),(0:Int),(0:Int),(0:Int)⟩:Xd),(⟨(4:Int),(2:Int),(0:Int),(1:Int),(0:Int),(0:Int),(0:Int)⟩:Xd),(⟨(3:Int),(3:Int),(2:Int),(0:Int),(0:Int),(0:Int),(0:Int)⟩:Xd),(⟨(31:Int),(0:Int),(3:Int),(0:Int),(0:Int),(0:Int),(0:Int)⟩:Xd)]:List Xd)]])])) (λy=>.ag [.sw 100000 [(0,0)],.sw 100000 [(0,1)],.zs,.sw 100000 [(0,3)]]) (λy=>[(100000,.lit 4 [[.ow false 1 ([(⟨(⟨#[119]⟩:ByteArray),(1:Int),(2:Int)⟩:Xa)]:List Xa),.ow false 2 ([(⟨(3:Int),(0:Int)⟩:Xb),(⟨(3:Int),(0:Int)⟩:Xb),(⟨(3:Int),(0:Int)⟩:Xb),(⟨(3:Int),(0:Int)⟩:Xb)]:List Xb),.zs,.ow false 4 ([(⟨(29:Int),(0:Int),(0:Int),(0:Int),(0:Int),(0:Int),(0:Int)⟩:Xd),(⟨(29:Int),(1:Int),(0:Int),(0:Int),(0:Int),(0:Int),(0:Int)⟩:Xd),(⟨(4:Int),(2:Int),(0:Int),(1:Int),(0:Int),(0:Int),(0:Int)⟩:Xd),(⟨(3:Int),(3:Int),(2:Int),(0:Int),(0:Int),(0:Int),(0:Int)⟩:Xd),(⟨(31:Int),(0:Int),(3:Int),(0:Int),(0:Int),(0:Int),(0:Int)⟩:Xd)]:List Xd)]])]) (yc3 n)
def y8l (n:Nat):Cx P_ Ty_:=⟨[],[],[],[]⟩
abbrev y8m:List (List Nat):=[[2,3],[2,3,7],[4],[4]]
def y8n (n:Nat) (x:Xe×Xb):Pt P_ Ty_ [] Int:=.ite (x.2.Kind_==3) (.bnd (idx x.1.Sign_ x.2.Param_) λy1=>.leaf y1.Len_) (.leaf (1:Int))
def k134 (n:Nat):Con P_ Ty_:=zb (X:=Xe×Xb) (R:=Int) (pro:=[]) (y8l n) 73 y8m (λx=>.no) [.ag [.im 1,.im 2,.im 3,.im 4],.ag [.any,.any]] [] [] ⟨[(4,.any)],[]⟩ [] true (λx=>[.ag [.im 1 x.1.Sign_,.im 2 x.1.Regs_,.im 3 x.1.Slots_,.im 4 x.1.List_],.ag [I_ x.2.Kind_,I_ x.2.Param_]]) (λx=>[]) (λy=>([(4,I_ y)],[])) (λy=>I_ y) (λy=>[]) (y8n n)
def y8s (n:Nat):Cx P_ Ty_:=⟨[],[],[],[]⟩
abbrev y8t:List (List Nat):=[[0],[2]]
def y8u (n:Nat) (x:Int):Pt P_ Ty_ [] Bool:=.leaf (decide ((x.tmod (2147483648:Int)) > (2139095040:Int)))
def k137 (n:Nat):Con P_ Ty_:=zb (X:=Int) (R:=Bool) (pro:=[]) (y8s n) 99 y8t (λx=>.no) [.any] [] [] ⟨[(2,.any)],[]⟩ [] true (λx=>[I_ x]) (λx=>[]) (λy=>([(2,B_ y)],[])) (λy=>B_ y) (λy=>[]) (y8u n)
def y8p (n:Nat):Cx P_ Ty_:=⟨[k137 n],[],[],[]⟩
abbrev y8q:List (List Nat):=[[0],[0,4],[2],[2]]
def y8r (n:Nat) (x:Int):Pt P_ Ty_ [] Int:=.call (k137 n) x λ(y1:Bool)=>.ite y1 (.leaf (2143289344:Int)) (.leaf x)
def k136 (n:Nat):Con P_ Ty_:=zb (X:=Int) (R:=Int) (pro:=[]) (y8p n) 86 y8q (λx=>.no) [.any] [] [] ⟨[(2,.any)],[]⟩ [] true (λx=>[I_ x]) (λx=>[]) (λy=>([(2,I_ y)],[])) (λy=>I_ y) (λy=>[]) (y8r n)
def ztv (n:Nat):Cx P_ Ty_:=⟨[k136 n],[(22,false,6),(23,false,6)],[],[]⟩
abbrev ztw:List (List Nat):=[[0,1],[0,1,13],[4,5],[0,1,6],[0,1,6,7],[0,1,6,7,16],[0,1,6,7],[0,1,6,7],[4,5]]
def znz (x:Yaa) (p:Bool):EH Ty_:=([(0,I_ x.1),(1,I_ x.2),(13,B_ p)],[])
def y4o (n:Nat) (x:Yaa) (v1:Unit) (q1:Yab):Pt P_ Ty_ [] (Bo (Yab) (Yab) Empty):=.ite (decide (q1.1<x.1)) (.call (k136 n) x.2 λ(y1:Int)=>.need ((q1.2.length+([y1]:List Int).length) * 8<=140737488355328) (.leaf (.go ((IntKind.i64.wrap (q1.1+(1:Int))),(q1.2++([y1]:List Int)))))) (.leaf (.out (q1.1,q1.2)))
def zny (n:Nat) (x:Yaa) (v1:Unit):LCon P_ Ty_ []:=lcon (X:=Yab) (Y:=Yab) (Z:=Empty) (ztv n) (subC [1,1,1,0,1,0,0] (fnC P_ 72 ztw)) (λq1=>.no) 0 false ⟨[(0,.any),(1,.any),(6,.own 600001 false 6),(7,.any)],[(600001,.any)]⟩ ⟨[(0,.any),(1,.any),(6,.ref 600001),(7,.any),(16,.any)],[(600001,.any)]⟩ ⟨[],[]⟩ (λq1=>([(0,I_ x.1),(1,I_ x.2),(6,.sw 600001 []),(7,I_ q1.1)],[(600001,.typ false 6 q1.2)])) (λp=>([(0,I_ x.1),(1,I_ x.2),(6,.sw 600001 []),(7,I_ p.1),(16,B_ false)],[(600001,.typ false 6 p.2)])) (λp=>nomatch p) n (y4o n x v1)
def y8o (n:Nat) (x:Yaa):Pt P_ Ty_ [] (Yab):=.join (S:=Bool) (znz x) (.ite (decide (x.1<(0:Int))) (.leaf (.inl true)) (.leaf (.inl (decide (x.1 > (65536:Int)))))) λs1=>.ite s1 (.leaf ((1:Int),([]:List Int))) (.loop (V:=Unit) (zny n x) () ((0:Int),([]:List Int)) λ(v1:Unit) (y2:Yab)=>.leaf ((0:Int),y2.2))
def k135 (n:Nat):Con P_ Ty_:=zb (X:=Yaa) (R:=Yab) (pro:=[]) (ztv n) 72 ztw (λx=>.two .no (.two (.join Bool (znz x) ⟨[(0,.any),(1,.any),(13,.any)],[]⟩ .no .no) (.two .no (.two (.two .no (.two (.loop Unit (zny n x) false ⟨[(0,.any),(1,.any),(6,.own 600001 false 6),(7,.any)],[(600001,.any)]⟩) .no)) .no)))) [.any,.any] [] [100000] ⟨[(4,.own 100000 false 6),(5,.any)],[(100000,.any)]⟩ [100000] true (λx=>[I_ x.1,I_ x.2]) (λx=>[]) (λy=>([(4,.sw 100000 []),(5,I_ y.1)],[(100000,.typ false 6 y.2)])) (λy=>.tu [.sw 100000 [],I_ y.1]) (λy=>[(100000,.typ false 6 y.2)]) (y8o n)
def y8i (n:Nat):Cx P_ Ty_:=⟨[k134 n,k135 n],[],[],[]⟩
abbrev y8j:List (List Nat):=[[2,3,4],[2,3,4,10],[4],[4,5],[4]]
def y8k (n:Nat) (x:Xe×Xc):Pt P_ Ty_ [] (Yau):=.ite (x.2.Type_.Kind_==2) (.leaf (([]:List Int),x.2.Int_)) (.call (k134 n) (x.1,x.2.Type_) λ(y1:Int)=>.call (k135 n) (y1,(IntKind.i64.wrap x.2.Bits_)) λ(y2:Yab)=>.leaf (y2.2,(0:Int)))
def k133 (n:Nat):Con P_ Ty_:=zb (X:=Xe×Xc) (R:=Yau) (pro:=[]) (y8i n) 53 y8j (λx=>.no) [.ag [.im 1,.im 2,.im 3,.im 4],.ag [.any,.any,.any,.any,.any]] [] [] ⟨[(4,.ref 100000)],[(100000,.fix [.im 6,.no])]⟩ [] false (λx=>[.ag [.im 1 x.1.Sign_,.im 2 x.1.Regs_,.im 3 x.1.Slots_,.im 4 x.1.List_],.ag [I_ x.2.Type_.Kind_,I_ x.2.Type_.Param_,B_ x.2.Keep_,.sc (.int .u32 x.2.Bits_),I_ x.2.Int_]]) (λx=>[]) (λy=>([(4,.pt 100000 [] 0 0)],[(100000,.lit 2 [[.im 6 y.1,I_ y.2]])])) (λy=>.ag [.im 6 y.1,I_ y.2]) (λy=>[]) (y8k n)
def ztt (n:Nat):Cx P_ Ty_:=⟨[k21 n,k133 n],[(35,false,14),(36,false,14)],[],[]⟩
abbrev ztu:List (List Nat):=[[1,2],[1,2,4],[1,2,4,14],[2,3],[1,2,6],[1,2,6,7],[1,2,6,7,23],[1,2,6,7],[1,2,6,7],[2,3]]
def y4n (n:Nat) (x:Xe) (v1:Unit) (q1:Yav):Pt P_ Ty_ [] (Bo (Yav) (Yav) Empty):=.ite (decide (q1.1<(x.Slots_.length:Int))) (.bnd (idx x.Slots_ q1.1) λy2=>.call (k133 n) (x,y2) λ(y3:Yau)=>.need ((q1.2.length+([(⟨y3.1,y3.2⟩:Xj)]:List Xj).length) * 32<=140737488355328) (.leaf (.go ((IntKind.i64.wrap (q1.1+(1:Int))),(q1.2++([(⟨y3.1,y3.2⟩:Xj)]:List Xj)))))) (.leaf (.out (q1.1,q1.2)))
def znx (n:Nat) (x:Xe) (v1:Unit):LCon P_ Ty_ []:=lcon (X:=Yav) (Y:=Yav) (Z:=Empty) (ztt n) (subC [1,1,1,1,0,1,0,0] (fnC P_ 28 ztu)) (λq1=>.no) 0 false ⟨[(1,.ref 1),(2,.ref 2),(6,.ref 6),(7,.any)],[(1,.any),(2,.any),(6,.fix [.no,.no,.no,.no,.ow false 14])]⟩ ⟨[(1,.ref 1),(2,.ref 2),(6,.ref 6),(7,.any),(23,.any)],[(1,.any),(2,.any),(6,.any)]⟩ ⟨[],[]⟩ (λq1=>([(1,.pt 1 [] 0 0),(2,.pt 2 [] 0 0),(6,.pt 6 [] 0 0),(7,I_ q1.1)],[(1,.lit 4 [[.im 1 x.Sign_,.im 2 x.Regs_,.im 3 x.Slots_,.im 4 x.List_]]),(2,.lit 5 [[.zs,.zs,.zs,.zs,.zs]]),(6,.lit 5 [[.im 1 x.Sign_,.im 2 x.Regs_,.im 3 x.Slots_,.im 4 x.List_,.ow false 14 q1.2]])])) (λp=>([(1,.pt 1 [] 0 0),(2,.pt 2 [] 0 0),(6,.pt 6 [] 0 0),(7,I_ p.1),(23,B_ false)],[(1,.lit 4 [[.im 1 x.Sign_,.im 2 x.Regs_,.im 3 x.Slots_,.im 4 x.List_]]),(2,.lit 5 [[.zs,.zs,.zs,.zs,.zs]]),(6,.lit 5 [[.im 1 x.Sign_,.im 2 x.Regs_,.im 3 x.Slots_,.im 4 x.List_,.ow false 14 p.2]])])) (λp=>nomatch p) n (y4n n x v1)
def y8h (n:Nat) (x:Xe):Pt P_ Ty_ [] (Yco):=.call (k21 n) x λ(y1:Yaa)=>.ite (y1.1 != (0:Int)) (.leaf (y1.1,([]:List Xa),([]:List Xb),([]:List Xc),([]:List Xd),([]:List Xj))) (.loop (V:=Unit) (znx n x) () ((0:Int),([]:List Xj)) λ(v1:Unit) (y4:Yav)=>.leaf ((0:Int),x.Sign_,x.Regs_,x.Slots_,x.List_,y4.2))
def k132 (n:Nat):Con P_ Ty_:=zb (X:=Xe) (R:=Yco) (pro:=[]) (ztt n) 28 ztu (λx=>.two .no (.two .no (.two .no (.two .no (.two (.two .no (.two (.loop Unit (znx n x) false ⟨[(1,.ref 1),(2,.ref 2),(6,.ref 6),(7,.any)],[(1,.any),(2,.any),(6,.fix [.no,.no,.no,.no,.ow false 14])]⟩) .no)) .no))))) [.ag [.im 1,.im 2,.im 3,.im 4]] [] [] ⟨[(2,.ref 100000),(3,.any)],[(100000,.fix [.im 1,.im 2,.im 3,.im 4,.im 14])]⟩ [] false (λx=>[.ag [.im 1 x.Sign_,.im 2 x.Regs_,.im 3 x.Slots_,.im 4 x.List_]]) (λx=>[]) (λy=>([(2,.pt 100000 [] 0 0),(3,I_ y.1)],[(100000,.lit 5 [[.im 1 y.2.1,.im 2 y.2.2.1,.im 3 y.p3,.im 4 y.p4,.im 14 y.q5]])])) (λy=>.tu [.ag [.im 1 y.2.1,.im 2 y.2.2.1,.im 3 y.p3,.im 4 y.p4,.im 14 y.q5],I_ y.1]) (λy=>[]) (y8h n)
def ztx (n:Nat):Cx P_ Ty_:=⟨[k64 n],[],[],[]⟩
abbrev zty:List (List Nat):=[[0,1],[0,1,10],[4],[0,1,5],[0,1,5,14],[0,1,5,27],[4],[0,1,5],[4]]
def y4s (n:Nat) (x:Ycp) (v1:Unit) (q1:Int):Pt P_ Ty_ [] (Bo Int Int Unit):=.ite (decide (q1<(x.1.length:Int))) (.bnd (idx x.2 q1) λy1=>.bnd (idx x.1 q1) λy2=>.call (k64 n) y2 λ(y3:Int)=>.ite ((y1.length:Int) != y3) (.leaf (.ret ())) (.leaf (.go (IntKind.i64.wrap (q1+(1:Int)))))) (.leaf (.out q1))
def zo5 (n:Nat) (x:Ycp) (v1:Unit):LCon P_ Ty_ []:=lcon (X:=Int) (Y:=Int) (Z:=Unit) (ztx n) (subC [1,1,0,1,0,0] (fnC P_ 74 zty)) (λq1=>.no) 0 true ⟨[(0,.im 1),(1,.im 12),(5,.any)],[]⟩ ⟨[(0,.im 1),(1,.im 12),(5,.any),(14,.any)],[]⟩ ⟨[(4,.any)],[]⟩ (λq1=>([(0,.im 1 x.1),(1,.im 12 x.2),(5,I_ q1)],[])) (λp=>([(0,.im 1 x.1),(1,.im 12 x.2),(5,I_ p),(14,B_ false)],[])) (λp=>([(4,B_ false)],[])) n (y4s n x v1)
def y8z (n:Nat) (x:Ycp):Pt P_ Ty_ [] Bool:=.ite ((x.2.length:Int) != (x.1.length:Int)) (.leaf false) (.loopR (V:=Unit) (zo5 n x) () (0:Int) (λ(v1:Unit) (y4:Int)=>.leaf true) λ(v1:Unit) (z1:Unit)=>.leaf false)
def k149 (n:Nat):Con P_ Ty_:=zb (X:=Ycp) (R:=Bool) (pro:=[]) (ztx n) 74 zty (λx=>.two .no (.two .no (.two (.two .no (.two (.loop Unit (zo5 n x) true ⟨[(0,.im 1),(1,.im 12),(5,.any)],[]⟩) .no)) .no))) [.im 1,.im 12] [] [] ⟨[(4,.any)],[]⟩ [] true (λx=>[.im 1 x.1,.im 12 x.2]) (λx=>[]) (λy=>([(4,B_ y)],[])) (λy=>B_ y) (λy=>[]) (y8z n)
def y93 (n:Nat):Cx P_ Ty_:=⟨[k134 n],[],[],[]⟩
abbrev y94:List (List Nat):=[[2,3],[2,3,5],[2,3,5],[2,3,5],[2,3,5],[4],[2,3,31],[4],[2,3,35],[2,3,35],[2,3,35],[2,3,35],[4],[4]]
def zob (x:Yaj) (p:Bool):EH Ty_:=([(2,.pt 2 [] 0 0),(3,.pt 3 [] 0 0),(5,B_ p)],[(2,.lit 4 [[.im 1 x.1.Sign_,.im 2 x.1.Regs_,.im 3 x.1.Slots_,.im 4 x.1.List_]]),(3,.lit 7 [[I_ x.2.Op_,I_ x.2.D_,I_ x.2.A_,I_ x.2.B_,I_ x.2.C_,I_ x.2.N_,.sc (.int .u32 x.2.Bits_)]])])
def zoc (x:Yaj) (p:Bool):EH Ty_:=([(2,.pt 2 [] 0 0),(3,.pt 3 [] 0 0),(5,B_ p)],[(2,.lit 4 [[.im 1 x.1.Sign_,.im 2 x.1.Regs_,.im 3 x.1.Slots_,.im 4 x.1.List_]]),(3,.lit 7 [[I_ x.2.Op_,I_ x.2.D_,I_ x.2.A_,I_ x.2.B_,I_ x.2.C_,I_ x.2.N_,.sc (.int .u32 x.2.Bits_)]])])
def zod (x:Yaj) (p:Bool):EH Ty_:=([(2,.pt 2 [] 0 0),(3,.pt 3 [] 0 0),(35,B_ p)],[(2,.lit 4 [[.im 1 x.1.Sign_,.im 2 x.1.Regs_,.im 3 x.1.Slots_,.im 4 x.1.List_]]),(3,.lit 7 [[I_ x.2.Op_,I_ x.2.D_,I_ x.2.A_,I_ x.2.B_,I_ x.2.C_,I_ x.2.N_,.sc (.int .u32 x.2.Bits_)]])])
def y95 (n:Nat) (x:Yaj):Pt P_ Ty_ [] Int:=.join (S:=Bool) (zoc x) (.join (S:=Bool) (zob x) (.ite (decide (x.2.Op_>=(3:Int))) (.leaf (.inl (decide (x.2.Op_<=(15:Int))))) (.leaf (.inl false))) λs1=>.ite s1 (.leaf (.inl true)) (.ite (x.2.Op_==29) (.leaf (.inl true)) (.ite (x.2.Op_==30) (.leaf (.inl true)) (.leaf (.inl (x.2.Op_==32)))))) λs2=>.ite s2 (.bnd (idx x.1.Regs_ x.2.D_) λy1=>.call (k134 n) (x.1,y1) λ(y2:Int)=>.leaf y2) (.ite (x.2.Op_==16) (.leaf (62:Int)) (.join (S:=Bool) (zod x) (.ite (x.2.Op_==31) (.leaf (.inl true)) (.ite (x.2.Op_==33) (.leaf (.inl true)) (.ite (x.2.Op_==19) (.leaf (.inl true)) (.leaf (.inl (x.2.Op_==20)))))) λs3=>.ite s3 (.bnd (idx x.1.Regs_ x.2.A_) λy3=>.call (k134 n) (x.1,y3) λ(y4:Int)=>.leaf y4) (.leaf (1:Int))))
def k153 (n:Nat):Con P_ Ty_:=zb (X:=Yaj) (R:=Int) (pro:=[]) (y93 n) 75 y94 (λx=>.two .no (.two (.two (.join Bool (zoc x) ⟨[(2,.ref 2),(3,.ref 3),(5,.any)],[(2,.any),(3,.any)]⟩ (.join Bool (zob x) ⟨[(2,.ref 2),(3,.ref 3),(5,.any)],[(2,.any),(3,.any)]⟩ .no .no) (.two .no (.two .no (.two .no (.join Bool (zod x) ⟨[(2,.ref 2),(3,.ref 3),(35,.any)],[(2,.any),(3,.any)]⟩ .no .no))))) .no) .no)) [.ag [.im 1,.im 2,.im 3,.im 4],.ag [.any,.any,.any,.any,.any,.any,.any]] [] [] ⟨[(4,.any)],[]⟩ [] true (λx=>[.ag [.im 1 x.1.Sign_,.im 2 x.1.Regs_,.im 3 x.1.Slots_,.im 4 x.1.List_],.ag [I_ x.2.Op_,I_ x.2.D_,I_ x.2.A_,I_ x.2.B_,I_ x.2.C_,I_ x.2.N_,.sc (.int .u32 x.2.Bits_)]]) (λx=>[]) (λy=>([(4,I_ y)],[])) (λy=>I_ y) (λy=>[]) (y95 n)
def yao (n:Nat):Cx P_ Ty_:=⟨[],[],[],[]⟩
abbrev yap:List (List Nat):=[[0],[3],[3,4],[3,4],[3,4],[3,4],[3,4],[2],[3,10],[3,10],[3,10],[3,10],[3,10],[3,10],[3,10],[2],[18],[2],[2]]
def zp1 (x:Int) (p:Bool):EH Ty_:=([(3,I_ x),(4,B_ p)],[])
def zp2 (x:Int) (p:Bool):EH Ty_:=([(3,I_ x),(10,B_ p)],[])
def yaq (n:Nat) (x:Int):Pt P_ Ty_ [] Int:=.join (S:=Bool) (zp1 x) (.ite (x==3) (.leaf (.inl true)) (.ite (x==11) (.leaf (.inl true)) (.ite (x==12) (.leaf (.inl true)) (.ite (x==13) (.leaf (.inl true)) (.leaf (.inl (x==14))))))) λs1=>.ite s1 (.leaf (1:Int)) (.join (S:=Bool) (zp2 x) (.ite (x==4) (.leaf (.inl true)) (.ite (x==5) (.leaf (.inl true)) (.ite (x==6) (.leaf (.inl true)) (.ite (x==7) (.leaf (.inl true)) (.ite (x==8) (.leaf (.inl true)) (.ite (x==9) (.leaf (.inl true)) (.leaf (.inl (x==10))))))))) λs2=>.ite s2 (.leaf (2:Int)) (.ite (x==15) (.leaf (3:Int)) (.leaf (0:Int))))
def k176 (n:Nat):Con P_ Ty_:=zb (X:=Int) (R:=Int) (pro:=[]) (yao n) 101 yap (λx=>.two .no (.two (.two .no (.two (.join Bool (zp1 x) ⟨[(3,.any),(4,.any)],[]⟩ .no (.two .no (.join Bool (zp2 x) ⟨[(3,.any),(10,.any)],[]⟩ .no .no))) .no)) .no)) [.any] [] [] ⟨[(2,.any)],[]⟩ [] true (λx=>[I_ x]) (λx=>[]) (λy=>([(2,I_ y)],[])) (λy=>I_ y) (λy=>[]) (yaq n)
def yar (n:Nat):Cx P_ Ty_:=⟨[],[],[],[]⟩
abbrev yas:List (List Nat):=[[0,1],[0,1,7],[4],[4]]
def yat (n:Nat) (x:Yau):Pt P_ Ty_ [] Int:=.ite ((x.1.length:Int)==1) (.bnd (idx x.1 (0:Int)) λy1=>.leaf y1) (.bnd (idx x.1 x.2) λy2=>.leaf y2)
def k177 (n:Nat):Con P_ Ty_:=zb (X:=Yau) (R:=Int) (pro:=[]) (yar n) 108 yas (λx=>.no) [.im 6,.any] [] [] ⟨[(4,.any)],[]⟩ [] true (λx=>[.im 6 x.1,I_ x.2]) (λx=>[]) (λy=>([(4,I_ y)],[])) (λy=>I_ y) (λy=>[]) (yat n)
def zuk (n:Nat):Cx P_ Ty_:=⟨[],[],[],[]⟩
abbrev zul:List (List Nat):=[[1,2],[1,2,5],[1,2],[1,2],[2]]
def y55 (n:Nat) (x:Xm) (v1:Unit) (q1:Yaa):Pt P_ Ty_ [] (Bo (Yaa) (Yaa) Empty):=.ite (decide (q1.1<(8388608:Int))) (.leaf (.go ((IntKind.u64.wrap (q1.1 * (2:Int))),(IntKind.i64.wrap (q1.2 - (1:Int)))))) (.leaf (.out (q1.1,q1.2)))
def zp7 (n:Nat) (x:Xm) (v1:Unit):LCon P_ Ty_ []:=lcon (X:=Yaa) (Y:=Yaa) (Z:=Empty) (zuk n) (subC [1,0,0,0] (fnC P_ 128 zul)) (λq1=>.no) 0 false ⟨[(1,.ref 1),(2,.ref 2)],[(1,.any),(2,.any)]⟩ ⟨[(1,.ref 1),(2,.ref 2),(5,.any)],[(1,.any),(2,.any)]⟩ ⟨[],[]⟩ (λq1=>([(1,.pt 1 [] 0 0),(2,.pt 2 [] 0 0)],[(1,.lit 5 [[B_ x.Minus_,.sc (.int .u64 q1.1),I_ q1.2,B_ x.Inf_,B_ x.Nan_]]),(2,.lit 5 [[B_ false,.sc (.int .u64 (0:Int)),I_ (0:Int),B_ false,B_ false]])])) (λp=>([(1,.pt 1 [] 0 0),(2,.pt 2 [] 0 0),(5,B_ false)],[(1,.lit 5 [[B_ x.Minus_,.sc (.int .u64 p.1),I_ p.2,B_ x.Inf_,B_ x.Nan_]]),(2,.lit 5 [[B_ false,.sc (.int .u64 (0:Int)),I_ (0:Int),B_ false,B_ false]])])) (λp=>nomatch p) n (y55 n x v1)
def yay (n:Nat) (x:Xm):Pt P_ Ty_ [] (Yah):=.loop (V:=Unit) (zp7 n x) () (x.M_,x.E_) λ(v1:Unit) (y1:Yaa)=>.leaf (x.Minus_,y1.1,y1.2,x.Inf_,x.Nan_)
def k180 (n:Nat):Con P_ Ty_:=zb (X:=Xm) (R:=Yah) (pro:=[]) (zuk n) 128 zul (λx=>.two .no (.two (.two (.loop Unit (zp7 n x) false ⟨[(1,.ref 1),(2,.ref 2)],[(1,.any),(2,.any)]⟩) .no) .no)) [.ag [.any,.any,.any,.any,.any]] [] [] ⟨[(2,.ref 100000)],[(100000,.any)]⟩ [] true (λx=>[.ag [B_ x.Minus_,.sc (.int .u64 x.M_),I_ x.E_,B_ x.Inf_,B_ x.Nan_]]) (λx=>[]) (λy=>([(2,.pt 100000 [] 0 0)],[(100000,.lit 5 [[B_ y.1,.sc (.int .u64 y.2.1),I_ y.2.2.1,B_ y.p3,B_ y.q4]])])) (λy=>.ag [B_ y.1,.sc (.int .u64 y.2.1),I_ y.2.2.1,B_ y.p3,B_ y.q4]) (λy=>[]) (yay n)
def y9l (n:Nat):Cx P_ Ty_:=⟨[],[],[],[]⟩
abbrev y9m:List (List Nat):=[[0],[3],[2],[2]]
def y9n (n:Nat) (x:Bool):Pt P_ Ty_ [] Int:=.ite x (.leaf (2147483648:Int)) (.leaf (0:Int))
def k161 (n:Nat):Con P_ Ty_:=zb (X:=Bool) (R:=Int) (pro:=[]) (y9l n) 114 y9m (λx=>.no) [.any] [] [] ⟨[(2,.any)],[]⟩ [] true (λx=>[B_ x]) (λx=>[]) (λy=>([(2,.sc (.int .u64 y))],[])) (λy=>.sc (.int .u64 y)) (λy=>[]) (y9n n)
def y9r (n:Nat):Cx P_ Ty_:=⟨[k161 n],[],[],[]⟩
abbrev y9s:List (List Nat):=[[0],[2]]
def y9t (n:Nat) (x:Bool):Pt P_ Ty_ [] Int:=.call (k161 n) x λ(y1:Int)=>.leaf (IntKind.i64.wrap y1)
def k163 (n:Nat):Con P_ Ty_:=zb (X:=Bool) (R:=Int) (pro:=[]) (y9r n) 112 y9s (λx=>.no) [.any] [] [] ⟨[(2,.any)],[]⟩ [] true (λx=>[B_ x]) (λx=>[]) (λy=>([(2,I_ y)],[])) (λy=>I_ y) (λy=>[]) (y9t n)
def zu5 (n:Nat):Cx P_ Ty_:=⟨[],[],[],[]⟩
abbrev zu6:List (List Nat):=[[0],[0,3],[0,3,5],[0,3],[0,3],[2]]
def y50 (n:Nat) (x:Int) (v1:Unit) (q1:Yaa):Pt P_ Ty_ [] (Bo (Yaa) (Yaa) Empty):=.ite (decide (q1.1 > (0:Int))) (.leaf (.go ((q1.1.fdiv (2 ^ min (1:Int).toNat IntKind.u64.bits)),(IntKind.i64.wrap (q1.2+(1:Int)))))) (.leaf (.out (q1.1,q1.2)))
def zok (n:Nat) (x:Int) (v1:Unit):LCon P_ Ty_ []:=lcon (X:=Yaa) (Y:=Yaa) (Z:=Empty) (zu5 n) (subC [1,1,0,0,0] (fnC P_ 102 zu6)) (λq1=>.no) 0 false ⟨[(0,.any),(3,.any)],[]⟩ ⟨[(0,.any),(3,.any),(5,.any)],[]⟩ ⟨[],[]⟩ (λq1=>([(0,.sc (.int .u64 q1.1)),(3,I_ q1.2)],[])) (λp=>([(0,.sc (.int .u64 p.1)),(3,I_ p.2),(5,B_ false)],[])) (λp=>nomatch p) n (y50 n x v1)
def y9b (n:Nat) (x:Int):Pt P_ Ty_ [] Int:=.loop (V:=Unit) (zok n x) () (x,(0:Int)) λ(v1:Unit) (y1:Yaa)=>.leaf y1.2
def k157 (n:Nat):Con P_ Ty_:=zb (X:=Int) (R:=Int) (pro:=[]) (zu5 n) 102 zu6 (λx=>.two .no (.two .no (.two (.two (.loop Unit (zok n x) false ⟨[(0,.any),(3,.any)],[]⟩) .no) .no))) [.any] [] [] ⟨[(2,.any)],[]⟩ [] true (λx=>[.sc (.int .u64 x)]) (λx=>[]) (λy=>([(2,I_ y)],[])) (λy=>I_ y) (λy=>[]) (y9b n)
def y9u (n:Nat):Cx P_ Ty_:=⟨[],[],[],[]⟩
abbrev y9v:List (List Nat):=[[0,1],[0,1,9],[4],[0,1,5],[0,1,5,6],[0,1,5,6,12],[0,1,5],[1,5,6],[5,6,7],[5,39],[5],[4]]
def zop (x:Yaa) (p:Yaa):EH Ty_:=([(1,I_ x.2),(5,.sc (.int .u64 p.1)),(6,.sc (.int .u64 p.2))],[])
def zoq (x:Yaa) (p:Yag):EH Ty_:=([(5,.sc (.int .u64 p.1)),(39,B_ p.2)],[])
def y9w (n:Nat) (x:Yaa):Pt P_ Ty_ [] Int:=.ite (decide (x.2 > (64:Int))) (.leaf (0:Int)) (.join (S:=Yaa) (zop x) (.ite (decide (x.2<(64:Int))) (.need (0<=(IntKind.u64.wrap x.2)) (.need (0<=(IntKind.u64.wrap x.2)) (.leaf (.inl ((x.1.fdiv (2 ^ min (IntKind.u64.wrap x.2).toNat IntKind.u64.bits)),(IntKind.u64.wrap (BitVec.ofInt IntKind.u64.bits x.1 &&& BitVec.ofInt IntKind.u64.bits (IntKind.u64.wrap ((IntKind.u64.wrap ((1:Int) * 2 ^ min (IntKind.u64.wrap x.2).toNat IntKind.u64.bits)) - (1:Int)))).toNat)))))) (.leaf (.inl ((0:Int),x.1)))) λs1=>.need (0<=(IntKind.u64.wrap (IntKind.i64.wrap (x.2 - (1:Int))))) (.join (S:=Yag) (zoq x) (.ite (decide (s1.2 > (IntKind.u64.wrap ((1:Int) * 2 ^ min (IntKind.u64.wrap (IntKind.i64.wrap (x.2 - (1:Int)))).toNat IntKind.u64.bits)))) (.leaf (.inl (s1.1,true))) (.ite (s1.2==(IntKind.u64.wrap ((1:Int) * 2 ^ min (IntKind.u64.wrap (IntKind.i64.wrap (x.2 - (1:Int)))).toNat IntKind.u64.bits))) (.leaf (.inl (s1.1,((s1.1.tmod (2:Int))==1)))) (.leaf (.inl (s1.1,false))))) λs2=>.ite s2.2 (.leaf (IntKind.u64.wrap (s2.1+(1:Int)))) (.leaf s2.1)))
def k164 (n:Nat):Con P_ Ty_:=zb (X:=Yaa) (R:=Int) (pro:=[]) (y9u n) 113 y9v (λx=>.two .no (.two .no (.two .no (.two .no (.join (Yaa) (zop x) ⟨[(1,.any),(5,.any),(6,.any)],[]⟩ .no (.two .no (.two (.join (Yag) (zoq x) ⟨[(5,.any),(39,.any)],[]⟩ .no .no) .no))))))) [.any,.any] [] [] ⟨[(4,.any)],[]⟩ [] true (λx=>[.sc (.int .u64 x.1),I_ x.2]) (λx=>[]) (λy=>([(4,.sc (.int .u64 y))],[])) (λy=>.sc (.int .u64 y)) (λy=>[]) (y9w n)
def y9i (n:Nat):Cx P_ Ty_:=⟨[k161 n],[],[],[]⟩
abbrev y9j:List (List Nat):=[[0],[2]]
def y9k (n:Nat) (x:Bool):Pt P_ Ty_ [] Int:=.call (k161 n) x λ(y1:Int)=>.leaf (IntKind.i64.wrap (IntKind.u64.wrap (y1+(2139095040:Int))))
def k160 (n:Nat):Con P_ Ty_:=zb (X:=Bool) (R:=Int) (pro:=[]) (y9i n) 111 y9j (λx=>.no) [.any] [] [] ⟨[(2,.any)],[]⟩ [] true (λx=>[B_ x]) (λx=>[]) (λy=>([(2,I_ y)],[])) (λy=>I_ y) (λy=>[]) (y9k n)
def y9o (n:Nat):Cx P_ Ty_:=⟨[k163 n,k157 n,k164 n,k161 n,k160 n],[],[],[]⟩
abbrev y9p:List (List Nat):=[[0,1,2],[0,1,2,12],[6],[0,1,2,7],[0,1,7,8],[0,1,7,8],[0,1,7,8,26],[0,7,9],[0,7,9],[0,7,9,36],[0,7,9],[0,7,9],[0,7,9,40],[6],[0,9,10],[0,9,10,49],[6],[6]]
def zon (x:Ybj) (p:Yaa):EH Ty_:=([(0,B_ x.1),(7,I_ p.1),(9,.sc (.int .u64 p.2))],[])
def zoo (x:Ybj) (p:Yaa):EH Ty_:=([(0,B_ x.1),(7,I_ p.1),(9,.sc (.int .u64 p.2))],[])
def y9q (n:Nat) (x:Ybj):Pt P_ Ty_ [] Int:=.ite (x.2.1==0) (.call (k163 n) x.1 λ(y1:Int)=>.leaf y1) (.call (k157 n) x.2.1 λ(y2:Int)=>.join (S:=Yaa) (zon x) (.ite (decide ((IntKind.i64.wrap ((if (-149:Int) > (IntKind.i64.wrap ((IntKind.i64.wrap (x.2.2+y2)) - (24:Int))) then (-149:Int) else (IntKind.i64.wrap ((IntKind.i64.wrap (x.2.2+y2)) - (24:Int)))) - x.2.2))<=(0:Int))) (.need (0<=(IntKind.u64.wrap (IntKind.i64.wrap (0 - (IntKind.i64.wrap ((if (-149:Int) > (IntKind.i64.wrap ((IntKind.i64.wrap (x.2.2+y2)) - (24:Int))) then (-149:Int) else (IntKind.i64.wrap ((IntKind.i64.wrap (x.2.2+y2)) - (24:Int)))) - x.2.2)))))) (.leaf (.inl ((if (-149:Int) > (IntKind.i64.wrap ((IntKind.i64.wrap (x.2.2+y2)) - (24:Int))) then (-149:Int) else (IntKind.i64.wrap ((IntKind.i64.wrap (x.2.2+y2)) - (24:Int)))),(IntKind.u64.wrap (x.2.1 * 2 ^ min (IntKind.u64.wrap (IntKind.i64.wrap (0 - (IntKind.i64.wrap ((if (-149:Int) > (IntKind.i64.wrap ((IntKind.i64.wrap (x.2.2+y2)) - (24:Int))) then (-149:Int) else (IntKind.i64.wrap ((IntKind.i64.wrap (x.2.2+y2)) - (24:Int)))) - x.2.2))))).toNat IntKind.u64.bits)))))) (.call (k164 n) (x.2.1,(IntKind.i64.wrap ((if (-149:Int) > (IntKind.i64.wrap ((IntKind.i64.wrap (x.2.2+y2)) - (24:Int))) then (-149:Int) else (IntKind.i64.wrap ((IntKind.i64.wrap (x.2.2+y2)) - (24:Int)))) - x.2.2))) λ(y3:Int)=>.leaf (.inl ((if (-149:Int) > (IntKind.i64.wrap ((IntKind.i64.wrap (x.2.2+y2)) - (24:Int))) then (-149:Int) else (IntKind.i64.wrap ((IntKind.i64.wrap (x.2.2+y2)) - (24:Int)))),y3)))) λs1=>.join (S:=Yaa) (zoo x) (.ite (s1.2==16777216) (.leaf (.inl ((IntKind.i64.wrap (s1.1+(1:Int))),(8388608:Int)))) (.leaf (.inl (s1.1,s1.2)))) λs2=>.ite (decide (s2.2<(8388608:Int))) (.call (k161 n) x.1 λ(y4:Int)=>.leaf (IntKind.i64.wrap (IntKind.u64.wrap (y4+s2.2)))) (.ite (decide ((IntKind.i64.wrap (s2.1+(150:Int)))>=(255:Int))) (.call (k160 n) x.1 λ(y5:Int)=>.leaf y5) (.call (k161 n) x.1 λ(y6:Int)=>.leaf (IntKind.i64.wrap (IntKind.u64.wrap ((IntKind.u64.wrap ((IntKind.u64.wrap (y6+(IntKind.u64.wrap ((IntKind.u64.wrap (IntKind.i64.wrap (s2.1+(150:Int)))) * 2 ^ min (23:Int).toNat IntKind.u64.bits))))+s2.2)) - (8388608:Int)))))))
def k162 (n:Nat):Con P_ Ty_:=zb (X:=Ybj) (R:=Int) (pro:=[]) (y9o n) 104 y9p (λx=>.two .no (.two .no (.two .no (.two .no (.two .no (.join (Yaa) (zon x) ⟨[(0,.any),(7,.any),(9,.any)],[]⟩ .no (.join (Yaa) (zoo x) ⟨[(0,.any),(7,.any),(9,.any)],[]⟩ .no .no))))))) [.any,.any,.any] [] [] ⟨[(6,.any)],[]⟩ [] true (λx=>[B_ x.1,.sc (.int .u64 x.2.1),I_ x.2.2]) (λx=>[]) (λy=>([(6,I_ y)],[])) (λy=>I_ y) (λy=>[]) (y9q n)
def zui (n:Nat):Cx P_ Ty_:=⟨[k69 n,k180 n,k162 n],[],[],[]⟩
abbrev zuj:List (List Nat):=[[0],[0,3],[0,3,11],[2],[0,3,14],[2],[0,3,24],[2],[0,3,27],[2],[3],[3,4],[4,5],[4,5,41],[4,5],[4,5],[4,5,6],[4,5,6,7],[4,5,6,7,47],[4,5,6,7,58],[4,5,6,7],[4,5,6,7],[4,5,6,8],[5,8,68],[5,8],[2]]
def zp4 (x:Int) (p:Ycw):EH Ty_:=([(0,I_ x),(3,.pt 3 [] 0 0),(14,B_ p.1)],[(3,.lit 5 [[B_ p.2.1,.sc (.int .u64 p.2.2.1),I_ p.p3,B_ p.p4,B_ p.q5]])])
def zp5 (x:Int) (p:Yaa):EH Ty_:=([(4,.sc (.int .u64 p.1)),(5,I_ p.2)],[])
def zp6 (x:Int) (p:Yaa):EH Ty_:=([(5,I_ p.1),(8,.sc (.int .u64 p.2))],[])
def y54 (n:Nat) (x:Int) (v1:Yaa) (q1:Yaa):Pt P_ Ty_ [] (Bo (Yaa) (Yaa) Empty):=.ite (decide (q1.2 > (0:Int))) (.ite (decide ((IntKind.u64.wrap ((IntKind.u64.wrap (q1.1+q1.2)) * (IntKind.u64.wrap (q1.1+q1.2))))<=v1.1)) (.leaf (.go ((IntKind.u64.wrap (q1.1+q1.2)),(IntKind.u64.wrap (q1.2.tdiv (2:Int)))))) (.leaf (.go (q1.1,(IntKind.u64.wrap (q1.2.tdiv (2:Int))))))) (.leaf (.out (q1.1,q1.2)))
def zp3 (n:Nat) (x:Int) (v1:Yaa):LCon P_ Ty_ []:=lcon (X:=Yaa) (Y:=Yaa) (Z:=Empty) (zui n) (subC [1,1,1,1,1,1,1,1,0,1,0,0] (fnC P_ 118 zuj)) (λq1=>.no) 1 false ⟨[(4,.any),(5,.any),(6,.any),(7,.any)],[]⟩ ⟨[(4,.any),(5,.any),(6,.any),(7,.any),(47,.any)],[]⟩ ⟨[],[]⟩ (λq1=>([(4,.sc (.int .u64 v1.1)),(5,I_ v1.2),(6,.sc (.int .u64 q1.1)),(7,.sc (.int .u64 q1.2))],[])) (λp=>([(4,.sc (.int .u64 v1.1)),(5,I_ v1.2),(6,.sc (.int .u64 p.1)),(7,.sc (.int .u64 p.2)),(47,B_ false)],[])) (λp=>nomatch p) n (y54 n x v1)
def yax (n:Nat) (x:Int):Pt P_ Ty_ [] Int:=.call (k69 n) x λ(y1:Yah)=>.ite y1.q4 (.leaf (2143289344:Int)) (.join (S:=Ycw) (zp4 x) (.ite (!y1.p3) (.leaf (.inl ((y1.2.1==0),y1.1,y1.2.1,y1.2.2.1,y1.p3,y1.q4))) (.leaf (.inl (false,y1.1,y1.2.1,y1.2.2.1,y1.p3,y1.q4)))) λs1=>.ite s1.1 (.leaf x) (.ite s1.2.1 (.leaf (2143289344:Int)) (.ite s1.p4 (.leaf x) (.call (k180 n) (⟨s1.2.1,s1.2.2.1,s1.p3,s1.p4,s1.q5⟩:Xm) λ(y2:Yah)=>.join (S:=Yaa) (zp5 x) (.ite (((IntKind.i64.wrap (y2.2.2.1 - (36:Int))).tmod (2:Int)) != (0:Int)) (.leaf (.inl ((IntKind.u64.wrap ((IntKind.u64.wrap (y2.2.1 * 2 ^ min (36:Int).toNat IntKind.u64.bits)) * (2:Int))),(IntKind.i64.wrap ((IntKind.i64.wrap (y2.2.2.1 - (36:Int))) - (1:Int)))))) (.leaf (.inl ((IntKind.u64.wrap (y2.2.1 * 2 ^ min (36:Int).toNat IntKind.u64.bits)),(IntKind.i64.wrap (y2.2.2.1 - (36:Int))))))) λs2=>.loop (V:=Yaa) (zp3 n x) (s2.1,s2.2) ((0:Int),(2147483648:Int)) λ(v1:Yaa) (y3:Yaa)=>.join (S:=Yaa) (zp6 x) (.ite (decide ((IntKind.u64.wrap (y3.1 * y3.1))<v1.1)) (.leaf (.inl (v1.2,(IntKind.u64.wrap ((IntKind.u64.wrap (y3.1 * (2:Int)))+(1:Int)))))) (.leaf (.inl (v1.2,(IntKind.u64.wrap (y3.1 * (2:Int))))))) λs3=>.call (k162 n) (false,s3.2,(IntKind.i64.wrap ((IntKind.i64.wrap (s3.1.tdiv (2:Int))) - (1:Int)))) λ(y4:Int)=>.leaf y4))))
def k179 (n:Nat):Con P_ Ty_:=zb (X:=Int) (R:=Int) (pro:=[]) (zui n) 118 zuj (λx=>.two .no (.two .no (.two (.two (.two .no (.two .no (.join (Ycw) (zp4 x) ⟨[(0,.any),(3,.ref 3),(14,.any)],[(3,.any)]⟩ .no .no))) .no) (.two .no (.two .no (.two .no (.join (Yaa) (zp5 x) ⟨[(4,.any),(5,.any)],[]⟩ .no (.two .no (.two (.two .no (.two (.loop (Yaa) (zp3 n x) false ⟨[(4,.any),(5,.any),(6,.any),(7,.any)],[]⟩) .no)) (.two .no (.join (Yaa) (zp6 x) ⟨[(5,.any),(8,.any)],[]⟩ .no .no))))))))))) [.any] [] [] ⟨[(2,.any)],[]⟩ [] true (λx=>[I_ x]) (λx=>[]) (λy=>([(2,I_ y)],[])) (λy=>I_ y) (λy=>[]) (yax n)
def yaz (n:Nat):Cx P_ Ty_:=⟨[k69 n],[],[],[]⟩
abbrev yb0:List (List Nat):=[[0],[0,5],[2],[2]]
def yb1 (n:Nat) (x:Int):Pt P_ Ty_ [] Int:=.call (k69 n) x λ(y1:Yah)=>.ite y1.q4 (.leaf (2143289344:Int)) (.leaf (IntKind.i64.wrap (BitVec.ofInt IntKind.i64.bits x ^^^ BitVec.ofInt IntKind.i64.bits (2147483648:Int)).toNat))
def k181 (n:Nat):Con P_ Ty_:=zb (X:=Int) (R:=Int) (pro:=[]) (yaz n) 119 yb0 (λx=>.no) [.any] [] [] ⟨[(2,.any)],[]⟩ [] true (λx=>[I_ x]) (λx=>[]) (λy=>([(2,I_ y)],[])) (λy=>I_ y) (λy=>[]) (yb1 n)
def yb2 (n:Nat):Cx P_ Ty_:=⟨[k69 n],[],[],[]⟩
abbrev yb3:List (List Nat):=[[0],[0,5],[2],[2]]
def yb4 (n:Nat) (x:Int):Pt P_ Ty_ [] Int:=.call (k69 n) x λ(y1:Yah)=>.ite y1.q4 (.leaf (2143289344:Int)) (.leaf (IntKind.i64.wrap (BitVec.ofInt IntKind.i64.bits x &&& ~~~BitVec.ofInt IntKind.i64.bits (2147483648:Int)).toNat))
def k182 (n:Nat):Con P_ Ty_:=zb (X:=Int) (R:=Int) (pro:=[]) (yb2 n) 120 yb3 (λx=>.no) [.any] [] [] ⟨[(2,.any)],[]⟩ [] true (λx=>[I_ x]) (λx=>[]) (λy=>([(2,I_ y)],[])) (λy=>I_ y) (λy=>[]) (yb4 n)
def yb5 (n:Nat):Cx P_ Ty_:=⟨[],[],[],[]⟩
abbrev yb6:List (List Nat):=[[0],[2]]
def yb7 (n:Nat) (x:Int):Pt P_ Ty_ [] Bool:=.leaf (decide ((x.tmod (2147483648:Int))<(2139095040:Int)))
def k183 (n:Nat):Con P_ Ty_:=zb (X:=Int) (R:=Bool) (pro:=[]) (yb5 n) 122 yb6 (λx=>.no) [.any] [] [] ⟨[(2,.any)],[]⟩ [] true (λx=>[I_ x]) (λx=>[]) (λy=>([(2,B_ y)],[])) (λy=>B_ y) (λy=>[]) (yb7 n)
def yb8 (n:Nat):Cx P_ Ty_:=⟨[],[],[],[]⟩
abbrev yb9:List (List Nat):=[[0],[3],[2],[2]]
def yba (n:Nat) (x:Bool):Pt P_ Ty_ [] Int:=.ite x (.leaf (1065353216:Int)) (.leaf (0:Int))
def k184 (n:Nat):Con P_ Ty_:=zb (X:=Bool) (R:=Int) (pro:=[]) (yb8 n) 121 yb9 (λx=>.no) [.any] [] [] ⟨[(2,.any)],[]⟩ [] true (λx=>[B_ x]) (λx=>[]) (λy=>([(2,I_ y)],[])) (λy=>I_ y) (λy=>[]) (yba n)
def y9f (n:Nat):Cx P_ Ty_:=⟨[],[],[],[]⟩
abbrev y9g:List (List Nat):=[[2,3],[4]]
def y9h (n:Nat) (x:Xm×Xm):Pt P_ Ty_ [] Bool:=.ite x.1.Nan_ (.leaf true) (.leaf x.2.Nan_)
def k159 (n:Nat):Con P_ Ty_:=zb (X:=Xm×Xm) (R:=Bool) (pro:=[]) (y9f n) 110 y9g (λx=>.no) [.ag [.any,.any,.any,.any,.any],.ag [.any,.any,.any,.any,.any]] [] [] ⟨[(4,.any)],[]⟩ [] true (λx=>[.ag [B_ x.1.Minus_,.sc (.int .u64 x.1.M_),I_ x.1.E_,B_ x.1.Inf_,B_ x.1.Nan_],.ag [B_ x.2.Minus_,.sc (.int .u64 x.2.M_),I_ x.2.E_,B_ x.2.Inf_,B_ x.2.Nan_]]) (λx=>[]) (λy=>([(4,B_ y)],[])) (λy=>B_ y) (λy=>[]) (y9h n)
def ya7 (n:Nat):Cx P_ Ty_:=⟨[k163 n,k162 n],[],[],[]⟩
abbrev ya8:List (List Nat):=[[2,3],[2,3,5],[2,3,5],[2,3,5,7],[2,3,5,7,16],[2,3,6,7],[2,3,6],[2,3,6,7],[2,3,6,7],[3,6,7,32],[3,6,7],[3,6,7,36],[6,7],[6,7],[6,7,48],[4],[6,7,51],[4],[4]]
def zov (x:Xm×Xm) (p:Yao):EH Ty_:=([(2,.pt 2 [] 0 0),(3,.pt 3 [] 0 0),(6,I_ p.1),(7,I_ p.2.1)],[(2,.lit 5 [[B_ x.1.Minus_,.sc (.int .u64 x.1.M_),I_ x.1.E_,B_ x.1.Inf_,B_ x.1.Nan_]]),(3,.lit 5 [[B_ x.2.Minus_,.sc (.int .u64 p.2.2),I_ x.2.E_,B_ x.2.Inf_,B_ x.2.Nan_]])])
def zow (x:Xm×Xm) (p:Yao):EH Ty_:=([(3,.pt 3 [] 0 0),(6,I_ p.1),(7,I_ p.2.1)],[(3,.lit 5 [[B_ x.2.Minus_,.sc (.int .u64 p.2.2),I_ x.2.E_,B_ x.2.Inf_,B_ x.2.Nan_]])])
def zox (x:Xm×Xm) (p:Yaa):EH Ty_:=([(6,I_ p.1),(7,I_ p.2)],[])
def ya9 (n:Nat) (x:Xm×Xm):Pt P_ Ty_ [] Int:=.join (S:=Yao) (zov x) (.ite (decide ((IntKind.i64.wrap (x.1.E_ - x.2.E_))<=(36:Int))) (.need (0<=(IntKind.u64.wrap (IntKind.i64.wrap (x.1.E_ - x.2.E_)))) (.leaf (.inl ((IntKind.i64.wrap (IntKind.u64.wrap (x.1.M_ * 2 ^ min (IntKind.u64.wrap (IntKind.i64.wrap (x.1.E_ - x.2.E_))).toNat IntKind.u64.bits))),x.2.E_,x.2.M_)))) (.leaf (.inl ((IntKind.i64.wrap (IntKind.u64.wrap (x.1.M_ * 2 ^ min (36:Int).toNat IntKind.u64.bits))),(IntKind.i64.wrap (x.1.E_ - (36:Int))),(1:Int))))) λs1=>.join (S:=Yao) (zow x) (.ite x.1.Minus_ (.leaf (.inl ((IntKind.i64.wrap (0 - s1.1)),s1.2.1,s1.2.2))) (.leaf (.inl (s1.1,s1.2.1,s1.2.2)))) λs2=>.join (S:=Yaa) (zox x) (.ite x.2.Minus_ (.leaf (.inl ((IntKind.i64.wrap (s2.1 - (IntKind.i64.wrap s2.2.2))),s2.2.1))) (.leaf (.inl ((IntKind.i64.wrap (s2.1+(IntKind.i64.wrap s2.2.2))),s2.2.1)))) λs3=>.ite (s3.1==0) (.call (k163 n) false λ(y1:Int)=>.leaf y1) (.ite (decide (s3.1<(0:Int))) (.call (k162 n) (true,(IntKind.u64.wrap (IntKind.i64.wrap (0 - s3.1))),s3.2) λ(y2:Int)=>.leaf y2) (.call (k162 n) (false,(IntKind.u64.wrap s3.1),s3.2) λ(y3:Int)=>.leaf y3))
def k169 (n:Nat):Con P_ Ty_:=zb (X:=Xm×Xm) (R:=Int) (pro:=[]) (ya7 n) 115 ya8 (λx=>.two .no (.two .no (.two .no (.two .no (.join (Yao) (zov x) ⟨[(2,.ref 2),(3,.ref 3),(6,.any),(7,.any)],[(2,.any),(3,.any)]⟩ .no (.join (Yao) (zow x) ⟨[(3,.ref 3),(6,.any),(7,.any)],[(3,.any)]⟩ .no (.join (Yaa) (zox x) ⟨[(6,.any),(7,.any)],[]⟩ .no .no))))))) [.ag [.any,.any,.any,.any,.any],.ag [.any,.any,.any,.any,.any]] [] [] ⟨[(4,.any)],[]⟩ [] true (λx=>[.ag [B_ x.1.Minus_,.sc (.int .u64 x.1.M_),I_ x.1.E_,B_ x.1.Inf_,B_ x.1.Nan_],.ag [B_ x.2.Minus_,.sc (.int .u64 x.2.M_),I_ x.2.E_,B_ x.2.Inf_,B_ x.2.Nan_]]) (λx=>[]) (λy=>([(4,I_ y)],[])) (λy=>I_ y) (λy=>[]) (ya9 n)
def ya4 (n:Nat):Cx P_ Ty_:=⟨[k69 n,k159 n,k160 n,k163 n,k162 n,k169 n],[],[],[]⟩
abbrev ya5:List (List Nat):=[[0,1],[1,5],[5,6],[5,6,11],[4],[5,6,30],[4],[5,6,36],[4],[5,6,42],[4],[5,6,58],[4],[5,6,69],[4],[5,6,84],[5,6],[4]]
def zos (x:Yaa) (p:Ybx):EH Ty_:=([(5,.pt 5 [] 0 0),(6,.pt 6 [] 0 0),(11,B_ p.1)],[(5,.lit 5 [[B_ p.2.1,.sc (.int .u64 p.2.2.1),I_ p.p3,B_ p.p4,B_ p.p5]]),(6,.lit 5 [[B_ p.p6,.sc (.int .u64 p.p7),I_ p.p8,B_ p.p9,B_ p.q10]])])
def zot (x:Yaa) (p:Ybx):EH Ty_:=([(5,.pt 5 [] 0 0),(6,.pt 6 [] 0 0),(42,B_ p.1)],[(5,.lit 5 [[B_ p.2.1,.sc (.int .u64 p.2.2.1),I_ p.p3,B_ p.p4,B_ p.p5]]),(6,.lit 5 [[B_ p.p6,.sc (.int .u64 p.p7),I_ p.p8,B_ p.p9,B_ p.q10]])])
def zou (x:Yaa) (p:Ycx):EH Ty_:=([(5,.pt 5 [] 0 0),(6,.pt 6 [] 0 0)],[(5,.lit 5 [[B_ p.1,.sc (.int .u64 p.2.1),I_ p.2.2.1,B_ p.p3,B_ p.p4]]),(6,.lit 5 [[B_ p.p5,.sc (.int .u64 p.p6),I_ p.p7,B_ p.p8,B_ p.q9]])])
def ya6 (n:Nat) (x:Yaa):Pt P_ Ty_ [] Int:=.call (k69 n) x.1 λ(y1:Yah)=>.call (k69 n) x.2 λ(y2:Yah)=>.join (S:=Ybx) (zos x) (.call (k159 n) ((⟨y1.1,y1.2.1,y1.2.2.1,y1.p3,y1.q4⟩:Xm),(⟨y2.1,y2.2.1,y2.2.2.1,y2.p3,y2.q4⟩:Xm)) λ(y3:Bool)=>.ite y3 (.leaf (.inl (true,y1.1,y1.2.1,y1.2.2.1,y1.p3,y1.q4,y2.1,y2.2.1,y2.2.2.1,y2.p3,y2.q4))) (.ite y1.p3 (.ite y2.p3 (.leaf (.inl ((y1.1 != y2.1),y1.1,y1.2.1,y1.2.2.1,y1.p3,y1.q4,y2.1,y2.2.1,y2.2.2.1,y2.p3,y2.q4))) (.leaf (.inl (false,y1.1,y1.2.1,y1.2.2.1,y1.p3,y1.q4,y2.1,y2.2.1,y2.2.2.1,y2.p3,y2.q4)))) (.leaf (.inl (false,y1.1,y1.2.1,y1.2.2.1,y1.p3,y1.q4,y2.1,y2.2.1,y2.2.2.1,y2.p3,y2.q4))))) λs1=>.ite s1.1 (.leaf (2143289344:Int)) (.ite s1.p4 (.call (k160 n) s1.2.1 λ(y4:Int)=>.leaf y4) (.ite s1.p9 (.call (k160 n) s1.p6 λ(y5:Int)=>.leaf y5) (.join (S:=Ybx) (zot x) (.ite (s1.2.2.1==0) (.leaf (.inl ((s1.p7==0),s1.2.1,s1.2.2.1,s1.p3,s1.p4,s1.p5,s1.p6,s1.p7,s1.p8,s1.p9,s1.q10))) (.leaf (.inl (false,s1.2.1,s1.2.2.1,s1.p3,s1.p4,s1.p5,s1.p6,s1.p7,s1.p8,s1.p9,s1.q10)))) λs2=>.ite s2.1 (.ite s2.2.1 (.call (k163 n) s2.p6 λ(y6:Int)=>.leaf y6) (.call (k163 n) false λ(y7:Int)=>.leaf y7)) (.ite (s2.2.2.1==0) (.call (k162 n) (s2.p6,s2.p7,s2.p8) λ(y8:Int)=>.leaf y8) (.ite (s2.p7==0) (.call (k162 n) (s2.2.1,s2.2.2.1,s2.p3) λ(y9:Int)=>.leaf y9) (.join (S:=Ycx) (zou x) (.ite (decide (s2.p3<s2.p8)) (.leaf (.inl (s2.p6,s2.p7,s2.p8,s2.p9,s2.q10,s2.2.1,s2.2.2.1,s2.p3,s2.p4,s2.p5))) (.leaf (.inl (s2.2.1,s2.2.2.1,s2.p3,s2.p4,s2.p5,s2.p6,s2.p7,s2.p8,s2.p9,s2.q10)))) λs3=>.call (k169 n) ((⟨s3.1,s3.2.1,s3.2.2.1,s3.p3,s3.p4⟩:Xm),(⟨s3.p5,s3.p6,s3.p7,s3.p8,s3.q9⟩:Xm)) λ(y10:Int)=>.leaf y10))))))
def k168 (n:Nat):Con P_ Ty_:=zb (X:=Yaa) (R:=Int) (pro:=[]) (ya4 n) 105 ya5 (λx=>.two .no (.two .no (.two .no (.two (.two (.join (Ybx) (zos x) ⟨[(5,.ref 5),(6,.ref 6),(11,.any)],[(5,.any),(6,.any)]⟩ .no (.two .no (.two .no (.two .no (.two .no (.two .no (.join (Ybx) (zot x) ⟨[(5,.ref 5),(6,.ref 6),(42,.any)],[(5,.any),(6,.any)]⟩ .no .no))))))) .no) (.join (Ycx) (zou x) ⟨[(5,.ref 5),(6,.ref 6)],[(5,.any),(6,.any)]⟩ .no .no))))) [.any,.any] [] [] ⟨[(4,.any)],[]⟩ [] true (λx=>[I_ x.1,I_ x.2]) (λx=>[]) (λy=>([(4,I_ y)],[])) (λy=>I_ y) (λy=>[]) (ya6 n)
def ybb (n:Nat):Cx P_ Ty_:=⟨[k181 n,k168 n],[],[],[]⟩
abbrev ybc:List (List Nat):=[[0,1],[4]]
def ybd (n:Nat) (x:Yaa):Pt P_ Ty_ [] Int:=.call (k181 n) x.2 λ(y1:Int)=>.call (k168 n) (x.1,y1) λ(y2:Int)=>.leaf y2
def k185 (n:Nat):Con P_ Ty_:=zb (X:=Yaa) (R:=Int) (pro:=[]) (ybb n) 123 ybc (λx=>.no) [.any,.any] [] [] ⟨[(4,.any)],[]⟩ [] true (λx=>[I_ x.1,I_ x.2]) (λx=>[]) (λy=>([(4,I_ y)],[])) (λy=>I_ y) (λy=>[]) (ybd n)
def y9c (n:Nat):Cx P_ Ty_:=⟨[k69 n,k159 n,k160 n,k162 n],[],[],[]⟩
abbrev y9d:List (List Nat):=[[0,1],[1,5],[5,6],[5,6,7],[5,6,7,17],[4],[5,6,7,49],[4],[4]]
def zol (x:Yaa) (p:Yap):EH Ty_:=([(5,.pt 5 [] 0 0),(6,.pt 6 [] 0 0),(7,B_ p.1),(17,B_ p.2.1)],[(5,.lit 5 [[B_ p.2.2.1,.sc (.int .u64 p.p3),I_ p.p4,B_ p.p5,B_ p.p6]]),(6,.lit 5 [[B_ p.p7,.sc (.int .u64 p.p8),I_ p.p9,B_ p.p10,B_ p.q11]])])
def zom (x:Yaa) (p:Yap):EH Ty_:=([(5,.pt 5 [] 0 0),(6,.pt 6 [] 0 0),(7,B_ p.1),(49,B_ p.2.1)],[(5,.lit 5 [[B_ p.2.2.1,.sc (.int .u64 p.p3),I_ p.p4,B_ p.p5,B_ p.p6]]),(6,.lit 5 [[B_ p.p7,.sc (.int .u64 p.p8),I_ p.p9,B_ p.p10,B_ p.q11]])])
def y9e (n:Nat) (x:Yaa):Pt P_ Ty_ [] Int:=.call (k69 n) x.1 λ(y1:Yah)=>.call (k69 n) x.2 λ(y2:Yah)=>.join (S:=Yap) (zol x) (.call (k159 n) ((⟨y1.1,y1.2.1,y1.2.2.1,y1.p3,y1.q4⟩:Xm),(⟨y2.1,y2.2.1,y2.2.2.1,y2.p3,y2.q4⟩:Xm)) λ(y3:Bool)=>.ite y3 (.leaf (.inl ((y1.1 != y2.1),true,y1.1,y1.2.1,y1.2.2.1,y1.p3,y1.q4,y2.1,y2.2.1,y2.2.2.1,y2.p3,y2.q4))) (.ite y1.p3 (.ite (!y2.p3) (.ite (y2.2.1==0) (.leaf (.inl ((y1.1 != y2.1),true,y1.1,y1.2.1,y1.2.2.1,y1.p3,y1.q4,y2.1,y2.2.1,y2.2.2.1,y2.p3,y2.q4))) (.ite y2.p3 (.ite (!y1.p3) (.leaf (.inl ((y1.1 != y2.1),(y1.2.1==0),y1.1,y1.2.1,y1.2.2.1,y1.p3,y1.q4,y2.1,y2.2.1,y2.2.2.1,y2.p3,y2.q4))) (.leaf (.inl ((y1.1 != y2.1),false,y1.1,y1.2.1,y1.2.2.1,y1.p3,y1.q4,y2.1,y2.2.1,y2.2.2.1,y2.p3,y2.q4)))) (.leaf (.inl ((y1.1 != y2.1),false,y1.1,y1.2.1,y1.2.2.1,y1.p3,y1.q4,y2.1,y2.2.1,y2.2.2.1,y2.p3,y2.q4))))) (.ite y2.p3 (.ite (!y1.p3) (.leaf (.inl ((y1.1 != y2.1),(y1.2.1==0),y1.1,y1.2.1,y1.2.2.1,y1.p3,y1.q4,y2.1,y2.2.1,y2.2.2.1,y2.p3,y2.q4))) (.leaf (.inl ((y1.1 != y2.1),false,y1.1,y1.2.1,y1.2.2.1,y1.p3,y1.q4,y2.1,y2.2.1,y2.2.2.1,y2.p3,y2.q4)))) (.leaf (.inl ((y1.1 != y2.1),false,y1.1,y1.2.1,y1.2.2.1,y1.p3,y1.q4,y2.1,y2.2.1,y2.2.2.1,y2.p3,y2.q4))))) (.ite y2.p3 (.ite (!y1.p3) (.leaf (.inl ((y1.1 != y2.1),(y1.2.1==0),y1.1,y1.2.1,y1.2.2.1,y1.p3,y1.q4,y2.1,y2.2.1,y2.2.2.1,y2.p3,y2.q4))) (.leaf (.inl ((y1.1 != y2.1),false,y1.1,y1.2.1,y1.2.2.1,y1.p3,y1.q4,y2.1,y2.2.1,y2.2.2.1,y2.p3,y2.q4)))) (.leaf (.inl ((y1.1 != y2.1),false,y1.1,y1.2.1,y1.2.2.1,y1.p3,y1.q4,y2.1,y2.2.1,y2.2.2.1,y2.p3,y2.q4)))))) λs1=>.ite s1.2.1 (.leaf (2143289344:Int)) (.join (S:=Yap) (zom x) (.ite s1.p5 (.leaf (.inl (s1.1,true,s1.2.2.1,s1.p3,s1.p4,s1.p5,s1.p6,s1.p7,s1.p8,s1.p9,s1.p10,s1.q11))) (.leaf (.inl (s1.1,s1.p10,s1.2.2.1,s1.p3,s1.p4,s1.p5,s1.p6,s1.p7,s1.p8,s1.p9,s1.p10,s1.q11)))) λs2=>.ite s2.2.1 (.call (k160 n) s2.1 λ(y4:Int)=>.leaf y4) (.call (k162 n) (s2.1,(IntKind.u64.wrap (s2.p3 * s2.p8)),(IntKind.i64.wrap (s2.p4+s2.p9))) λ(y5:Int)=>.leaf y5))
def k158 (n:Nat):Con P_ Ty_:=zb (X:=Yaa) (R:=Int) (pro:=[]) (y9c n) 103 y9d (λx=>.two .no (.two .no (.two .no (.two .no (.two (.two (.join (Yap) (zol x) ⟨[(5,.ref 5),(6,.ref 6),(7,.any),(17,.any)],[(5,.any),(6,.any)]⟩ .no (.two .no (.join (Yap) (zom x) ⟨[(5,.ref 5),(6,.ref 6),(7,.any),(49,.any)],[(5,.any),(6,.any)]⟩ .no .no))) .no) .no))))) [.any,.any] [] [] ⟨[(4,.any)],[]⟩ [] true (λx=>[I_ x.1,I_ x.2]) (λx=>[]) (λy=>([(4,I_ y)],[])) (λy=>I_ y) (λy=>[]) (y9e n)
def ybe (n:Nat):Cx P_ Ty_:=⟨[k69 n,k159 n,k160 n,k163 n,k180 n,k162 n],[],[],[]⟩
abbrev ybf:List (List Nat):=[[0,1],[1,5],[5,6],[5,6,7],[5,6,7,20],[4],[5,6,7,52],[4],[5,6,7,67],[4],[5,6,7],[5,6,7],[5,6,7,8],[5,6,7,8,9],[5,6,7,9,10],[5,6,7,9,10],[5,6,7,9,95],[5,6,7,9],[4]]
def zp8 (x:Yaa) (p:Yap):EH Ty_:=([(5,.pt 5 [] 0 0),(6,.pt 6 [] 0 0),(7,B_ p.1),(20,B_ p.2.1)],[(5,.lit 5 [[B_ p.2.2.1,.sc (.int .u64 p.p3),I_ p.p4,B_ p.p5,B_ p.p6]]),(6,.lit 5 [[B_ p.p7,.sc (.int .u64 p.p8),I_ p.p9,B_ p.p10,B_ p.q11]])])
def zp9 (x:Yaa) (p:Yap):EH Ty_:=([(5,.pt 5 [] 0 0),(6,.pt 6 [] 0 0),(7,B_ p.1),(52,B_ p.2.1)],[(5,.lit 5 [[B_ p.2.2.1,.sc (.int .u64 p.p3),I_ p.p4,B_ p.p5,B_ p.p6]]),(6,.lit 5 [[B_ p.p7,.sc (.int .u64 p.p8),I_ p.p9,B_ p.p10,B_ p.q11]])])
def zpa (x:Yaa) (p:Yap):EH Ty_:=([(5,.pt 5 [] 0 0),(6,.pt 6 [] 0 0),(7,B_ p.1),(67,B_ p.2.1)],[(5,.lit 5 [[B_ p.2.2.1,.sc (.int .u64 p.p3),I_ p.p4,B_ p.p5,B_ p.p6]]),(6,.lit 5 [[B_ p.p7,.sc (.int .u64 p.p8),I_ p.p9,B_ p.p10,B_ p.q11]])])
def zpb (x:Yaa) (p:Ycy):EH Ty_:=([(5,.pt 5 [] 0 0),(6,.pt 6 [] 0 0),(7,B_ p.1),(9,.sc (.int .u64 p.2.1))],[(5,.lit 5 [[B_ p.2.2.1,.sc (.int .u64 p.p3),I_ p.p4,B_ p.p5,B_ p.p6]]),(6,.lit 5 [[B_ p.p7,.sc (.int .u64 p.p8),I_ p.p9,B_ p.p10,B_ p.q11]])])
def ybg (n:Nat) (x:Yaa):Pt P_ Ty_ [] Int:=.call (k69 n) x.1 λ(y1:Yah)=>.call (k69 n) x.2 λ(y2:Yah)=>.join (S:=Yap) (zp8 x) (.call (k159 n) ((⟨y1.1,y1.2.1,y1.2.2.1,y1.p3,y1.q4⟩:Xm),(⟨y2.1,y2.2.1,y2.2.2.1,y2.p3,y2.q4⟩:Xm)) λ(y3:Bool)=>.ite y3 (.leaf (.inl ((y1.1 != y2.1),true,y1.1,y1.2.1,y1.2.2.1,y1.p3,y1.q4,y2.1,y2.2.1,y2.2.2.1,y2.p3,y2.q4))) (.ite y1.p3 (.ite y2.p3 (.leaf (.inl ((y1.1 != y2.1),true,y1.1,y1.2.1,y1.2.2.1,y1.p3,y1.q4,y2.1,y2.2.1,y2.2.2.1,y2.p3,y2.q4))) (.ite (!y1.p3) (.ite (!y2.p3) (.ite (y1.2.1==0) (.leaf (.inl ((y1.1 != y2.1),(y2.2.1==0),y1.1,y1.2.1,y1.2.2.1,y1.p3,y1.q4,y2.1,y2.2.1,y2.2.2.1,y2.p3,y2.q4))) (.leaf (.inl ((y1.1 != y2.1),false,y1.1,y1.2.1,y1.2.2.1,y1.p3,y1.q4,y2.1,y2.2.1,y2.2.2.1,y2.p3,y2.q4)))) (.leaf (.inl ((y1.1 != y2.1),false,y1.1,y1.2.1,y1.2.2.1,y1.p3,y1.q4,y2.1,y2.2.1,y2.2.2.1,y2.p3,y2.q4)))) (.leaf (.inl ((y1.1 != y2.1),false,y1.1,y1.2.1,y1.2.2.1,y1.p3,y1.q4,y2.1,y2.2.1,y2.2.2.1,y2.p3,y2.q4))))) (.ite (!y1.p3) (.ite (!y2.p3) (.ite (y1.2.1==0) (.leaf (.inl ((y1.1 != y2.1),(y2.2.1==0),y1.1,y1.2.1,y1.2.2.1,y1.p3,y1.q4,y2.1,y2.2.1,y2.2.2.1,y2.p3,y2.q4))) (.leaf (.inl ((y1.1 != y2.1),false,y1.1,y1.2.1,y1.2.2.1,y1.p3,y1.q4,y2.1,y2.2.1,y2.2.2.1,y2.p3,y2.q4)))) (.leaf (.inl ((y1.1 != y2.1),false,y1.1,y1.2.1,y1.2.2.1,y1.p3,y1.q4,y2.1,y2.2.1,y2.2.2.1,y2.p3,y2.q4)))) (.leaf (.inl ((y1.1 != y2.1),false,y1.1,y1.2.1,y1.2.2.1,y1.p3,y1.q4,y2.1,y2.2.1,y2.2.2.1,y2.p3,y2.q4)))))) λs1=>.ite s1.2.1 (.leaf (2143289344:Int)) (.join (S:=Yap) (zp9 x) (.ite s1.p5 (.leaf (.inl (s1.1,true,s1.2.2.1,s1.p3,s1.p4,s1.p5,s1.p6,s1.p7,s1.p8,s1.p9,s1.p10,s1.q11))) (.ite (!s1.p10) (.leaf (.inl (s1.1,(s1.p8==0),s1.2.2.1,s1.p3,s1.p4,s1.p5,s1.p6,s1.p7,s1.p8,s1.p9,s1.p10,s1.q11))) (.leaf (.inl (s1.1,false,s1.2.2.1,s1.p3,s1.p4,s1.p5,s1.p6,s1.p7,s1.p8,s1.p9,s1.p10,s1.q11))))) λs2=>.ite s2.2.1 (.call (k160 n) s2.1 λ(y4:Int)=>.leaf y4) (.join (S:=Yap) (zpa x) (.ite s2.p10 (.leaf (.inl (s2.1,true,s2.2.2.1,s2.p3,s2.p4,s2.p5,s2.p6,s2.p7,s2.p8,s2.p9,s2.p10,s2.q11))) (.leaf (.inl (s2.1,(s2.p3==0),s2.2.2.1,s2.p3,s2.p4,s2.p5,s2.p6,s2.p7,s2.p8,s2.p9,s2.p10,s2.q11)))) λs3=>.ite s3.2.1 (.call (k163 n) s3.1 λ(y5:Int)=>.leaf y5) (.call (k180 n) (⟨s3.2.2.1,s3.p3,s3.p4,s3.p5,s3.p6⟩:Xm) λ(y6:Yah)=>.call (k180 n) (⟨s3.p7,s3.p8,s3.p9,s3.p10,s3.q11⟩:Xm) λ(y7:Yah)=>.need (y7.2.1≠0) (.need (y7.2.1≠0) (.join (S:=Ycy) (zpb x) (.ite (decide (((IntKind.u64.wrap (y6.2.1 * 2 ^ min (38:Int).toNat IntKind.u64.bits)).tmod y7.2.1) > (0:Int))) (.leaf (.inl (s3.1,(IntKind.u64.wrap ((IntKind.u64.wrap ((IntKind.u64.wrap ((IntKind.u64.wrap (y6.2.1 * 2 ^ min (38:Int).toNat IntKind.u64.bits)).tdiv y7.2.1)) * (2:Int)))+(1:Int))),y6.1,y6.2.1,y6.2.2.1,y6.p3,y6.q4,y7.1,y7.2.1,y7.2.2.1,y7.p3,y7.q4))) (.leaf (.inl (s3.1,(IntKind.u64.wrap ((IntKind.u64.wrap ((IntKind.u64.wrap (y6.2.1 * 2 ^ min (38:Int).toNat IntKind.u64.bits)).tdiv y7.2.1)) * (2:Int))),y6.1,y6.2.1,y6.2.2.1,y6.p3,y6.q4,y7.1,y7.2.1,y7.2.2.1,y7.p3,y7.q4)))) λs4=>.call (k162 n) (s4.1,s4.2.1,(IntKind.i64.wrap ((IntKind.i64.wrap (s4.p4 - s4.p9)) - (39:Int)))) λ(y8:Int)=>.leaf y8)))))
def k186 (n:Nat):Con P_ Ty_:=zb (X:=Yaa) (R:=Int) (pro:=[]) (ybe n) 124 ybf (λx=>.two .no (.two .no (.two .no (.two .no (.two (.two (.join (Yap) (zp8 x) ⟨[(5,.ref 5),(6,.ref 6),(7,.any),(20,.any)],[(5,.any),(6,.any)]⟩ .no (.two .no (.join (Yap) (zp9 x) ⟨[(5,.ref 5),(6,.ref 6),(7,.any),(52,.any)],[(5,.any),(6,.any)]⟩ .no (.two .no (.join (Yap) (zpa x) ⟨[(5,.ref 5),(6,.ref 6),(7,.any),(67,.any)],[(5,.any),(6,.any)]⟩ .no .no))))) .no) (.two .no (.two .no (.two .no (.two .no (.two .no (.two .no (.join (Ycy) (zpb x) ⟨[(5,.ref 5),(6,.ref 6),(7,.any),(9,.any)],[(5,.any),(6,.any)]⟩ .no .no)))))))))))) [.any,.any] [] [] ⟨[(4,.any)],[]⟩ [] true (λx=>[I_ x.1,I_ x.2]) (λx=>[]) (λy=>([(4,I_ y)],[])) (λy=>I_ y) (λy=>[]) (ybg n)
def yae (n:Nat):Cx P_ Ty_:=⟨[],[],[],[]⟩
abbrev yaf:List (List Nat):=[[0],[0,3],[3,8],[2],[2]]
def yag (n:Nat) (x:Int):Pt P_ Ty_ [] Int:=.ite ((x.fdiv (2 ^ min (31:Int).toNat IntKind.i64.bits))==1) (.leaf (IntKind.i64.wrap ((IntKind.i64.wrap (0 - (IntKind.i64.wrap (BitVec.ofInt IntKind.i64.bits x &&& ~~~BitVec.ofInt IntKind.i64.bits (2147483648:Int)).toNat))) - (1:Int)))) (.leaf (IntKind.i64.wrap (BitVec.ofInt IntKind.i64.bits x &&& ~~~BitVec.ofInt IntKind.i64.bits (2147483648:Int)).toNat))
def k172 (n:Nat):Con P_ Ty_:=zb (X:=Int) (R:=Int) (pro:=[]) (yae n) 116 yaf (λx=>.no) [.any] [] [] ⟨[(2,.any)],[]⟩ [] true (λx=>[I_ x]) (λx=>[]) (λy=>([(2,I_ y)],[])) (λy=>I_ y) (λy=>[]) (yag n)
def yab (n:Nat):Cx P_ Ty_:=⟨[k69 n,k159 n,k172 n],[],[],[]⟩
abbrev yac:List (List Nat):=[[0,1],[0,1,9],[4],[0,1,14],[4],[4]]
def yad (n:Nat) (x:Yaa):Pt P_ Ty_ [] Int:=.call (k69 n) x.1 λ(y1:Yah)=>.call (k69 n) x.2 λ(y2:Yah)=>.call (k159 n) ((⟨y1.1,y1.2.1,y1.2.2.1,y1.p3,y1.q4⟩:Xm),(⟨y2.1,y2.2.1,y2.2.2.1,y2.p3,y2.q4⟩:Xm)) λ(y3:Bool)=>.ite y3 (.leaf (2143289344:Int)) (.call (k172 n) x.2 λ(y4:Int)=>.call (k172 n) x.1 λ(y5:Int)=>.ite (decide (y4<y5)) (.leaf x.2) (.leaf x.1))
def k171 (n:Nat):Con P_ Ty_:=zb (X:=Yaa) (R:=Int) (pro:=[]) (yab n) 106 yac (λx=>.no) [.any,.any] [] [] ⟨[(4,.any)],[]⟩ [] true (λx=>[I_ x.1,I_ x.2]) (λx=>[]) (λy=>([(4,I_ y)],[])) (λy=>I_ y) (λy=>[]) (yad n)
def ybh (n:Nat):Cx P_ Ty_:=⟨[k69 n,k159 n,k172 n],[],[],[]⟩
abbrev ybi:List (List Nat):=[[0,1],[0,1,9],[4],[0,1,14],[4],[4]]
def ybj (n:Nat) (x:Yaa):Pt P_ Ty_ [] Int:=.call (k69 n) x.1 λ(y1:Yah)=>.call (k69 n) x.2 λ(y2:Yah)=>.call (k159 n) ((⟨y1.1,y1.2.1,y1.2.2.1,y1.p3,y1.q4⟩:Xm),(⟨y2.1,y2.2.1,y2.2.2.1,y2.p3,y2.q4⟩:Xm)) λ(y3:Bool)=>.ite y3 (.leaf (2143289344:Int)) (.call (k172 n) x.2 λ(y4:Int)=>.call (k172 n) x.1 λ(y5:Int)=>.ite (decide (y4 > y5)) (.leaf x.2) (.leaf x.1))
def k187 (n:Nat):Con P_ Ty_:=zb (X:=Yaa) (R:=Int) (pro:=[]) (ybh n) 125 ybi (λx=>.no) [.any,.any] [] [] ⟨[(4,.any)],[]⟩ [] true (λx=>[I_ x.1,I_ x.2]) (λx=>[]) (λy=>([(4,I_ y)],[])) (λy=>I_ y) (λy=>[]) (ybj n)
def ybn (n:Nat):Cx P_ Ty_:=⟨[],[],[],[]⟩
abbrev ybo:List (List Nat):=[[0],[2]]
def ybp (n:Nat) (x:Int):Pt P_ Ty_ [] Bool:=.leaf ((IntKind.i64.wrap (BitVec.ofInt IntKind.i64.bits x &&& ~~~BitVec.ofInt IntKind.i64.bits (2147483648:Int)).toNat)==0)
def k189 (n:Nat):Con P_ Ty_:=zb (X:=Int) (R:=Bool) (pro:=[]) (ybn n) 129 ybo (λx=>.no) [.any] [] [] ⟨[(2,.any)],[]⟩ [] true (λx=>[I_ x]) (λx=>[]) (λy=>([(2,B_ y)],[])) (λy=>B_ y) (λy=>[]) (ybp n)
def ybk (n:Nat):Cx P_ Ty_:=⟨[k69 n,k159 n,k189 n,k172 n],[],[],[]⟩
abbrev ybl:List (List Nat):=[[0,1],[0,1,17],[4],[4]]
def zpc (x:Yaa) (p:Bool):EH Ty_:=([(0,I_ x.1),(1,I_ x.2),(17,B_ p)],[])
def ybm (n:Nat) (x:Yaa):Pt P_ Ty_ [] Bool:=.join (S:=Bool) (zpc x) (.call (k69 n) x.1 λ(y1:Yah)=>.call (k69 n) x.2 λ(y2:Yah)=>.call (k159 n) ((⟨y1.1,y1.2.1,y1.2.2.1,y1.p3,y1.q4⟩:Xm),(⟨y2.1,y2.2.1,y2.2.2.1,y2.p3,y2.q4⟩:Xm)) λ(y3:Bool)=>.ite y3 (.leaf (.inl true)) (.call (k189 n) x.1 λ(y4:Bool)=>.ite y4 (.call (k189 n) x.2 λ(y5:Bool)=>.leaf (.inl y5)) (.leaf (.inl false)))) λs1=>.ite s1 (.leaf false) (.call (k172 n) x.1 λ(y6:Int)=>.call (k172 n) x.2 λ(y7:Int)=>.leaf (decide (y6<y7)))
def k188 (n:Nat):Con P_ Ty_:=zb (X:=Yaa) (R:=Bool) (pro:=[]) (ybk n) 126 ybl (λx=>.two .no (.two (.join Bool (zpc x) ⟨[(0,.any),(1,.any),(17,.any)],[]⟩ .no .no) .no)) [.any,.any] [] [] ⟨[(4,.any)],[]⟩ [] true (λx=>[I_ x.1,I_ x.2]) (λx=>[]) (λy=>([(4,B_ y)],[])) (λy=>B_ y) (λy=>[]) (ybm n)
def ybq (n:Nat):Cx P_ Ty_:=⟨[k69 n,k189 n,k65 n],[],[],[]⟩
abbrev ybr:List (List Nat):=[[0,1,2],[1,2,13],[6],[6]]
def zpd (x:Yao) (p:Bool):EH Ty_:=([(1,I_ x.2.1),(2,I_ x.2.2),(13,B_ p)],[])
def ybs (n:Nat) (x:Yao):Pt P_ Ty_ [] Int:=.join (S:=Bool) (zpd x) (.call (k69 n) x.1 λ(y1:Yah)=>.ite y1.q4 (.leaf (.inl true)) (.call (k189 n) x.1 λ(y2:Bool)=>.leaf (.inl y2))) λs1=>.ite s1 (.call (k65 n) x.2.2 λ(y3:Int)=>.leaf y3) (.call (k65 n) x.2.1 λ(y4:Int)=>.leaf y4)
def k190 (n:Nat):Con P_ Ty_:=zb (X:=Yao) (R:=Int) (pro:=[]) (ybq n) 127 ybr (λx=>.two .no (.two (.join Bool (zpd x) ⟨[(1,.any),(2,.any),(13,.any)],[]⟩ .no .no) .no)) [.any,.any,.any] [] [] ⟨[(6,.any)],[]⟩ [] true (λx=>[I_ x.1,I_ x.2.1,I_ x.2.2]) (λx=>[]) (λy=>([(6,I_ y)],[])) (λy=>I_ y) (λy=>[]) (ybs n)
def yau (n:Nat):Cx P_ Ty_:=⟨[k136 n,k179 n,k181 n,k182 n,k183 n,k184 n,k168 n,k185 n,k158 n,k186 n,k171 n,k187 n,k188 n,k190 n],[],[],[]⟩
abbrev yav:List (List Nat):=[[0,1,2,3],[1,2,3,9],[1,2,3,9,10],[8],[1,2,3,9,14],[8],[1,2,3,9,18],[8],[1,2,3,9,22],[8],[1,2,3,9,26],[8],[1,2,3,9,31],[8],[1,2,3,9,36],[8],[1,2,3,9,41],[8],[1,2,3,9,46],[8],[1,2,3,9,51],[8],[1,2,3,9,56],[8],[1,2,3,61],[8],[8]]
def yaw (n:Nat) (x:Ybc):Pt P_ Ty_ [] Int:=.ite (x.1==3) (.call (k136 n) x.2.1 λ(y1:Int)=>.leaf y1) (.ite (x.1==11) (.call (k179 n) x.2.1 λ(y2:Int)=>.leaf y2) (.ite (x.1==12) (.call (k181 n) x.2.1 λ(y3:Int)=>.leaf y3) (.ite (x.1==13) (.call (k182 n) x.2.1 λ(y4:Int)=>.leaf y4) (.ite (x.1==14) (.call (k183 n) x.2.1 λ(y5:Bool)=>.call (k184 n) y5 λ(y6:Int)=>.leaf y6) (.ite (x.1==4) (.call (k168 n) (x.2.1,x.2.2.1) λ(y7:Int)=>.leaf y7) (.ite (x.1==5) (.call (k185 n) (x.2.1,x.2.2.1) λ(y8:Int)=>.leaf y8) (.ite (x.1==6) (.call (k158 n) (x.2.1,x.2.2.1) λ(y9:Int)=>.leaf y9) (.ite (x.1==7) (.call (k186 n) (x.2.1,x.2.2.1) λ(y10:Int)=>.leaf y10) (.ite (x.1==8) (.call (k171 n) (x.2.1,x.2.2.1) λ(y11:Int)=>.leaf y11) (.ite (x.1==9) (.call (k187 n) (x.2.1,x.2.2.1) λ(y12:Int)=>.leaf y12) (.ite (x.1==10) (.call (k188 n) (x.2.1,x.2.2.1) λ(y13:Bool)=>.call (k184 n) y13 λ(y14:Int)=>.leaf y14) (.call (k190 n) (x.2.1,x.2.2.1,x.q3) λ(y15:Int)=>.leaf y15))))))))))))
def k178 (n:Nat):Con P_ Ty_:=zb (X:=Ybc) (R:=Int) (pro:=[]) (yau n) 109 yav (λx=>.no) [.any,.any,.any,.any] [] [] ⟨[(8,.any)],[]⟩ [] true (λx=>[I_ x.1,I_ x.2.1,I_ x.2.2.1,I_ x.q3]) (λx=>[]) (λy=>([(8,I_ y)],[])) (λy=>I_ y) (λy=>[]) (yaw n)
def zd2 (n:Nat):Cx P_ Ty_:=⟨[k176 n,k177 n,k178 n],[(100,false,6),(101,false,6)],[],[]⟩
abbrev zd3:List (List Nat):=[[0,1],[0,1,6],[0,1,6,23],[4,5],[0,1,6,7],[0,1,6,7,8],[0,1,6,7,8,30],[0,1,6,7,8,42],[0,1,6,7,8],[0,1,6,7,8],[0,1,6,7,9],[0,1,6,7,9,50],[0,1,6,7,9,71],[4,5],[0,1,6,7,9],[0,1,6,7,10],[0,1,6,7,10,11],[0,1,6,7,10,11,74],[0,1,6,7,10,11,12],[0,1,6,7,10,11,12,13],[0,1,6,7,10,11,12,13,80],[0,1,6,7,10,11,12,13],[0,1,6,7,10,11,12,13],[0,1,6,7,10,11],[0,1,6,7,10,11],[4,5]]
def zpj (x:Yae) (p:Yag):EH Ty_:=([(0,I_ x.1),(1,.im 7 x.2),(6,I_ p.1),(23,B_ p.2)],[])
def zpk (x:Yae) (v1:Int) (q1:Yaa) (p:Bool):EH Ty_:=([(0,I_ x.1),(1,.im 7 x.2),(6,I_ v1),(7,I_ q1.1),(8,I_ q1.2),(42,B_ p)],[])
def zpl (x:Yae) (v2:Yaa) (q2:Int) (p:Bool):EH Ty_:=([(0,I_ x.1),(1,.im 7 x.2),(6,I_ v2.1),(7,I_ v2.2),(9,I_ q2),(71,B_ p)],[])
def y56 (n:Nat) (x:Yae) (v1:Int) (q1:Yaa):Pt P_ Ty_ [] (Bo (Yaa) (Yaa) Empty):=.ite (decide (q1.2<v1)) (.join (S:=Bool) (zpk x v1 q1) (.ite (q1.1==1) (.leaf (.inl true)) (.bnd (idx x.2 q1.2) λy3=>.leaf (.inl ((y3.length:Int)==0)))) λs2=>.ite s2 (.bnd (idx x.2 q1.2) λy4=>.leaf (.go ((y4.length:Int),(IntKind.i64.wrap (q1.2+(1:Int)))))) (.leaf (.go (q1.1,(IntKind.i64.wrap (q1.2+(1:Int))))))) (.leaf (.out (q1.1,q1.2)))
def zpf (n:Nat) (x:Yae) (v1:Int):LCon P_ Ty_ []:=lcon (X:=Yaa) (Y:=Yaa) (Z:=Empty) (zd2 n) (subC [1,1,1,1,0,1,0,0] (fnC P_ 100 zd3)) (λq1=>.two .no (.two (.two (.join Bool (zpk x v1 q1) ⟨[(0,.any),(1,.im 7),(6,.any),(7,.any),(8,.any),(42,.any)],[]⟩ .no .no) .no) .no)) 0 false ⟨[(0,.any),(1,.im 7),(6,.any),(7,.any),(8,.any)],[]⟩ ⟨[(0,.any),(1,.im 7),(6,.any),(7,.any),(8,.any),(30,.any)],[]⟩ ⟨[],[]⟩ (λq1=>([(0,I_ x.1),(1,.im 7 x.2),(6,I_ v1),(7,I_ q1.1),(8,I_ q1.2)],[])) (λp=>([(0,I_ x.1),(1,.im 7 x.2),(6,I_ v1),(7,I_ p.1),(8,I_ p.2),(30,B_ false)],[])) (λp=>nomatch p) n (y56 n x v1)
def y57 (n:Nat) (x:Yae) (v2:Yaa) (q2:Int):Pt P_ Ty_ [] (Bo Int Int Unit):=.ite (decide (q2<v2.1)) (.join (S:=Bool) (zpl x v2 q2) (.bnd (idx x.2 q2) λy6=>.ite ((y6.length:Int) != v2.2) (.ite (v2.2==0) (.leaf (.inl true)) (.bnd (idx x.2 q2) λy7=>.leaf (.inl ((y7.length:Int) != (1:Int))))) (.leaf (.inl false))) λs3=>.ite s3 (.leaf (.ret ())) (.leaf (.go (IntKind.i64.wrap (q2+(1:Int)))))) (.leaf (.out q2))
def zpg (n:Nat) (x:Yae) (v2:Yaa):LCon P_ Ty_ []:=lcon (X:=Int) (Y:=Int) (Z:=Unit) (zd2 n) (subC [1,1,1,1,1,0,1,0,0] (fnC P_ 100 zd3)) (λq2=>.two .no (.two (.two (.join Bool (zpl x v2 q2) ⟨[(0,.any),(1,.im 7),(6,.any),(7,.any),(9,.any),(71,.any)],[]⟩ .no .no) .no) .no)) 2 true ⟨[(0,.any),(1,.im 7),(6,.any),(7,.any),(9,.any)],[]⟩ ⟨[(0,.any),(1,.im 7),(6,.any),(7,.any),(9,.any),(50,.any)],[]⟩ ⟨[(4,.any),(5,.any)],[]⟩ (λq2=>([(0,I_ x.1),(1,.im 7 x.2),(6,I_ v2.1),(7,I_ v2.2),(9,I_ q2)],[])) (λp=>([(0,I_ x.1),(1,.im 7 x.2),(6,I_ v2.1),(7,I_ v2.2),(9,I_ p),(50,B_ false)],[])) (λp=>([(4,.zs),(5,I_ (50:Int))],[])) n (y57 n x v2)
def y59 (n:Nat) (x:Yae) (v3:Yaa) (q3:Yab) (v4:Unit) (q4:Ybc):Pt P_ Ty_ [] (Bo (Ybc) (Ybc) Empty):=.ite (decide (q4.1<v3.1)) (.bnd (idx x.2 q4.1) λy9=>.call (k177 n) (y9,q3.1) λ(y10:Int)=>.ite (q4.1==(0:Nat)) (.leaf (.go ((IntKind.i64.wrap (q4.1+(1:Int))),y10,q4.2.2.1,q4.q3))) (.ite (q4.1==(1:Nat)) (.leaf (.go ((IntKind.i64.wrap (q4.1+(1:Int))),q4.2.1,y10,q4.q3))) (.ite (q4.1==(2:Nat)) (.leaf (.go ((IntKind.i64.wrap (q4.1+(1:Int))),q4.2.1,q4.2.2.1,y10))) .no))) (.leaf (.out (q4.1,q4.2.1,q4.2.2.1,q4.q3)))
def zpi (n:Nat) (x:Yae) (v3:Yaa) (q3:Yab) (v4:Unit):LCon P_ Ty_ []:=lcon (X:=Ybc) (Y:=Ybc) (Z:=Empty) (zd2 n) (subC [1,1,1,1,1,1,1,0,1,0,0,1,0,0,1,0,1,0,0] (fnC P_ 100 zd3)) (λq4=>.no) 6 false ⟨[(0,.any),(1,.im 7),(6,.any),(7,.any),(10,.ref 600001),(11,.any),(12,.ref 12),(13,.any)],[(600001,.any),(12,.any)]⟩ ⟨[(0,.any),(1,.im 7),(6,.any),(7,.any),(10,.ref 600001),(11,.any),(12,.ref 12),(13,.any),(80,.any)],[(600001,.any),(12,.any)]⟩ ⟨[],[]⟩ (λq4=>([(0,I_ x.1),(1,.im 7 x.2),(6,I_ v3.1),(7,I_ v3.2),(10,.sw 600001 []),(11,I_ q3.1),(12,.pt 12 [] 0 0),(13,I_ q4.1)],[(600001,.typ false 6 q3.2),(12,.lit 3 [[I_ q4.2.1,I_ q4.2.2.1,I_ q4.q3]])])) (λp=>([(0,I_ x.1),(1,.im 7 x.2),(6,I_ v3.1),(7,I_ v3.2),(10,.sw 600001 []),(11,I_ q3.1),(12,.pt 12 [] 0 0),(13,I_ p.1),(80,B_ false)],[(600001,.typ false 6 q3.2),(12,.lit 3 [[I_ p.2.1,I_ p.2.2.1,I_ p.q3]])])) (λp=>nomatch p) n (y59 n x v3 q3 v4)
def y58 (n:Nat) (x:Yae) (v3:Yaa) (q3:Yab):Pt P_ Ty_ [] (Bo (Yab) (Yab) Empty):=.ite (decide (q3.1<v3.2)) (.loop (V:=Unit) (zpi n x v3 q3) () ((0:Int),(0:Int),(0:Int),(0:Int)) λ(v4:Unit) (y11:Ybc)=>.call (k178 n) (x.1,y11.2.1,y11.2.2.1,y11.q3) λ(y12:Int)=>.need ((q3.2.length+([y12]:List Int).length) * 8<=140737488355328) (.leaf (.go ((IntKind.i64.wrap (q3.1+(1:Int))),(q3.2++([y12]:List Int)))))) (.leaf (.out (q3.1,q3.2)))
def zph (n:Nat) (x:Yae) (v3:Yaa):LCon P_ Ty_ []:=lcon (X:=Yab) (Y:=Yab) (Z:=Empty) (zd2 n) (subC [1,1,1,1,1,1,1,0,1,0,0] (fnC P_ 100 zd3)) (λq3=>.two .no (.two (.two (.two .no (.two (.two .no (.two (.loop Unit (zpi n x v3 q3) false ⟨[(0,.any),(1,.im 7),(6,.any),(7,.any),(10,.ref 600001),(11,.any),(12,.ref 12),(13,.any)],[(600001,.any),(12,.any)]⟩) .no)) .no)) .no) .no)) 4 false ⟨[(0,.any),(1,.im 7),(6,.any),(7,.any),(10,.own 600001 false 6),(11,.any)],[(600001,.any)]⟩ ⟨[(0,.any),(1,.im 7),(6,.any),(7,.any),(10,.ref 600001),(11,.any),(74,.any)],[(600001,.any)]⟩ ⟨[],[]⟩ (λq3=>([(0,I_ x.1),(1,.im 7 x.2),(6,I_ v3.1),(7,I_ v3.2),(10,.sw 600001 []),(11,I_ q3.1)],[(600001,.typ false 6 q3.2)])) (λp=>([(0,I_ x.1),(1,.im 7 x.2),(6,I_ v3.1),(7,I_ v3.2),(10,.sw 600001 []),(11,I_ p.1),(74,B_ false)],[(600001,.typ false 6 p.2)])) (λp=>nomatch p) n (y58 n x v3)
def ybw (n:Nat) (x:Yae):Pt P_ Ty_ [] (Yab):=.call (k176 n) x.1 λ(y1:Int)=>.join (S:=Yag) (zpj x) (.ite (y1==0) (.leaf (.inl (y1,true))) (.leaf (.inl (y1,((x.2.length:Int) != y1))))) λs1=>.ite s1.2 (.leaf ((1:Int),([]:List Int))) (.bnd (idx x.2 (0:Int)) λy2=>.loop (V:=Int) (zpf n x) s1.1 ((y2.length:Int),(0:Int)) λ(v1:Int) (y5:Yaa)=>.loopR (V:=Yaa) (zpg n x) (v1,y5.1) (0:Int) (λ(v2:Yaa) (y8:Int)=>.loop (V:=Yaa) (zph n x) (v2.1,v2.2) ((0:Int),([]:List Int)) λ(v3:Yaa) (y13:Yab)=>.leaf ((0:Int),y13.2)) λ(v2:Yaa) (z1:Unit)=>.leaf ((50:Int),([]:List Int)))
def k192 (n:Nat):Con P_ Ty_:=zb (X:=Yae) (R:=Yab) (pro:=[]) (zd2 n) 100 zd3 (λx=>.two .no (.two .no (.two (.join (Yag) (zpj x) ⟨[(0,.any),(1,.im 7),(6,.any),(23,.any)],[]⟩ .no .no) (.two .no (.two (.two .no (.two (.loop Int (zpf n x) false ⟨[(0,.any),(1,.im 7),(6,.any),(7,.any),(8,.any)],[]⟩) .no)) (.two (.two .no (.two (.loop (Yaa) (zpg n x) true ⟨[(0,.any),(1,.im 7),(6,.any),(7,.any),(9,.any)],[]⟩) .no)) (.two .no (.two (.two .no (.two (.loop (Yaa) (zph n x) false ⟨[(0,.any),(1,.im 7),(6,.any),(7,.any),(10,.own 600001 false 6),(11,.any)],[(600001,.any)]⟩) .no)) .no)))))))) [.any,.im 7] [] [100000] ⟨[(4,.own 100000 false 6),(5,.any)],[(100000,.any)]⟩ [100000] true (λx=>[I_ x.1,.im 7 x.2]) (λx=>[]) (λy=>([(4,.sw 100000 []),(5,I_ y.1)],[(100000,.typ false 6 y.2)])) (λy=>.tu [.sw 100000 [],I_ y.1]) (λy=>[(100000,.typ false 6 y.2)]) (ybw n)
end
end Loom
