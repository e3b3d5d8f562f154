/- What the functions that ReuseClean reaches answer,and that they do (part 1 of 2). -/
import Derived.Test.YtdnodicbedhdfaaGreatLoomD
import Derived.Test.YtdnodicbedhdfaaGreatChecked
import Derived.KernelRfl
import Derived.WalkKit
import Derived.WalkSpells
import Derived.WalkLawsBesides
import Derived.Lib.Bytealg
import Derived.Defers
import Derived.Recover
set_option linter.unusedVariables false
set_option linter.unusedSimpArgs false
set_option linter.unusedSectionVars false
open Go.IntKind (i64 u64 u32)
open List (length_map range replicate)
namespace Loom
open Go Go.RowKit
set_option maxRecDepth 100000
noncomputable section
abbrev P_:=Go.Proofs.Tryz.prog
abbrev I_ {E}(x:Int):TV E:=.sc (.int .i64 x)
abbrev B_ {E}(x:Bool):TV E:=.sc (.bool x)
structure Xa where
 q_:ByteArray
 j_:Int
 r_:Int
structure Xb where
 j_:Int
 o_:Int
structure Xc where
 s_:Xb
 T_:Bool
 m_:Int
 u_:Int
structure Xd where
 a_:Int
 D_:Int
 A_:Int
 B_:Int
 C_:Int
 N_:Int
 m_:Int
structure Xe where
 g_:(List Xa)
 c_:(List Xb)
 e_:(List Xc)
 d_:(List Xd)
structure Xf where
 i_:Xd
 t_:Xb
structure Xg where
 k_:Xf
 v_:Int
structure Xh where
 a_:Int
 o_:Int
 G_:(List Bool)
structure Xi where
 z_:(List (List Int))
 F_:(List (List Int))
structure Xj where
 y_:(List Int)
 u_:Int
structure Xk where
 C_:Xe
 e_:(List Xj)
structure Xl where
 C_:Xe
 c_:(List Xj)
 e_:(List Xj)
 H_:(List (List Int))
 z_:(List (List Int))
 F_:(List (List Int))
 L_:Int
structure Xm where
 O_:Bool
 M_:Int
 E_:Int
 R_:Bool
 Q_:Bool
abbrev _root_.Prod.p10 {A0 A1 A2 A3 A4 A5 A6 A7 A8 A9 A10 A11:Type}(x:A0×A1×A2×A3×A4×A5×A6×A7×A8×A9×A10×A11):A10:=x.2.2.2.2.2.2.2.2.2.2.1
abbrev _root_.Prod.p11 {A0 A1 A2 A3 A4 A5 A6 A7 A8 A9 A10 A11 A12:Type}(x:A0×A1×A2×A3×A4×A5×A6×A7×A8×A9×A10×A11×A12):A11:=x.2.2.2.2.2.2.2.2.2.2.2.1
abbrev _root_.Prod.p12 {A0 A1 A2 A3 A4 A5 A6 A7 A8 A9 A10 A11 A12 A13:Type}(x:A0×A1×A2×A3×A4×A5×A6×A7×A8×A9×A10×A11×A12×A13):A12:=x.2.2.2.2.2.2.2.2.2.2.2.2.1
abbrev _root_.Prod.p13 {A0 A1 A2 A3 A4 A5 A6 A7 A8 A9 A10 A11 A12 A13 A14:Type}(x:A0×A1×A2×A3×A4×A5×A6×A7×A8×A9×A10×A11×A12×A13×A14):A13:=x.2.2.2.2.2.2.2.2.2.2.2.2.2.1
abbrev _root_.Prod.p3 {A0 A1 A2 A3 A4:Type}(x:A0×A1×A2×A3×A4):A3:=x.2.2.2.1
abbrev _root_.Prod.p4 {A0 A1 A2 A3 A4 A5:Type}(x:A0×A1×A2×A3×A4×A5):A4:=x.2.2.2.2.1
abbrev _root_.Prod.p5 {A0 A1 A2 A3 A4 A5 A6:Type}(x:A0×A1×A2×A3×A4×A5×A6):A5:=x.2.2.2.2.2.1
abbrev _root_.Prod.p6 {A0 A1 A2 A3 A4 A5 A6 A7:Type}(x:A0×A1×A2×A3×A4×A5×A6×A7):A6:=x.2.2.2.2.2.2.1
abbrev _root_.Prod.p7 {A0 A1 A2 A3 A4 A5 A6 A7 A8:Type}(x:A0×A1×A2×A3×A4×A5×A6×A7×A8):A7:=x.2.2.2.2.2.2.2.1
abbrev _root_.Prod.p8 {A0 A1 A2 A3 A4 A5 A6 A7 A8 A9:Type}(x:A0×A1×A2×A3×A4×A5×A6×A7×A8×A9):A8:=x.2.2.2.2.2.2.2.2.1
abbrev _root_.Prod.p9 {A0 A1 A2 A3 A4 A5 A6 A7 A8 A9 A10:Type}(x:A0×A1×A2×A3×A4×A5×A6×A7×A8×A9×A10):A9:=x.2.2.2.2.2.2.2.2.2.1
abbrev _root_.Prod.q10 {A0 A1 A2 A3 A4 A5 A6 A7 A8 A9 A10:Type}(x:A0×A1×A2×A3×A4×A5×A6×A7×A8×A9×A10):A10:=x.2.2.2.2.2.2.2.2.2.2
abbrev _root_.Prod.q11 {A0 A1 A2 A3 A4 A5 A6 A7 A8 A9 A10 A11:Type}(x:A0×A1×A2×A3×A4×A5×A6×A7×A8×A9×A10×A11):A11:=x.2.2.2.2.2.2.2.2.2.2.2
abbrev _root_.Prod.q14 {A0 A1 A2 A3 A4 A5 A6 A7 A8 A9 A10 A11 A12 A13 A14:Type}(x:A0×A1×A2×A3×A4×A5×A6×A7×A8×A9×A10×A11×A12×A13×A14):A14:=x.2.2.2.2.2.2.2.2.2.2.2.2.2.2
abbrev _root_.Prod.q3 {A0 A1 A2 A3:Type}(x:A0×A1×A2×A3):A3:=x.2.2.2
abbrev _root_.Prod.q4 {A0 A1 A2 A3 A4:Type}(x:A0×A1×A2×A3×A4):A4:=x.2.2.2.2
abbrev _root_.Prod.q5 {A0 A1 A2 A3 A4 A5:Type}(x:A0×A1×A2×A3×A4×A5):A5:=x.2.2.2.2.2
abbrev _root_.Prod.q6 {A0 A1 A2 A3 A4 A5 A6:Type}(x:A0×A1×A2×A3×A4×A5×A6):A6:=x.2.2.2.2.2.2
abbrev _root_.Prod.q7 {A0 A1 A2 A3 A4 A5 A6 A7:Type}(x:A0×A1×A2×A3×A4×A5×A6×A7):A7:=x.2.2.2.2.2.2.2
abbrev _root_.Prod.q8 {A0 A1 A2 A3 A4 A5 A6 A7 A8:Type}(x:A0×A1×A2×A3×A4×A5×A6×A7×A8):A8:=x.2.2.2.2.2.2.2.2
abbrev _root_.Prod.q9 {A0 A1 A2 A3 A4 A5 A6 A7 A8 A9:Type}(x:A0×A1×A2×A3×A4×A5×A6×A7×A8×A9):A9:=x.2.2.2.2.2.2.2.2.2
def El_:Nat->Type
 | 0=>Int
 | 1=>Xa
 | 2=>Xb
 | 3=>Xc
 | 4=>Xd
 | 5=>Bool
 | 6=>Int
 | 7=>(List Int)
 | 8=>Xg
 | 9=>(List Xg)
 | 10=>Xh
 | 11=>Int
 | 12=>(List Int)
 | 13=>Xi
 | 14=>Xj
 | 15=>Xe
 | _+16=>Empty
def c0 (_:Bool)(x:Int):List AV:=[.sc (.int .u8 x)]
def d0 (_:Bool)(x:Int):List (TV El_):=[.sc (.int .u8 x)]
def c1 (_:Bool)(x:Xa):List AV:=[.sc (.string x.q_),.sc (.int .i64 x.j_),.sc (.int .i64 x.r_)]
def d1 (_:Bool)(x:Xa):List (TV El_):=[.sc (.string x.q_),.sc (.int .i64 x.j_),.sc (.int .i64 x.r_)]
def c2 (_:Bool)(x:Xb):List AV:=[.sc (.int .i64 x.j_),.sc (.int .i64 x.o_)]
def d2 (_:Bool)(x:Xb):List (TV El_):=[.sc (.int .i64 x.j_),.sc (.int .i64 x.o_)]
def c3 (_:Bool)(x:Xc):List AV:=[.sc (.int .i64 x.s_.j_),.sc (.int .i64 x.s_.o_),.sc (.bool x.T_),.sc (.int .u32 x.m_),.sc (.int .i64 x.u_)]
def d3 (_:Bool)(x:Xc):List (TV El_):=[.sc (.int .i64 x.s_.j_),.sc (.int .i64 x.s_.o_),.sc (.bool x.T_),.sc (.int .u32 x.m_),.sc (.int .i64 x.u_)]
def c4 (_:Bool)(x:Xd):List AV:=[.sc (.int .i64 x.a_),.sc (.int .i64 x.D_),.sc (.int .i64 x.A_),.sc (.int .i64 x.B_),.sc (.int .i64 x.C_),.sc (.int .i64 x.N_),.sc (.int .u32 x.m_)]
def d4 (_:Bool)(x:Xd):List (TV El_):=[.sc (.int .i64 x.a_),.sc (.int .i64 x.D_),.sc (.int .i64 x.A_),.sc (.int .i64 x.B_),.sc (.int .i64 x.C_),.sc (.int .i64 x.N_),.sc (.int .u32 x.m_)]
def c5 (_:Bool)(x:Bool):List AV:=[.sc (.bool x)]
def d5 (_:Bool)(x:Bool):List (TV El_):=[.sc (.bool x)]
def c6 (_:Bool)(x:Int):List AV:=[.sc (.int .i64 x)]
def d6 (_:Bool)(x:Int):List (TV El_):=[.sc (.int .i64 x)]
def c7:Bool->(List Int)->List AV
 | true,x=>[.ow 1 (x.map (c6 false))]
 | false,x=>[.im 1 (x.map (c6 false))]
def d7:Bool->(List Int)->List (TV El_)
 | true,x=>[.ow false 6 x]
 | false,x=>[.im 6 x]
def c8 (_:Bool)(x:Xg):List AV:=[.sc (.int .i64 x.k_.i_.a_),.sc (.int .i64 x.k_.i_.D_),.sc (.int .i64 x.k_.i_.A_),.sc (.int .i64 x.k_.i_.B_),.sc (.int .i64 x.k_.i_.C_),.sc (.int .i64 x.k_.i_.N_),.sc (.int .u32 x.k_.i_.m_),.sc (.int .i64 x.k_.t_.j_),.sc (.int .i64 x.k_.t_.o_),.sc (.int .i64 x.v_)]
def d8 (_:Bool)(x:Xg):List (TV El_):=[.sc (.int .i64 x.k_.i_.a_),.sc (.int .i64 x.k_.i_.D_),.sc (.int .i64 x.k_.i_.A_),.sc (.int .i64 x.k_.i_.B_),.sc (.int .i64 x.k_.i_.C_),.sc (.int .i64 x.k_.i_.N_),.sc (.int .u32 x.k_.i_.m_),.sc (.int .i64 x.k_.t_.j_),.sc (.int .i64 x.k_.t_.o_),.sc (.int .i64 x.v_)]
def c9:Bool->(List Xg)->List AV
 | true,x=>[.ow 10000010 (x.map (c8 false))]
 | false,x=>[.un]
def d9:Bool->(List Xg)->List (TV El_)
 | true,x=>[.ow false 8 x]
 | false,x=>[.un]
def c10:Bool->Xh->List AV
 | true,x=>[.sc (.int .i64 x.a_),.sc (.int .i64 x.o_),.ow 1 (x.G_.map (c5 false))]
 | false,x=>[.sc (.int .i64 x.a_),.sc (.int .i64 x.o_),.im 1 (x.G_.map (c5 false))]
def d10:Bool->Xh->List (TV El_)
 | true,x=>[.sc (.int .i64 x.a_),.sc (.int .i64 x.o_),.ow false 5 x.G_]
 | false,x=>[.sc (.int .i64 x.a_),.sc (.int .i64 x.o_),.im 5 x.G_]
def c11 (_:Bool)(x:Int):List AV:=[.sc (.int .u32 x)]
def d11 (_:Bool)(x:Int):List (TV El_):=[.sc (.int .u32 x)]
def c12:Bool->(List Int)->List AV
 | true,x=>[.ow 1 (x.map (c11 false))]
 | false,x=>[.im 1 (x.map (c11 false))]
def d12:Bool->(List Int)->List (TV El_)
 | true,x=>[.ow false 11 x]
 | false,x=>[.im 11 x]
def c13:Bool->Xi->List AV
 | true,x=>[.ow 1 (x.z_.map (c12 true)),.ow 1 (x.F_.map (c12 true))]
 | false,x=>[.im 1 (x.z_.map (c12 false)),.im 1 (x.F_.map (c12 false))]
def d13:Bool->Xi->List (TV El_)
 | true,x=>[.ow true 12 x.z_,.ow true 12 x.F_]
 | false,x=>[.im 12 x.z_,.im 12 x.F_]
def c14:Bool->Xj->List AV
 | true,x=>[.ow 1 (x.y_.map (c6 false)),.sc (.int .i64 x.u_)]
 | false,x=>[.im 1 (x.y_.map (c6 false)),.sc (.int .i64 x.u_)]
def d14:Bool->Xj->List (TV El_)
 | true,x=>[.ow false 6 x.y_,.sc (.int .i64 x.u_)]
 | false,x=>[.im 6 x.y_,.sc (.int .i64 x.u_)]
def c15:Bool->Xe->List AV
 | true,x=>[.ow 3 (x.g_.map (c1 false)),.ow 2 (x.c_.map (c2 false)),.ow 5 (x.e_.map (c3 false)),.ow 7 (x.d_.map (c4 false))]
 | false,x=>[.im 3 (x.g_.map (c1 false)),.im 2 (x.c_.map (c2 false)),.im 5 (x.e_.map (c3 false)),.im 7 (x.d_.map (c4 false))]
def d15:Bool->Xe->List (TV El_)
 | true,x=>[.ow false 1 x.g_,.ow false 2 x.c_,.ow false 3 x.e_,.ow false 4 x.d_]
 | false,x=>[.im 1 x.g_,.im 2 x.c_,.im 3 x.e_,.im 4 x.d_]
def ca_ (m:Bool):(t:Nat)->El_ t->List AV
 | 0=>c0 m
 | 1=>c1 m
 | 2=>c2 m
 | 3=>c3 m
 | 4=>c4 m
 | 5=>c5 m
 | 6=>c6 m
 | 7=>c7 m
 | 8=>c8 m
 | 9=>c9 m
 | 10=>c10 m
 | 11=>c11 m
 | 12=>c12 m
 | 13=>c13 m
 | 14=>c14 m
 | 15=>c15 m
 | _+16=>λ_=>[]
def ct_ (m:Bool):(t:Nat)->El_ t->List (TV El_)
 | 0=>d0 m
 | 1=>d1 m
 | 2=>d2 m
 | 3=>d3 m
 | 4=>d4 m
 | 5=>d5 m
 | 6=>d6 m
 | 7=>d7 m
 | 8=>d8 m
 | 9=>d9 m
 | 10=>d10 m
 | 11=>d11 m
 | 12=>d12 m
 | 13=>d13 m
 | 14=>d14 m
 | 15=>d15 m
 | _+16=>λ_=>[]
def sz_:Nat->Nat
 | 0=>1
 | 1=>3
 | 2=>2
 | 3=>5
 | 4=>7
 | 5=>1
 | 6=>1
 | 7=>1
 | 8=>10000010
 | 9=>1
 | 10=>3
 | 11=>1
 | 12=>1
 | 13=>2
 | 14=>2
 | 15=>4
 | _+16=>0
def ks_ (m:Bool):Nat->List Kd
 | 0=>[]
 | 1=>[]
 | 2=>[]
 | 3=>[]
 | 4=>[]
 | 5=>[]
 | 6=>[]
 | 7=>bif m then [.ow false 6] else [.im 6]
 | 8=>[]
 | 9=>bif m then [.no] else [.no]
 | 10=>bif m then [.no,.no,.ow false 5] else [.no,.no,.im 5]
 | 11=>[]
 | 12=>bif m then [.ow false 11] else [.im 11]
 | 13=>bif m then [.ow true 12,.ow true 12] else [.im 12,.im 12]
 | 14=>bif m then [.ow false 6,.no] else [.im 6,.no]
 | 15=>bif m then [.ow false 1,.ow false 2,.ow false 3,.ow false 4] else [.im 1,.im 2,.im 3,.im 4]
 | _+16=>[]
abbrev T0_:TT0:=⟨El_,sz_,ca_⟩
def u0 (m:Bool):List (TV El_)->Option Int
 | [v0]=>((gI .u8 v0).bind λa0=>some a0)
 | _=>none
def u1 (m:Bool):List (TV El_)->Option Xa
 | [v0,v1,v2]=>((gS v0).bind λa0=>(gI .i64 v1).bind λa1=>(gI .i64 v2).bind λa2=>some ⟨a0,a1,a2⟩)
 | _=>none
def u2 (m:Bool):List (TV El_)->Option Xb
 | [v0,v1]=>((gI .i64 v0).bind λa0=>(gI .i64 v1).bind λa1=>some ⟨a0,a1⟩)
 | _=>none
def u3 (m:Bool):List (TV El_)->Option Xc
 | [v0,v1,v2,v3,v4]=>((gI .i64 v0).bind λa0=>(gI .i64 v1).bind λa1=>(gB v2).bind λa2=>(gI .u32 v3).bind λa3=>(gI .i64 v4).bind λa4=>some ⟨⟨a0,a1⟩,a2,a3,a4⟩)
 | _=>none
def u4 (m:Bool):List (TV El_)->Option Xd
 | [v0,v1,v2,v3,v4,v5,v6]=>((gI .i64 v0).bind λa0=>(gI .i64 v1).bind λa1=>(gI .i64 v2).bind λa2=>(gI .i64 v3).bind λa3=>(gI .i64 v4).bind λa4=>(gI .i64 v5).bind λa5=>(gI .u32 v6).bind λa6=>some ⟨a0,a1,a2,a3,a4,a5,a6⟩)
 | _=>none
def u5 (m:Bool):List (TV El_)->Option Bool
 | [v0]=>((gB v0).bind λa0=>some a0)
 | _=>none
def u6 (m:Bool):List (TV El_)->Option Int
 | [v0]=>((gI .i64 v0).bind λa0=>some a0)
 | _=>none
def u7 (m:Bool):List (TV El_)->Option (List Int)
 | [v0]=>bif m then ((gO false 6 v0).bind λa0=>some a0) else ((gM 6 v0).bind λa0=>some a0)
 | _=>none
def u8 (m:Bool):List (TV El_)->Option Xg
 | [v0,v1,v2,v3,v4,v5,v6,v7,v8,v9]=>((gI .i64 v0).bind λa0=>(gI .i64 v1).bind λa1=>(gI .i64 v2).bind λa2=>(gI .i64 v3).bind λa3=>(gI .i64 v4).bind λa4=>(gI .i64 v5).bind λa5=>(gI .u32 v6).bind λa6=>(gI .i64 v7).bind λa7=>(gI .i64 v8).bind λa8=>(gI .i64 v9).bind λa9=>some ⟨⟨⟨a0,a1,a2,a3,a4,a5,a6⟩,⟨a7,a8⟩⟩,a9⟩)
 | _=>none
def u9 (m:Bool):List (TV El_)->Option (List Xg)
 | [v0]=>bif m then ((gO false 8 v0).bind λa0=>some a0) else none
 | _=>none
def u10 (m:Bool):List (TV El_)->Option Xh
 | [v0,v1,v2]=>bif m then ((gI .i64 v0).bind λa0=>(gI .i64 v1).bind λa1=>(gO false 5 v2).bind λa2=>some ⟨a0,a1,a2⟩) else ((gI .i64 v0).bind λa0=>(gI .i64 v1).bind λa1=>(gM 5 v2).bind λa2=>some ⟨a0,a1,a2⟩)
 | _=>none
def u11 (m:Bool):List (TV El_)->Option Int
 | [v0]=>((gI .u32 v0).bind λa0=>some a0)
 | _=>none
def u12 (m:Bool):List (TV El_)->Option (List Int)
 | [v0]=>bif m then ((gO false 11 v0).bind λa0=>some a0) else ((gM 11 v0).bind λa0=>some a0)
 | _=>none
def u13 (m:Bool):List (TV El_)->Option Xi
 | [v0,v1]=>bif m then ((gO true 12 v0).bind λa0=>(gO true 12 v1).bind λa1=>some ⟨a0,a1⟩) else ((gM 12 v0).bind λa0=>(gM 12 v1).bind λa1=>some ⟨a0,a1⟩)
 | _=>none
def u14 (m:Bool):List (TV El_)->Option Xj
 | [v0,v1]=>bif m then ((gO false 6 v0).bind λa0=>(gI .i64 v1).bind λa1=>some ⟨a0,a1⟩) else ((gM 6 v0).bind λa0=>(gI .i64 v1).bind λa1=>some ⟨a0,a1⟩)
 | _=>none
def u15 (m:Bool):List (TV El_)->Option Xe
 | [v0,v1,v2,v3]=>bif m then ((gO false 1 v0).bind λa0=>(gO false 2 v1).bind λa1=>(gO false 3 v2).bind λa2=>(gO false 4 v3).bind λa3=>some ⟨a0,a1,a2,a3⟩) else ((gM 1 v0).bind λa0=>(gM 2 v1).bind λa1=>(gM 3 v2).bind λa2=>(gM 4 v3).bind λa3=>some ⟨a0,a1,a2,a3⟩)
 | _=>none
def un_ (m:Bool):(t:Nat)->List (TV El_)->Option (El_ t)
 | 0=>u0 m
 | 1=>u1 m
 | 2=>u2 m
 | 3=>u3 m
 | 4=>u4 m
 | 5=>u5 m
 | 6=>u6 m
 | 7=>u7 m
 | 8=>u8 m
 | 9=>u9 m
 | 10=>u10 m
 | 11=>u11 m
 | 12=>u12 m
 | 13=>u13 m
 | 14=>u14 m
 | 15=>u15 m
 | _+16=>λ_=>none
theorem ynt (m:Bool)(l:List (TV El_))(x:Int)(h:u0 m l=some x):z6 T0_ [] l=c0 m x:=by
 unfold u0 at h;split at h
 ·skip
  obtain ⟨a0,h0,h⟩:=zd h;cases h;simp only [z6,z1w (T:=T0_) h0];rfl
 ·cases h
theorem ynu (m:Bool)(l:List (TV El_))(x:Xa)(h:u1 m l=some x):z6 T0_ [] l=c1 m x:=by
 unfold u1 at h;split at h
 ·skip
  obtain ⟨a0,h0,h⟩:=zd h;obtain ⟨a1,h1,h⟩:=zd h;obtain ⟨a2,h2,h⟩:=zd h;cases h;simp only [z6,ynl (T:=T0_) h0,z1w (T:=T0_) h1,z1w (T:=T0_) h2];rfl
 ·cases h
theorem ynv (m:Bool)(l:List (TV El_))(x:Xb)(h:u2 m l=some x):z6 T0_ [] l=c2 m x:=by
 unfold u2 at h;split at h
 ·skip
  obtain ⟨a0,h0,h⟩:=zd h;obtain ⟨a1,h1,h⟩:=zd h;cases h;simp only [z6,z1w (T:=T0_) h0,z1w (T:=T0_) h1];rfl
 ·cases h
theorem ynw (m:Bool)(l:List (TV El_))(x:Xc)(h:u3 m l=some x):z6 T0_ [] l=c3 m x:=by
 unfold u3 at h;split at h
 ·skip
  obtain ⟨a0,h0,h⟩:=zd h;obtain ⟨a1,h1,h⟩:=zd h;obtain ⟨a2,h2,h⟩:=zd h;obtain ⟨a3,h3,h⟩:=zd h;obtain ⟨a4,h4,h⟩:=zd h;cases h;simp only [z6,z1w (T:=T0_) h0,z1w (T:=T0_) h1,y9x (T:=T0_) h2,z1w (T:=T0_) h3,z1w (T:=T0_) h4];rfl
 ·cases h
theorem ynx (m:Bool)(l:List (TV El_))(x:Xd)(h:u4 m l=some x):z6 T0_ [] l=c4 m x:=by
 unfold u4 at h;split at h
 ·skip
  obtain ⟨a0,h0,h⟩:=zd h;obtain ⟨a1,h1,h⟩:=zd h;obtain ⟨a2,h2,h⟩:=zd h;obtain ⟨a3,h3,h⟩:=zd h;obtain ⟨a4,h4,h⟩:=zd h;obtain ⟨a5,h5,h⟩:=zd h;obtain ⟨a6,h6,h⟩:=zd h;cases h;simp only [z6,z1w (T:=T0_) h0,z1w (T:=T0_) h1,z1w (T:=T0_) h2,z1w (T:=T0_) h3,z1w (T:=T0_) h4,z1w (T:=T0_) h5,z1w (T:=T0_) h6];rfl
 ·cases h
theorem yny (m:Bool)(l:List (TV El_))(x:Bool)(h:u5 m l=some x):z6 T0_ [] l=c5 m x:=by
 unfold u5 at h;split at h
 ·skip
  obtain ⟨a0,h0,h⟩:=zd h;cases h;simp only [z6,y9x (T:=T0_) h0];rfl
 ·cases h
theorem ynz (m:Bool)(l:List (TV El_))(x:Int)(h:u6 m l=some x):z6 T0_ [] l=c6 m x:=by
 unfold u6 at h;split at h
 ·skip
  obtain ⟨a0,h0,h⟩:=zd h;cases h;simp only [z6,z1w (T:=T0_) h0];rfl
 ·cases h
theorem yo0 (m:Bool)(l:List (TV El_))(x:(List Int))(h:u7 m l=some x):z6 T0_ [] l=c7 m x:=by
 unfold u7 at h;split at h
 ·cases m
  ·simp only [cond_false] at h;obtain ⟨a0,h0,h⟩:=zd h;cases h;simp only [z6,z8u (T:=T0_) h0];rfl
  ·simp only [cond_true] at h;obtain ⟨a0,h0,h⟩:=zd h;cases h;simp only [z6,z7v (T:=T0_) h0];rfl
 ·cases h
theorem yo1 (m:Bool)(l:List (TV El_))(x:Xg)(h:u8 m l=some x):z6 T0_ [] l=c8 m x:=by
 unfold u8 at h;split at h
 ·skip
  obtain ⟨a0,h0,h⟩:=zd h;obtain ⟨a1,h1,h⟩:=zd h;obtain ⟨a2,h2,h⟩:=zd h;obtain ⟨a3,h3,h⟩:=zd h;obtain ⟨a4,h4,h⟩:=zd h;obtain ⟨a5,h5,h⟩:=zd h;obtain ⟨a6,h6,h⟩:=zd h;obtain ⟨a7,h7,h⟩:=zd h;obtain ⟨a8,h8,h⟩:=zd h;obtain ⟨a9,h9,h⟩:=zd h;cases h;simp only [z6,z1w (T:=T0_) h0,z1w (T:=T0_) h1,z1w (T:=T0_) h2,z1w (T:=T0_) h3,z1w (T:=T0_) h4,z1w (T:=T0_) h5,z1w (T:=T0_) h6,z1w (T:=T0_) h7,z1w (T:=T0_) h8,z1w (T:=T0_) h9];rfl
 ·cases h
theorem yo2 (m:Bool)(l:List (TV El_))(x:(List Xg))(h:u9 m l=some x):z6 T0_ [] l=c9 m x:=by
 unfold u9 at h;split at h
 ·cases m
  ·simp only [cond_false] at h;cases h
  ·simp only [cond_true] at h;obtain ⟨a0,h0,h⟩:=zd h;cases h;simp only [z6,z7v (T:=T0_) h0];rfl
 ·cases h
theorem yld (m:Bool)(l:List (TV El_))(x:Xh)(h:u10 m l=some x):z6 T0_ [] l=c10 m x:=by
 unfold u10 at h;split at h
 ·cases m
  ·simp only [cond_false] at h;obtain ⟨a0,h0,h⟩:=zd h;obtain ⟨a1,h1,h⟩:=zd h;obtain ⟨a2,h2,h⟩:=zd h;cases h;simp only [z6,z1w (T:=T0_) h0,z1w (T:=T0_) h1,z8u (T:=T0_) h2];rfl
  ·simp only [cond_true] at h;obtain ⟨a0,h0,h⟩:=zd h;obtain ⟨a1,h1,h⟩:=zd h;obtain ⟨a2,h2,h⟩:=zd h;cases h;simp only [z6,z1w (T:=T0_) h0,z1w (T:=T0_) h1,z7v (T:=T0_) h2];rfl
 ·cases h
theorem yle (m:Bool)(l:List (TV El_))(x:Int)(h:u11 m l=some x):z6 T0_ [] l=c11 m x:=by
 unfold u11 at h;split at h
 ·skip
  obtain ⟨a0,h0,h⟩:=zd h;cases h;simp only [z6,z1w (T:=T0_) h0];rfl
 ·cases h
theorem ylf (m:Bool)(l:List (TV El_))(x:(List Int))(h:u12 m l=some x):z6 T0_ [] l=c12 m x:=by
 unfold u12 at h;split at h
 ·cases m
  ·simp only [cond_false] at h;obtain ⟨a0,h0,h⟩:=zd h;cases h;simp only [z6,z8u (T:=T0_) h0];rfl
  ·simp only [cond_true] at h;obtain ⟨a0,h0,h⟩:=zd h;cases h;simp only [z6,z7v (T:=T0_) h0];rfl
 ·cases h
theorem ylg (m:Bool)(l:List (TV El_))(x:Xi)(h:u13 m l=some x):z6 T0_ [] l=c13 m x:=by
 unfold u13 at h;split at h
 ·cases m
  ·simp only [cond_false] at h;obtain ⟨a0,h0,h⟩:=zd h;obtain ⟨a1,h1,h⟩:=zd h;cases h;simp only [z6,z8u (T:=T0_) h0,z8u (T:=T0_) h1];rfl
  ·simp only [cond_true] at h;obtain ⟨a0,h0,h⟩:=zd h;obtain ⟨a1,h1,h⟩:=zd h;cases h;simp only [z6,z7v (T:=T0_) h0,z7v (T:=T0_) h1];rfl
 ·cases h
theorem ylh (m:Bool)(l:List (TV El_))(x:Xj)(h:u14 m l=some x):z6 T0_ [] l=c14 m x:=by
 unfold u14 at h;split at h
 ·cases m
  ·simp only [cond_false] at h;obtain ⟨a0,h0,h⟩:=zd h;obtain ⟨a1,h1,h⟩:=zd h;cases h;simp only [z6,z8u (T:=T0_) h0,z1w (T:=T0_) h1];rfl
  ·simp only [cond_true] at h;obtain ⟨a0,h0,h⟩:=zd h;obtain ⟨a1,h1,h⟩:=zd h;cases h;simp only [z6,z7v (T:=T0_) h0,z1w (T:=T0_) h1];rfl
 ·cases h
theorem yli (m:Bool)(l:List (TV El_))(x:Xe)(h:u15 m l=some x):z6 T0_ [] l=c15 m x:=by
 unfold u15 at h;split at h
 ·cases m
  ·simp only [cond_false] at h;obtain ⟨a0,h0,h⟩:=zd h;obtain ⟨a1,h1,h⟩:=zd h;obtain ⟨a2,h2,h⟩:=zd h;obtain ⟨a3,h3,h⟩:=zd h;cases h;simp only [z6,z8u (T:=T0_) h0,z8u (T:=T0_) h1,z8u (T:=T0_) h2,z8u (T:=T0_) h3];rfl
  ·simp only [cond_true] at h;obtain ⟨a0,h0,h⟩:=zd h;obtain ⟨a1,h1,h⟩:=zd h;obtain ⟨a2,h2,h⟩:=zd h;obtain ⟨a3,h3,h⟩:=zd h;cases h;simp only [z6,z7v (T:=T0_) h0,z7v (T:=T0_) h1,z7v (T:=T0_) h2,z7v (T:=T0_) h3];rfl
 ·cases h
theorem im7:∀ (m:Bool) (x:(List Int)),z2q (c7 m x)=c7 false x
 | true,x=>by simp [c7,z2q,toIm,MB,z3m (o:=c6 false) (c:=c6 false) (λ_=>rfl)]
 | false,_=>rfl
theorem ow7 (x:(List Int)):z1z (c7 true x)=true:=by simp [c7,z1z,z45,z2u (o:=c6 false) (λ_=>rfl)]
theorem im9:∀ (m:Bool) (x:(List Xg)),z2q (c9 m x)=c9 false x
 | true,x=>by simp [c9,z2q,toIm,MB]
 | false,_=>rfl
theorem ow9 (x:(List Xg)):z1z (c9 true x)=true:=by simp [c9,z1z,z45,z2u (o:=c8 false) (λ_=>rfl)]
theorem yob:∀ (m:Bool) (x:Xh),z2q (c10 m x)=c10 false x
 | true,x=>by simp [c10,z2q,toIm,MB,z3m (o:=c5 false) (c:=c5 false) (λ_=>rfl)]
 | false,_=>rfl
theorem yog (x:Xh):z1z (c10 true x)=true:=by simp [c10,z1z,z45,z2u (o:=c5 false) (λ_=>rfl)]
theorem yj9:∀ (m:Bool) (x:(List Int)),z2q (c12 m x)=c12 false x
 | true,x=>by simp [c12,z2q,toIm,MB,z3m (o:=c11 false) (c:=c11 false) (λ_=>rfl)]
 | false,_=>rfl
theorem ykx (x:(List Int)):z1z (c12 true x)=true:=by simp [c12,z1z,z45,z2u (o:=c11 false) (λ_=>rfl)]
theorem yoc:∀ (m:Bool) (x:Xi),z2q (c13 m x)=c13 false x
 | true,x=>by simp [c13,z2q,toIm,MB,z3m (o:=c12 true) (c:=c12 false) (λ_=>yj9 true _)]
 | false,_=>rfl
theorem yoh (x:Xi):z1z (c13 true x)=true:=by simp [c13,z1z,z45,z2u (o:=c12 true) (λ_=>ykx _)]
theorem yod:∀ (m:Bool) (x:Xj),z2q (c14 m x)=c14 false x
 | true,x=>by simp [c14,z2q,toIm,MB,z3m (o:=c6 false) (c:=c6 false) (λ_=>rfl)]
 | false,_=>rfl
theorem yoi (x:Xj):z1z (c14 true x)=true:=by simp [c14,z1z,z45,z2u (o:=c6 false) (λ_=>rfl)]
theorem yoe:∀ (m:Bool) (x:Xe),z2q (c15 m x)=c15 false x
 | true,x=>by simp [c15,z2q,toIm,MB,z3m (o:=c1 false) (c:=c1 false) (λ_=>rfl),z3m (o:=c2 false) (c:=c2 false) (λ_=>rfl),z3m (o:=c3 false) (c:=c3 false) (λ_=>rfl),z3m (o:=c4 false) (c:=c4 false) (λ_=>rfl)]
 | false,_=>rfl
theorem yoj (x:Xe):z1z (c15 true x)=true:=by simp [c15,z1z,z45,z2u (o:=c1 false) (λ_=>rfl),z2u (o:=c2 false) (λ_=>rfl),z2u (o:=c3 false) (λ_=>rfl),z2u (o:=c4 false) (λ_=>rfl)]
theorem ycy:∀ (m:Bool) (t:Nat) (x:El_ t),z6 T0_ [] (ct_ m t x)=ca_ m t x
 | m,0,x=>rfl
 | m,1,x=>rfl
 | m,2,x=>rfl
 | m,3,x=>rfl
 | m,4,x=>rfl
 | m,5,x=>rfl
 | m,6,x=>rfl
 | m,7,x=>by cases m<;>rfl
 | m,8,x=>rfl
 | m,9,x=>by cases m<;>rfl
 | m,10,x=>by cases m<;>rfl
 | m,11,x=>rfl
 | m,12,x=>by cases m<;>rfl
 | m,13,x=>by cases m<;>rfl
 | m,14,x=>by cases m<;>rfl
 | m,15,x=>by cases m<;>rfl
 | _,_+16,x=>rfl
theorem ycx:∀ (m:Bool) (t:Nat) (x:El_ t),z4r (T:=T0_) (ct_ m t x)=true
 | m,0,x=>rfl
 | m,1,x=>rfl
 | m,2,x=>rfl
 | m,3,x=>rfl
 | m,4,x=>rfl
 | m,5,x=>rfl
 | m,6,x=>rfl
 | m,7,x=>by cases m<;>rfl
 | m,8,x=>rfl
 | m,9,x=>by cases m<;>rfl
 | m,10,x=>by cases m<;>rfl
 | m,11,x=>rfl
 | m,12,x=>by cases m<;>rfl
 | m,13,x=>by cases m<;>rfl
 | m,14,x=>by cases m<;>rfl
 | m,15,x=>by cases m<;>rfl
 | _,_+16,x=>rfl
theorem ylj:∀ (m:Bool) (t:Nat) (cs:List (TV El_)) (x:El_ t),un_ m t cs=some x->z6 T0_ [] cs=ca_ m t x
 | m,0,cs,x=>ynt m cs x
 | m,1,cs,x=>ynu m cs x
 | m,2,cs,x=>ynv m cs x
 | m,3,cs,x=>ynw m cs x
 | m,4,cs,x=>ynx m cs x
 | m,5,cs,x=>yny m cs x
 | m,6,cs,x=>ynz m cs x
 | m,7,cs,x=>yo0 m cs x
 | m,8,cs,x=>yo1 m cs x
 | m,9,cs,x=>yo2 m cs x
 | m,10,cs,x=>yld m cs x
 | m,11,cs,x=>yle m cs x
 | m,12,cs,x=>ylf m cs x
 | m,13,cs,x=>ylg m cs x
 | m,14,cs,x=>ylh m cs x
 | m,15,cs,x=>yli m cs x
 | _,_+16,_,x=>λ_=>nomatch x
theorem yja:∀ (m:Bool) (t:Nat) (x:El_ t),z2q (ca_ m t x)=ca_ false t x
 | m,0,x=>rfl
 | m,1,x=>rfl
 | m,2,x=>rfl
 | m,3,x=>rfl
 | m,4,x=>rfl
 | m,5,x=>rfl
 | m,6,x=>rfl
 | m,7,x=>im7 m x
 | m,8,x=>rfl
 | m,9,x=>im9 m x
 | m,10,x=>yob m x
 | m,11,x=>rfl
 | m,12,x=>yj9 m x
 | m,13,x=>yoc m x
 | m,14,x=>yod m x
 | m,15,x=>yoe m x
 | _,_+16,x=>rfl
def po_:Nat->Bool
 | 0=>true
 | 1=>true
 | 2=>true
 | 3=>true
 | 4=>true
 | 5=>true
 | 6=>true
 | 7=>true
 | 8=>true
 | 9=>true
 | 10=>true
 | 11=>true
 | 12=>true
 | 13=>true
 | 14=>true
 | 15=>true
 | _+16=>true
theorem yky:∀ (t:Nat) (x:El_ t),po_ t=true->z1z (ca_ true t x)=true
 | 0,x=>λ_=>rfl
 | 1,x=>λ_=>rfl
 | 2,x=>λ_=>rfl
 | 3,x=>λ_=>rfl
 | 4,x=>λ_=>rfl
 | 5,x=>λ_=>rfl
 | 6,x=>λ_=>rfl
 | 7,x=>λ_=>ow7 x
 | 8,x=>λ_=>rfl
 | 9,x=>λ_=>ow9 x
 | 10,x=>λ_=>yog x
 | 11,x=>λ_=>rfl
 | 12,x=>λ_=>ykx x
 | 13,x=>λ_=>yoh x
 | 14,x=>λ_=>yoi x
 | 15,x=>λ_=>yoj x
 | _+16,x=>λ_=>rfl
def pl_:Nat->Bool
 | 0=>true
 | 1=>true
 | 2=>true
 | 3=>true
 | 4=>true
 | 5=>true
 | 6=>true
 | 7=>false
 | 8=>true
 | 9=>false
 | 10=>false
 | 11=>true
 | 12=>false
 | 13=>false
 | 14=>false
 | 15=>false
 | _+16=>true
theorem ykz:∀ (t:Nat) (x:El_ t),pl_ t=true->z1z (ca_ false t x)=true
 | 0,x=>λ_=>rfl
 | 1,x=>λ_=>rfl
 | 2,x=>λ_=>rfl
 | 3,x=>λ_=>rfl
 | 4,x=>λ_=>rfl
 | 5,x=>λ_=>rfl
 | 6,x=>λ_=>rfl
 | 7,x=>λh=>nomatch h
 | 8,x=>λ_=>rfl
 | 9,x=>λh=>nomatch h
 | 10,x=>λh=>nomatch h
 | 11,x=>λ_=>rfl
 | 12,x=>λh=>nomatch h
 | 13,x=>λh=>nomatch h
 | 14,x=>λh=>nomatch h
 | 15,x=>λh=>nomatch h
 | _+16,x=>λ_=>rfl
theorem yf7:∀ (t:Nat) (x:El_ t),(ca_ false t x).all zfu=true
 | 0,x=>rfl
 | 1,x=>rfl
 | 2,x=>rfl
 | 3,x=>rfl
 | 4,x=>rfl
 | 5,x=>rfl
 | 6,x=>rfl
 | 7,x=>rfl
 | 8,x=>rfl
 | 9,x=>rfl
 | 10,x=>rfl
 | 11,x=>rfl
 | 12,x=>rfl
 | 13,x=>rfl
 | 14,x=>rfl
 | 15,x=>rfl
 | _+16,x=>rfl
theorem yku:∀ (m:Bool) (t:Nat) (x:El_ t),∀ a∈ca_ m t x,isZ a=false
 | m,0,x=>z3l rfl
 | m,1,x=>z3l rfl
 | m,2,x=>z3l rfl
 | m,3,x=>z3l rfl
 | m,4,x=>z3l rfl
 | m,5,x=>z3l rfl
 | m,6,x=>z3l rfl
 | m,7,x=>by cases m<;>exact z3l rfl
 | m,8,x=>z3l rfl
 | m,9,x=>by cases m<;>exact z3l rfl
 | m,10,x=>by cases m<;>exact z3l rfl
 | m,11,x=>z3l rfl
 | m,12,x=>by cases m<;>exact z3l rfl
 | m,13,x=>by cases m<;>exact z3l rfl
 | m,14,x=>by cases m<;>exact z3l rfl
 | m,15,x=>by cases m<;>exact z3l rfl
 | _,_+16,x=>z3l rfl
theorem yki:∀ (m:Bool) (t:Nat),(ks_ m t).all (smK sz_)=true
 | m,0=>rfl
 | m,1=>rfl
 | m,2=>rfl
 | m,3=>rfl
 | m,4=>rfl
 | m,5=>rfl
 | m,6=>rfl
 | m,7=>by cases m<;>rfl
 | m,8=>rfl
 | m,9=>by cases m<;>rfl
 | m,10=>by cases m<;>rfl
 | m,11=>rfl
 | m,12=>by cases m<;>rfl
 | m,13=>by cases m<;>rfl
 | m,14=>by cases m<;>rfl
 | m,15=>by cases m<;>rfl
 | _,_+16=>rfl
theorem ykk:∀ (m:Bool) (t:Nat) (x:El_ t),(ca_ m t x).length=sz_ t % 1000000
 | m,0,x=>rfl
 | m,1,x=>rfl
 | m,2,x=>rfl
 | m,3,x=>rfl
 | m,4,x=>rfl
 | m,5,x=>rfl
 | m,6,x=>rfl
 | m,7,x=>by cases m<;>rfl
 | m,8,x=>by simp [ca_,c8,sz_]
 | m,9,x=>by cases m<;>rfl
 | m,10,x=>by cases m<;>rfl
 | m,11,x=>rfl
 | m,12,x=>by cases m<;>rfl
 | m,13,x=>by cases m<;>rfl
 | m,14,x=>by cases m<;>rfl
 | m,15,x=>by cases m<;>rfl
 | _,_+16,x=>rfl
def kO8:List Value->Bool
 | [.int .i64 _,.int .i64 _,.int .i64 _,.int .i64 _,.int .i64 _,.int .i64 _,.int .u32 _,.int .i64 _,.int .i64 _]=>true
 | _=>false
def kf8:List Value->Xg->Bool
 | [.int .i64 a0,.int .i64 a1,.int .i64 a2,.int .i64 a3,.int .i64 a4,.int .i64 a5,.int .u32 a6,.int .i64 a7,.int .i64 a8],x=>(a0==x.k_.i_.a_&&(a1==x.k_.i_.D_&&(a2==x.k_.i_.A_&&(a3==x.k_.i_.B_&&(a4==x.k_.i_.C_&&(a5==x.k_.i_.N_&&(a6==x.k_.i_.m_&&(a7==x.k_.t_.j_&&(a8==x.k_.t_.o_&&true)))))))))
 | _,_=>false
theorem ykg (m:Bool)(kv:List Value)(x:Xg)(h:kO8 kv=true):z14 (kv.map .sc) (c8 m x) (z2p 0 [0,0,0,0,0,0,0,0,0])=some (kf8 kv x):=by
 unfold kO8 at h;split at h
 ·rfl
 ·cases h
def kq_:Nat->List Nat
 | 8=>[0,0,0,0,0,0,0,0,0]
 | _=>[]
def kO_:Nat->List Value->Bool
 | 0=>λ_=>false
 | 1=>λ_=>false
 | 2=>λ_=>false
 | 3=>λ_=>false
 | 4=>λ_=>false
 | 5=>λ_=>false
 | 6=>λ_=>false
 | 7=>λ_=>false
 | 8=>kO8
 | 9=>λ_=>false
 | 10=>λ_=>false
 | 11=>λ_=>false
 | 12=>λ_=>false
 | 13=>λ_=>false
 | 14=>λ_=>false
 | 15=>λ_=>false
 | _+16=>λ_=>false
def kf_:(t:Nat)->List Value->El_ t->Bool
 | 0=>λ_ _=>false
 | 1=>λ_ _=>false
 | 2=>λ_ _=>false
 | 3=>λ_ _=>false
 | 4=>λ_ _=>false
 | 5=>λ_ _=>false
 | 6=>λ_ _=>false
 | 7=>λ_ _=>false
 | 8=>kf8
 | 9=>λ_ _=>false
 | 10=>λ_ _=>false
 | 11=>λ_ _=>false
 | 12=>λ_ _=>false
 | 13=>λ_ _=>false
 | 14=>λ_ _=>false
 | 15=>λ_ _=>false
 | _+16=>λ_ _=>false
theorem ykh:∀ (m:Bool) (t:Nat) (kv:List Value) (x:El_ t),kO_ t kv=true->z14 (kv.map .sc) (ca_ m t x) (z2p 0 (kq_ t))=some (kf_ t kv x)
 | m,0,kv,x=>λh=>nomatch h
 | m,1,kv,x=>λh=>nomatch h
 | m,2,kv,x=>λh=>nomatch h
 | m,3,kv,x=>λh=>nomatch h
 | m,4,kv,x=>λh=>nomatch h
 | m,5,kv,x=>λh=>nomatch h
 | m,6,kv,x=>λh=>nomatch h
 | m,7,kv,x=>λh=>nomatch h
 | m,8,kv,x=>ykg m kv x
 | m,9,kv,x=>λh=>nomatch h
 | m,10,kv,x=>λh=>nomatch h
 | m,11,kv,x=>λh=>nomatch h
 | m,12,kv,x=>λh=>nomatch h
 | m,13,kv,x=>λh=>nomatch h
 | m,14,kv,x=>λh=>nomatch h
 | m,15,kv,x=>λh=>nomatch h
 | _,_+16,_,_=>λh=>nomatch h
abbrev Ty_:TT where
 El:=El_
 sz:=sz_
 ca:=ca_
 ks:=ks_
 ct:=ct_
 un:=un_
 ct_ok:=ycy
 ct_in:=ycx
 un_ok:=ylj
 im_ok:=yja
 po:=po_
 ow_ok:=yky
 nz_ok:=yku
 fl_ok:=yf7
 pl:=pl_
 pl_ok:=ykz
 u8:=0
 bs:=λl=>l
 bs_ok:=λ_=>rfl
 bs_sz:=rfl
 sb:=λl=>l
 sb_ok:=λ_ _=>rfl
 ks_sm:=yki
 ln_ok:=ykk
 kq:=kq_
 kOk:=kO_
 kf:=kf_
 kf_ok:=ykh
abbrev Yaa:=Int×Int
abbrev Yab:=Int×(List Int)
abbrev Yac:=Int×(List Bool)
abbrev Yad:=Int×(List Xa)×(List Xb)×(List Xc)×(List Xd)
abbrev Yae:=(List Xa)×(List Xb)×(List Xc)×(List Xd)×(List Bool)×(List (List Int))×(List Int)×Xd
abbrev Yaf:=Int×(List (List Int))
abbrev Yag:=Int×Bool
abbrev Yah:=Bool×Int×Int×Bool×Bool
abbrev Yai:=Xe×Xd
abbrev Yaj:=Bool×(List Xa)×(List Xb)×(List Xc)×(List Xd)
abbrev Yak:=(List Xa)×(List Xb)×(List Xc)
abbrev Yal:=ByteArray×Bool
abbrev Yam:=Bool×(List Xa)×(List Xb)×(List Xc)×(List Xd)×(List Bool)×(List (List Int))×(List Int)
abbrev Yan:=Int×Int×Int
abbrev Yao:=Bool×Bool×Bool×Int×Int×Bool×Bool×Bool×Int×Int×Bool×Bool
abbrev Yap:=Int×(List Xd)×(List (List Xg))×(List Int)
abbrev Yaq:=Int×(List Int)×(List Int)
abbrev Yar:=(List Xb)×(List Xa)×(List Xb)×(List Xc)×(List Xd)
abbrev Yas:=(List Xc)×(List Xa)×(List Xb)×(List Xc)×(List Xd)
abbrev Yat:=Int×Int×Int×Int×Int×Int×Int
abbrev Yau:=(List Int)×Int
abbrev Yav:=Int×(List Xj)
abbrev Yaw:=Xk×(List (List Int))×(List (List Int))
abbrev Yax:=Int×(List Xa)×(List Xb)×(List Xc)×(List Xd)×(List Bool)×(List (List Int))×(List Int)×Int×Int×Int×Int
abbrev Yay:=Int×(List Xa)×(List Xb)×(List Xc)×(List Xd)×(List Bool)×(List (List Int))×(List Int)
abbrev Yaz:=ByteArray×Int×Int
abbrev Yba:=Xe×Xd×(List Bool)×(List Xh)
abbrev Ybb:=Int×(List Bool)×(List Xh)
abbrev Ybc:=Int×Int×Int×Int
abbrev Ybd:=Int×Int×Int×Int×Int
abbrev Ybe:=(List Xd)×Int×(List Xa)×(List Xb)×(List Xc)
abbrev Ybf:=Xe×Int×Int
abbrev Ybg:=Xk×Int
abbrev Ybh:=(List (List Xg))×(List Int)×Xd
abbrev Ybi:=(List (List Xg))×(List Int)×Xf
abbrev Ybj:=(List Xa)×ByteArray
abbrev Ybk:=Bool×Int×Int
abbrev Ybl:=Bool×(List Int)
abbrev Ybm:=Xl×Xd
abbrev Ybn:=Int×(List Xa)×(List Xb)×(List Xc)×(List Xd)×(List Xj)×(List Xa)×(List Xb)×(List Xc)×(List Xd)×(List Xj)
abbrev Ybo:=(List Int)×Int×Int
abbrev Ybp:=Bool×(List Xa)×(List Xb)×(List Xc)×(List Xd)×(List Bool)×(List (List Int))×(List Int)×Int×Int
abbrev Ybq:=(List (List Xg))×(List Int)×Int×Int×Int×Int×Int×Int×Int
abbrev Ybr:=Int×Int×(List Xa)×(List Xb)×(List Xc)×(List Xd)×(List Xj)×(List Xj)×(List (List Int))×(List (List Int))×(List (List Int))×Int
abbrev Ybs:=Xe×Xe×(List Xi)×Int
abbrev Ybt:=Bool×Int×Int×Int×Int×Int
abbrev Ybu:=Bool×Int
abbrev Ybv:=Bool×(List (List Xg))×(List Int)×Int×Int×Int×Int×Int×Int×Int
abbrev Ybw:=ByteArray×Bool×Int×Int
abbrev Ybx:=Bool×Bool
abbrev Yby:=Bool×Bool×Int×Int×Bool×Bool×Bool×Int×Int×Bool×Bool
abbrev Ybz:=(List (List Int))×(List (List Int))
abbrev Yca:=Int×Int×(List Int)
abbrev Ycb:=Bool×(List Xa)×(List Xb)×(List Xc)×(List Xd)×(List Xj)×(List Xa)×(List Xb)×(List Xc)×(List Xd)×(List Xj)
abbrev Ycc:=ByteArray×Int
abbrev Ycd:=(List Xa)×(List Xb)×(List Xc)×(List Xd)×(List Bool)×(List (List Int))×(List Int)×Int
abbrev Yce:=Xa×(List Int)×Int
abbrev Ycf:=(List Xa)×(List Xb)×(List Xc)×(List Xd)
abbrev Ycg:=Xb×(List Xa)×(List Xb)×(List Xc)×(List Xd)
abbrev Ych:=Xc×(List Xa)×(List Xb)×(List Xc)×(List Xd)
abbrev Yci:=Xb×Int×Xb
abbrev Ycj:=(List Xa)×(List Xb)×(List Xc)×(List Xd)×(List Bool)×(List (List Int))×(List Int)
abbrev Yck:=Int×Bool×(List (List Xg))×(List Int)
abbrev Ycl:=Xb×(List Xa)
abbrev Ycm:=Xc×(List Xa)
abbrev Ycn:=Xe×Int×Int×Xb
abbrev Yco:=Int×(List Xa)×(List Xb)×(List Xc)×(List Xd)×(List Xj)
abbrev Ycp:=(List Xa)×(List (List Int))
abbrev Ycq:=(List (List Int))×Int×(List Xa)×(List Xb)×(List Xc)×(List Xd)×(List Xj)
abbrev Ycr:=Bool×(List Xa)×(List Xb)×(List Xc)×(List Xd)×(List Bool)×(List (List Int))×(List Int)×Int×Int×Int×Int×Int×Int×Int
abbrev Ycs:=(List (List Int))×(List Int)
abbrev Yct:=Bool×(List (List Int))×(List Int)
abbrev Ycu:=Int×Int×Bool×Bool
abbrev Ycv:=Bool×Int×Int×Int×Int×Int×Int×Int
abbrev Ycw:=Bool×Bool×Int×Int×Bool×Bool
abbrev Ycx:=Bool×Int×Int×Bool×Bool×Bool×Int×Int×Bool×Bool
abbrev Ycy:=Bool×Int×Bool×Int×Int×Bool×Bool×Bool×Int×Int×Bool×Bool
abbrev Ycz:=(List Xa)×(List Xb)×(List Xc)×(List Xd)×(List Xj)×(List Xj)×(List (List Int))×(List (List Int))×(List (List Int))×Int
abbrev Yda:=Bool×Int×Int×Int×Int×Int×Int×Int×Int
abbrev Ydb:=(List (List Int))×Int×Int×(List Xa)×(List Xb)×(List Xc)×(List Xd)×(List Xj)
abbrev Ydc:=Bool×Int×Int×Int×Int×Int×Int×Int×Int×Int×Int×Int×Int×Int×Int
abbrev Ydd:=Int×Bool×(List Xa)×(List Xb)×(List Xc)×(List Xd)
def yf9 (n:Nat):Cx P_ Ty_:=⟨[],[(9,false,1),(15,false,2),(21,false,3),(27,false,4)],[],[]⟩
abbrev yfa:List (List Nat):=[[1,2],[1,2,3],[1,2,3],[1,2,3],[1,2,3],[2,3],[2]]
def zyq (n:Nat)(x:Xe):Pt P_ Ty_ [] (Ycf):=.need (x.g_.length * 32<=140737488355328) (.need (x.c_.length * 16<=140737488355328) (.need (x.e_.length * 32<=140737488355328) (.need (x.d_.length * 56<=140737488355328) (.leaf (x.g_,x.c_,x.e_,x.d_)))))
def yjd (n:Nat):Con P_ Ty_:=zg (X:=Xe) (R:=Ycf) (pro:=[]) (yf9 n) 7 yfa (λx=>.no) [.ag [.im 1,.im 2,.im 3,.im 4]] [] [100000] ⟨[(2,.ref 100000)],[(100000,.any)]⟩ [100000] true (λx=>[.ag [.im 1 x.g_,.im 2 x.c_,.im 3 x.e_,.im 4 x.d_]]) (λx=>[]) (λy=>([(2,.pt 100000 [] 0 0)],[(100000,.lit 4 [[.ow false 1 y.1,.ow false 2 y.2.1,.ow false 3 y.2.2.1,.ow false 4 y.q3]])])) (λy=>.ag [.sw 100000 [(0,0)],.sw 100000 [(0,1)],.sw 100000 [(0,2)],.sw 100000 [(0,3)]]) (λy=>[(100000,.lit 4 [[.ow false 1 y.1,.ow false 2 y.2.1,.ow false 3 y.2.2.1,.ow false 4 y.q3]])]) (zyq n)
set_option maxHeartbeats 1000000 in
theorem yln (s:ByteArray)(c:Int)(w:World) :
  Calls Go.Proofs.Tryz.prog 107 #[.string s,.int .u8 c] w λe w'=>e = .returned (.int .i64 (Lib.indexByte s.data.toList c.toNat.toUInt8))/\w'=w:=by
 go_enter Go.Proofs.Tryz.func107,Go.Proofs.Tryz.ntmps107
 go_wp2
 rw [run_callFunc_extern Go.Proofs.Tryz.func117 (by kernel_rfl) (by kernel_rfl) (by kernel_rfl) (e:=Extern.BytealgIndexByte.indexByte) (by kernel_rfl),Lib.run_indexByteString];simp only [Result.andThen];rw [Oper.upon_value]
 go_wp2
 go_ret
 exact ⟨rfl,rfl⟩
def g71 (_:Nat)(a0:ByteArray)(a1:Int):Option Int:=some (Lib.indexByte a0.data.toList a1.toNat.toUInt8)
theorem y3d (n:Nat)(a0:ByteArray)(a1:Int)(r:Int)(hg:g71 n a0 a1=some r):z1p Go.Proofs.Tryz.prog 107 [St a0,.sc (.int .u8 a1)] [] (I64 r) []:=by obtain rfl:=Option.some.inj hg;exact z1p.quiet (vs:=[.string a0,.int .u8 a1]) λw=>yln a0 a1 w
def k71 (n:Nat):Con Go.Proofs.Tryz.prog Ty_ where
 f:=107
 X:=ByteArray×Int
 Y:=Int
 A:=[.any,.any]
 H:=[]
 N:=[]
 encA:=λx=>[.sc (.string x.1),.sc (.int .u8 x.2)]
 encH:=λ_=>[]
 G:=λx=>g71 n x.1 x.2
 encR:=λy=>.sc (.int .i64 y)
 encO:=λ_=>[]
 strong:=true
 ok:=λx y h=>⟨λ_=>y3d n x.1 x.2 y h,z1p.toG (y3d n x.1 x.2 y h)⟩
def ynf (n:Nat):Cx P_ Ty_:=⟨[k71 n],[],[],[]⟩
abbrev yng:List (List Nat):=[[0,1],[4]]
def y9s (n:Nat)(x:Ycc):Pt P_ Ty_ [] Int:=.call (k71 n) (x.1,x.2) λ(y1:Int)=>.leaf y1
def k68 (n:Nat):Con P_ Ty_:=zg (X:=Ycc) (R:=Int) (pro:=[]) (ynf n) 96 yng (λx=>.no) [.any,.any] [] [] ⟨[(4,.any)],[]⟩ [] true (λx=>[.sc (.string x.1),.sc (.int .u8 x.2)]) (λx=>[]) (λy=>([(4,I_ y)],[])) (λy=>I_ y) (λy=>[]) (y9s n)
def y9h (n:Nat):Cx P_ Ty_:=⟨[k68 n],[],[],[]⟩
abbrev y9i:List (List Nat):=[[0],[0,11],[2],[13,14,15],[13,14,15,16],[4,13,14,15],[4,13,14,15,19],[4,13,14,15,19],[4,13,14,15,19],[13,14,15,19],[2],[13,14,15],[2]]
def y2w (x:ByteArray)(p:Bool):EH Ty_:=([(0,.sc (.string x)),(11,B_ p)],[])
def y2x (x:ByteArray)(v1:Unit)(q1:Int)(p:Yag):EH Ty_:=([(4,.sc (.int .u8 p.1)),(13,.im 0 (bytesOf x)),(14,I_ ((bytesOf x).length:Int)),(15,I_ q1),(19,B_ p.2)],[])
def y2y (x:ByteArray)(v1:Unit)(q1:Int)(p:Yag):EH Ty_:=([(4,.sc (.int .u8 p.1)),(13,.im 0 (bytesOf x)),(14,I_ ((bytesOf x).length:Int)),(15,I_ q1),(19,B_ p.2)],[])
def y2z (x:ByteArray)(v1:Unit)(q1:Int)(p:Yag):EH Ty_:=([(4,.sc (.int .u8 p.1)),(13,.im 0 (bytesOf x)),(14,I_ ((bytesOf x).length:Int)),(15,I_ q1),(19,B_ p.2)],[])
def y35 (x:ByteArray)(v1:Unit)(q1:Int)(p:Bool):EH Ty_:=([(13,.im 0 (bytesOf x)),(14,I_ ((bytesOf x).length:Int)),(15,I_ q1),(19,B_ p)],[])
def y36 (n:Nat)(x:ByteArray)(v1:Unit)(q1:Int):Pt P_ Ty_ [] (Bo Int Int Unit):=.ite (decide (q1<((bytesOf x).length:Int))) (.bnd (idx (bytesOf x) q1) λy1=>.join (S:=Bool) (y35 x v1 q1) (.join (S:=Yag) (y2x x v1 q1) (.ite (decide (y1>=(65:Int))) (.leaf (.inl (y1,(decide (y1<=(90:Int)))))) (.leaf (.inl (y1,false)))) λs2=>.ite s2.2 (.leaf (.inl true)) (.join (S:=Yag) (y2y x v1 q1) (.ite (decide (s2.1>=(97:Int))) (.leaf (.inl (s2.1,(decide (s2.1<=(122:Int)))))) (.leaf (.inl (s2.1,false)))) λs3=>.ite s3.2 (.leaf (.inl true)) (.join (S:=Yag) (y2z x v1 q1) (.ite (decide (s3.1>=(48:Int))) (.leaf (.inl (s3.1,(decide (s3.1<=(57:Int)))))) (.leaf (.inl (s3.1,false)))) λs4=>.ite s4.2 (.leaf (.inl true)) (.call (k68 n) ((⟨#[95,46,47,45]⟩:ByteArray),s4.1) λ(y2:Int)=>.leaf (.inl (decide (y2>=(0:Int)))))))) λs5=>.ite s5 (.leaf (.go (i64.wrap (q1+(1:Int))))) (.leaf (.ret ()))) (.leaf (.out q1))
def y2v (n:Nat)(x:ByteArray)(v1:Unit):z16 P_ Ty_ []:=z1f (X:=Int) (Y:=Int) (Z:=Unit) (y9h n) (z18 [1,1,0,1,0,0] (fnC P_ 78 y9i)) (λq1=>.two .no (.two .no (.two (.two (.two .no (.two (.join Bool (y35 x v1 q1) ⟨[(13,.im 0),(14,.any),(15,.any),(19,.any)],[]⟩ (.join (Yag) (y2x x v1 q1) ⟨[(4,.any),(13,.im 0),(14,.any),(15,.any),(19,.any)],[]⟩ .no (.two .no (.join (Yag) (y2y x v1 q1) ⟨[(4,.any),(13,.im 0),(14,.any),(15,.any),(19,.any)],[]⟩ .no (.two .no (.join (Yag) (y2z x v1 q1) ⟨[(4,.any),(13,.im 0),(14,.any),(15,.any),(19,.any)],[]⟩ .no .no))))) .no) .no)) .no) .no))) 0 true ⟨[(13,.im 0),(14,.any),(15,.any)],[]⟩ ⟨[(13,.im 0),(14,.any),(15,.any),(16,.any)],[]⟩ ⟨[(2,.any)],[]⟩ (λq1=>([(13,.im 0 (bytesOf x)),(14,I_ ((bytesOf x).length:Int)),(15,I_ q1)],[])) (λp=>([(13,.im 0 (bytesOf x)),(14,I_ ((bytesOf x).length:Int)),(15,I_ p),(16,B_ false)],[])) (λp=>([(2,B_ false)],[])) n (y36 n x v1)
def y9j (n:Nat)(x:ByteArray):Pt P_ Ty_ [] Bool:=.join (S:=Bool) (y2w x) (.ite (x==(⟨#[]⟩:ByteArray)) (.leaf (.inl true)) (.leaf (.inl (decide ((x.size:Int) > (64:Int)))))) λs1=>.ite s1 (.leaf false) (.loopR (V:=Unit) (y2v n x) () (0:Int) (λ(v1:Unit) (y3:Int)=>.leaf true) λ(v1:Unit) (z1:Unit)=>.leaf false)
def k61 (n:Nat):Con P_ Ty_:=zg (X:=ByteArray) (R:=Bool) (pro:=[]) (y9h n) 78 y9i (λx=>.two .no (.two (.join Bool (y2w x) ⟨[(0,.any),(11,.any)],[]⟩ .no .no) (.two (.two .no (.two (.loop Unit (y2v n x) true ⟨[(13,.im 0),(14,.any),(15,.any)],[]⟩) .no)) .no))) [.any] [] [] ⟨[(2,.any)],[]⟩ [] true (λx=>[.sc (.string x)]) (λx=>[]) (λy=>([(2,B_ y)],[])) (λy=>B_ y) (λy=>[]) (y9j n)
def ymp (n:Nat):Cx P_ Ty_:=⟨[k61 n],[],[],[]⟩
abbrev ymq:List (List Nat):=[[1],[2]]
def y8u (n:Nat)(x:Xa):Pt P_ Ty_ [] Bool:=.call (k61 n) x.q_ λ(y1:Bool)=>.ite y1 (.ite (x.j_==1) (.ite (decide (x.r_>=(1:Int))) (.leaf (decide (x.r_<=(4096:Int)))) (.leaf false)) (.ite (x.j_==2) (.ite (decide (x.r_>=(1:Int))) (.leaf (decide (x.r_<=(4096:Int)))) (.leaf false)) (.leaf false))) (.leaf false)
def k48 (n:Nat):Con P_ Ty_:=zg (X:=Xa) (R:=Bool) (pro:=[]) (ymp n) 57 ymq (λx=>.no) [.ag [.any,.any,.any]] [] [] ⟨[(2,.any)],[]⟩ [] true (λx=>[.ag [.sc (.string x.q_),I_ x.j_,I_ x.r_]]) (λx=>[]) (λy=>([(2,B_ y)],[])) (λy=>B_ y) (λy=>[]) (y8u n)
def yn5 (n:Nat):Cx P_ Ty_:=⟨[k48 n],[],[],[]⟩
abbrev yn6:List (List Nat):=[[1],[1,3],[2],[1,7],[2],[2]]
def y9k (n:Nat)(x:Xa):Pt P_ Ty_ [] Int:=.call (k48 n) x λ(y1:Bool)=>.ite (!y1) (.leaf (0:Int)) (.ite (x.j_==2) (.leaf (i64.wrap ((2:Int) * x.r_))) (.leaf x.r_))
def k62 (n:Nat):Con P_ Ty_:=zg (X:=Xa) (R:=Int) (pro:=[]) (yn5 n) 79 yn6 (λx=>.no) [.ag [.any,.any,.any]] [] [] ⟨[(2,.any)],[]⟩ [] true (λx=>[.ag [.sc (.string x.q_),I_ x.j_,I_ x.r_]]) (λx=>[]) (λy=>([(2,I_ y)],[])) (λy=>I_ y) (λy=>[]) (y9k n)
def y8v (n:Nat):Cx P_ Ty_:=⟨[k62 n],[],[],[]⟩
abbrev y8w:List (List Nat):=[[0],[0,3],[3,6,7,8],[3,6,7,8,9],[3,5,6,7,8],[3,6,7,8],[3,6,7,8],[2]]
def y2c (n:Nat)(x:(List Xa))(v1:Unit)(q1:Yaa):Pt P_ Ty_ [] (Bo (Yaa) (Yaa) Empty):=.ite (decide (q1.2<(x.length:Int))) (.bnd (idx x q1.2) λy1=>.call (k62 n) y1 λ(y2:Int)=>.leaf (.go ((i64.wrap (q1.1+y2)),(i64.wrap (q1.2+(1:Int)))))) (.leaf (.out (q1.1,q1.2)))
def y2b (n:Nat)(x:(List Xa))(v1:Unit):z16 P_ Ty_ []:=z1f (X:=Yaa) (Y:=Yaa) (Z:=Empty) (y8v n) (z18 [1,1,0,1,0,0] (fnC P_ 58 y8w)) (λq1=>.no) 0 false ⟨[(3,.any),(6,.im 1),(7,.any),(8,.any)],[]⟩ ⟨[(3,.any),(6,.im 1),(7,.any),(8,.any),(9,.any)],[]⟩ ⟨[],[]⟩ (λq1=>([(3,I_ q1.1),(6,.im 1 x),(7,I_ (x.length:Int)),(8,I_ q1.2)],[])) (λp=>([(3,I_ p.1),(6,.im 1 x),(7,I_ (x.length:Int)),(8,I_ p.2),(9,B_ false)],[])) (λp=>nomatch p) n (y2c n x v1)
def y8x (n:Nat)(x:(List Xa)):Pt P_ Ty_ [] Int:=.loop (V:=Unit) (y2b n x) () ((0:Int),(0:Int)) λ(v1:Unit) (y3:Yaa)=>.leaf y3.1
def k49 (n:Nat):Con P_ Ty_:=zg (X:=(List Xa)) (R:=Int) (pro:=[]) (y8v n) 58 y8w (λx=>.two .no (.two .no (.two (.two .no (.two (.loop Unit (y2b n x) false ⟨[(3,.any),(6,.im 1),(7,.any),(8,.any)],[]⟩) .no)) .no))) [.im 1] [] [] ⟨[(2,.any)],[]⟩ [] true (λx=>[.im 1 x]) (λx=>[]) (λy=>([(2,I_ y)],[])) (λy=>I_ y) (λy=>[]) (y8x n)
def y0z (n:Nat)(a0:List Xa):Option Int:=(k49 n).G a0
def zjq (n:Nat)(a0:Xa):Option Bool:=(k48 n).G a0
theorem yj3 (n:Nat)(p:Xa)(v:Bool)(hv:(k48 n).G p=some v):z1p Go.Proofs.Tryz.prog 57 [.ag [St p.q_,I64 p.j_,I64 p.r_]] [] (Bl v) []:=((k48 n).ok p v hv).1 rfl
theorem yj4 (n:Nat)(p:List Xa)(v:Int)(hv:(k49 n).G p=some v):z1p Go.Proofs.Tryz.prog 58 [.im 3 (p.map (c1 false))] [] (I64 v) []:=((k49 n).ok p v hv).1 rfl
/-- sign.Check over the parameters: none: one may not be;else the names,each once. -/
def zbu (n:Nat):List Xa->List ByteArray->Option (Option (List ByteArray))
 | [],ks=>some (some ks)
 | p::l,ks=>(zjq n p).bind λv=>bif v then zbu n l (bif has p.q_ ks then ks else ks++[p.q_]) else some none
def z9y (n:Nat)(a0:List Xa):Option (List ByteArray)->Option Int
 | none=>some 100
 | some ks=>bif decide ((ks.length:Int)<((a0.map (c1 false)).length:Int)) then some 101 else (y0z n a0).bind λv=>bif decide (v > 65536) then some 102 else some 0
def g28 (n:Nat)(a0:List Xa):Option Int:=bif decide (((a0.map (c1 false)).length:Int) > 64) then some 2 else (zbu n a0 []).bind (z9y n a0)

namespace F28
abbrev P:Program:=Go.Proofs.Tryz.prog
def b:Code:=(Go.Proofs.Tryz.f36.body).getD .skip
theorem body:Go.Proofs.Tryz.f36.body=some b:=by kernel_rfl
theorem e1:b = .seq (lf b) (.seq (lf (rt b)) (.seq (.region (rid (lf (rt (rt b)))) (z8o (lf (rt (rt b)))) false) (.seq (lf (rt (rt (rt b)))) (rt (rt (rt (rt b))))))):=by kernel_rfl
abbrev R3:Array Oper:=z8o (lf (rt (rt b)))
def z:Code:=lf (rt (rt (rt b)))
def q:Code:=rt (rt (rt (rt b)))
def l:Code:=lf (lf (rt z))
theorem e2:z = .seq (lf z) (.block 0 (.loop l)):=by kernel_rfl
theorem e3:l = .seq (lf l) (.seq (.cond (.tmp 13) .skip (.exit 0)) (.seq (.block 1 (.seq (lf (lf (lf (rt (rt l))))) (.seq (lf (rt (lf (lf (rt (rt l)))))) (.region (rid (rt (rt (lf (lf (rt (rt l))))))) (z8o (rt (rt (lf (lf (rt (rt l))))))) false)))) (rt (rt (rt l))))):=by kernel_rfl
abbrev R9:Array Oper:=z8o (rt (rt (lf (lf (rt (rt l))))))
theorem e4:q = .seq (.block 2 (.seq (.region (rid (lf (lf (lf q)))) (z8o (lf (lf (lf q)))) false) (rt (lf (lf q))))) (rt q):=by kernel_rfl
abbrev R11:Array Oper:=z8o (lf (lf (lf q)))
end F28
namespace F28
abbrev xs (a0:List Xa):Els:=a0.map (c1 false)
abbrev mp (b:Nat):AV:=.sc (.map (some b))
/-- The slots at the loop's head. -/
abbrev EL (a0:List Xa)(b:Nat)(i:Int):Env:=z19 [(0,.im 3 (xs a0)),(3,mp b),(10,.im 3 (xs a0)),(11,I64 ((xs a0).length:Int)),(12,I64 i)]
abbrev EL' (a0:List Xa)(b:Nat)(i:Int):Env:=z19 [(0,.im 3 (xs a0)),(3,mp b),(10,.im 3 (xs a0)),(11,I64 ((xs a0).length:Int)),(12,I64 i),(13,Bl (decide (i<((xs a0).length:Int))))]
theorem ut:P.underlying 122=some (.map 9 3):=by kernel_rfl
theorem uk:P.underlying 9=some .string:=by kernel_rfl
theorem uz (w:World):(zeroValue 3).run P w = .ok (.int .i64 0) w:=by kernel_rfl

theorem ylr {w0 w:World}{a:Act}{a0:List Xa}{bm:Nat}{ks:List ByteArray}{i:Int}{p:Xa}{Q:Exit->Act->World->Prop}
  (n:Now 35 w0 (some (bm,ks)) (z19 [(0,.im 3 (xs a0)),(3,mp bm),(5,.pt 5 [] 0 0),(10,.im 3 (xs a0)),(11,I64 ((xs a0).length:Int)),(12,I64 i),(18,Bl false)]) [(5,⟨3,[[St p.q_,I64 p.j_,I64 p.r_]]⟩)] a w)
  (hK:∀ a' w',Now 35 w0 (some (bm,bif has p.q_ ks then ks else ks++[p.q_])) (EL a0 bm i) [] a' w'->Q .normal a' w') :
  (Code.region (rid (rt (rt (lf (lf (rt (rt l))))))) R9 false).wp P Q a w:=by
 refine wp_region ?_;have hr:range R9.size=[0,1,2,3,4,5]:=by kernel_rfl
 rw [hr];refine n.rda (d:=19) (b:=.mov (.tmp 3)) (mp bm) (by kernel_rfl) (by kernel_rfl) λa w n=>?_;refine n.rda (d:=20) (b:=.fad 0 (.tmp 5)) (.pt 5 [] 0 0) (by kernel_rfl) (by kernel_rfl) λa w n=>?_;refine n.rda (d:=21) (b:=.load false 1 (.tmp 20)) (St p.q_) (by kernel_rfl) (by kernel_rfl) λa w n=>?_;obtain ⟨o,ho,hg,hd,hop⟩:=zk9 (ops:=R9) (i:=3) (g:=none) (d:=some 22) (op:=.lookup 122 (.tmp 19) (.tmp 21) false) (by kernel_rfl);obtain ⟨c,hc⟩:=(n.km bm ks rfl).1.lookup (P:=P) ut uk (uz w) p.q_;have hm:a.eval (.tmp 19) = .map (some bm):=n.eval rfl;have hk:a.eval (.tmp 21) = .string p.q_:=n.eval rfl;refine n.val (v:=.int .i64 c) ho hg hd (by decide) (by simp only [execOp,hop,hm,hk,Sem.run_bind,hc,Result.andThen];rfl) λa n=>?_;refine n.rda (d:=23) (b:=.bin .add (.tmp 22) (.const (.int .i64 1))) (I64 (i64.wrap (c+1))) (by kernel_rfl) (by kernel_rfl) λa w n=>?_;obtain ⟨o,ho,hg,hd,hop⟩:=zk9 (ops:=R9) (i:=5) (g:=none) (d:=none) (op:=.mapUpdate 122 (.tmp 19) (.tmp 21) (.tmp 23)) (by kernel_rfl);refine n.upd ho hg hd hop ut uk rfl rfl rfl λa w n=>?_;exact hK _ _ (n.gh (z8.norm (P:=P) (bm:=[]) (S:=[0,3,10,11,12]) (by kernel_rfl)))

theorem loop {n:Nat}{w0:World}{a0:List Xa}{bm:Nat}{r:Int}{Q:Exit->Act->World->Prop}(he:∀ ks a w,z9y n a0 (some ks)=some r->Now 35 w0 (some (bm,ks)) (EL' a0 bm a0.length) [] a w->Q (.exit 0) a w)
  (hr:∀ m e' h' a' w',z85 e' h' [.t 2]=some (I64 r)->Now 35 w0 m e' h' a' w'->Q .ret a' w'):∀ (rest pre:List Xa) (ks:List ByteArray) (a:Act) (w:World),a0=pre++rest->a0.length<=64->(zbu n rest ks).bind (z9y n a0)=some r ->
  Now 35 w0 (some (bm,ks)) (EL a0 bm pre.length) [] a w->z3r P F28.l Q a w:=by
 intro rest
 induction rest with
 | nil =>
  intro pre ks a w hp hlen hg nw;refine z3r.step (Eq.mpr (congrArg (λX:Code=>X.wp P (Exit.then (z3r P F28.l Q) Q) a w) e3) ?_)
  focus
   refine wp_seq (nw.ex (c:=.reg [0,3,10,11,12,13] [⟨13,none,.rd (.bin .lss (.tmp 12) (.tmp 11))⟩]) (R:=λo e h=>o = .normal/\e=EL' a0 bm pre.length/\h=[]) ⟨[[0,3,10,11,12,13]],[],by kernel_rfl⟩ (W.regG (RG.fin 1 [] _ [] (by kernel_rfl) ⟨rfl,rfl,rfl⟩)) ?_);rintro o e h a w ⟨rfl,rfl,rfl⟩ nw;refine wp_seq (wp_cond (t:=false) ?_ (wp_exit ?_))
   ·rw [nw.eval (v:=.bool (decide ((pre.length:Int)<((xs a0).length:Int)))) rfl];simp [xs,hp]
   ·refine he ks a w ?_ ?_
    ·simpa [zbu] using hg
    ·have:pre.length=a0.length:=by simp [hp]
     rw [<- this];exact nw
 | cons p rest ih =>
  intro pre ks a w hp hlen hg nw
  have hi:idx a0 (pre.length:Int)=some p:=by simp [idx,hp]
  have hl:pre.length<a0.length:=by simp [hp]
  refine z3r.step (Eq.mpr (congrArg (λX:Code=>X.wp P (Exit.then (z3r P F28.l Q) Q) a w) e3) ?_)
  focus
   refine wp_seq (nw.ex (c:=.reg [0,3,10,11,12,13] [⟨13,none,.rd (.bin .lss (.tmp 12) (.tmp 11))⟩]) (R:=λo e h=>o = .normal/\e=EL' a0 bm pre.length/\h=[]) ⟨[[0,3,10,11,12,13]],[],by kernel_rfl⟩ (W.regG (RG.fin 1 [] _ [] (by kernel_rfl) ⟨rfl,rfl,rfl⟩)) ?_);rintro o e h a w ⟨rfl,rfl,rfl⟩ nw;refine wp_seq (wp_cond (t:=true) ?_ (wp_skip ?_))
   ·rw [nw.eval (v:=.bool (decide ((pre.length:Int)<((xs a0).length:Int)))) rfl];simp [xs,hp];omega
   show (Code.seq _ _).wp _ _ _ _
   refine wp_seq (wp_block (wp_seq (nw.ex (c:=.reg [0,3,5,10,11,12] [⟨14,none,.rd (.iad 3 (.tmp 10) (.tmp 12))⟩,⟨15,none,.rd (.load true 3 (.tmp 14))⟩,⟨5,none,.mk (.box 3 (.const (.agg #[(.string ⟨#[]⟩),(.int .i64 (0)),(.int .i64 (0))])))⟩,⟨35,none,.st 3 (.tmp 5) (.tmp 15)⟩])
    (R:=λo e h=>o = .normal/\e=z19 [(0,.im 3 (xs a0)),(3,mp bm),(5,.pt 5 [] 0 0),(10,.im 3 (xs a0)),(11,I64 ((xs a0).length:Int)),(12,I64 pre.length)]/\h=[(5,⟨3,[[St p.q_,I64 p.j_,I64 p.r_]]⟩)])
    ⟨[[0,3,5,10,11,12]],[],by kernel_rfl⟩ (W.regG ?_) ?_)))
   ·refine RG.iadIm (R:=Xa) (r:=p) (E:=some) (c:=(c1 false)) (xs:=a0) (i:=pre.length) (k:=.i64) (by kernel_rfl) (by kernel_rfl) (by kernel_rfl) (by rw [hi];rfl) (λy2 _ hg=>?_);cases hg;exact RG.fin 3 [(5,5)] _ _ (by kernel_rfl) ⟨rfl,rfl,rfl⟩
   rintro o e h a w ⟨rfl,rfl,rfl⟩ nw;obtain ⟨v,hv,hg⟩:=Option.bind_eq_some_iff.1 (show ((zjq n p).bind λv=>(bif v then zbu n rest (bif has p.q_ ks then ks else ks++[p.q_]) else some none).bind (z9y n a0))=some r by rw [<- Option.bind_assoc];exact hg);show (Code.seq _ _).wp _ _ _ _
   refine wp_seq (nw.ex (c:=.seq (.reg [0,3,5,10,11,12,18] [⟨16,none,.rd (.load true 3 (.tmp 5))⟩,⟨17,none,.call 57 [(.tmp 16)]⟩,⟨18,none,.rd (.un1 .not (.tmp 17))⟩]) (.cond (.tmp 18) (.seq (.reg [2] [⟨2,none,.rd (.mov (.const (.int .i64 100)))⟩]) .ret) .skip))
    (R:=λo e h=>(o = .ret/\v=false/\e=z19 [(2,I64 100)])\/(o = .normal/\v=true/\e=z19 [(0,.im 3 (xs a0)),(3,mp bm),(5,.pt 5 [] 0 0),(10,.im 3 (xs a0)),(11,I64 ((xs a0).length:Int)),(12,I64 pre.length),(18,Bl false)]/\h=[(5,⟨3,[[St p.q_,I64 p.j_,I64 p.r_]]⟩)]))
    ⟨[[0,3,5,10,11,12,18],[2]],[],by kernel_rfl⟩ ?_ ?_)
   ·refine W.seq (W.regG ?_);refine RG.cut 1 [(5,5)] [0,3,5,10,11,12,16] (z19 [(0,.im 3 (xs a0)),(3,mp bm),(5,.pt 5 [] 0 0),(10,.im 3 (xs a0)),(11,I64 ((xs a0).length:Int)),(12,I64 pre.length),(16,.ag [St p.q_,I64 p.j_,I64 p.r_])]) [(5,⟨3,[[St p.q_,I64 p.j_,I64 p.r_]]⟩)] (by kernel_rfl) ?_;refine RG.callP (R:=Bool) (r:=v) (E:=some) [] [(5,5)] [0,3,5,10,11,12,17] false [.ag [St p.q_,I64 p.j_,I64 p.r_]] (λv2=>Bl v2) (λv2=>[]) (λv2=>z19 [(0,.im 3 (xs a0)),(3,mp bm),(5,.pt 5 [] 0 0),(10,.im 3 (xs a0)),(11,I64 ((xs a0).length:Int)),(12,I64 pre.length),(17,Bl v2)]) (λv2=>[(5,⟨3,[[St p.q_,I64 p.j_,I64 p.r_]]⟩)]) (by kernel_rfl) (gv:=zjq n p) (by rw [hv];rfl) (by kernel_rfl) (λv2 hv=>z1p.toG (yj3 n p v2 hv)) (by kernel_rfl) (λv2=>by kernel_rfl) (λh=>by cases h) (λv2 hv' hg'=>?_);cases hg';refine RG.fin 1 [(5,5)] (z19 [(0,.im 3 (xs a0)),(3,mp bm),(5,.pt 5 [] 0 0),(10,.im 3 (xs a0)),(11,I64 ((xs a0).length:Int)),(12,I64 pre.length),(18,Bl (!v))]) [(5,⟨3,[[St p.q_,I64 p.j_,I64 p.r_]]⟩)] (by kernel_rfl) ?_;cases v with | true=>exact W.condF (by kernel_rfl) (W.skip (.inr ⟨rfl,rfl,rfl,rfl⟩)) | false=>exact W.condT (by kernel_rfl) (W.seq (W.regG (RG.fin 1 [] (z19 [(2,I64 100)]) [] (by kernel_rfl) (W.ret (.inl ⟨rfl,rfl,rfl⟩)))))
   rintro o e h a w (⟨rfl,rfl,rfl⟩ | ⟨rfl,rfl,rfl,rfl⟩) nw
   ·simp only [z9y,cond_false,Option.bind_some,Option.some.injEq] at hg;subst hg;exact hr _ _ _ _ _ rfl nw
   ·refine ylr nw λa w nw=>?_;refine nw.ex (c:=.reg [0,3,10,11,12] [⟨24,none,.rd (.bin .add (.tmp 12) (.const (.int .i64 1)))⟩,⟨12,none,.rd (.mov (.tmp 24))⟩]) (R:=λo e h=>o = .normal/\e=EL a0 bm (i64.wrap (pre.length+1))/\h=[]) ⟨[[0,3,10,11,12]],[],by kernel_rfl⟩ (W.regG (RG.fin 2 [] _ [] (by kernel_rfl) ⟨rfl,rfl,rfl⟩)) ?_;rintro o e h a w ⟨rfl,rfl,rfl⟩ nw
    have hw:i64.wrap ((pre.length:Int)+1)=((pre++[p]).length:Int):=by
     have:(pre.length:Int)<64:=by omega
     simp only [List.length_append,List.length_singleton];rw [zhf (by omega) (by omega)];simp
    rw [hw] at nw;exact ih (pre++[p]) _ a w (by simp [hp]) hlen hg nw

theorem tail {n:Nat}{w0 w:World}{a:Act}{a0:List Xa}{bm:Nat}{ks:List ByteArray}{r:Int}{Q:Exit->Act->World->Prop}(hg:z9y n a0 (some ks)=some r)(nw:Now 35 w0 (some (bm,ks)) (EL' a0 bm a0.length) [] a w)
  (hr:∀ m e' h' a' w',z85 e' h' [.t 2]=some (I64 r)->Now 35 w0 m e' h' a' w'->Q .ret a' w'):q.wp P Q a w:=by
 rw [e4];refine wp_seq (wp_block (wp_seq (wp_region ?_)));have h11:range (z8o (lf (lf (lf q)))).size=[0,1,2,3,4,5]:=by kernel_rfl
 rw [h11];refine nw.rda (d:=26) (b:=.mov (.tmp 3)) (mp bm) (by kernel_rfl) (by kernel_rfl) λa w nw=>?_;obtain ⟨o,ho,hgd,hd,hop⟩:=zk9 (ops:=R11) (i:=1) (g:=none) (d:=some 27) (op:=.call { callee:=.builtin .len,args:=#[.tmp 26],argTypes:=#[122] }) (by kernel_rfl);have hm:a.eval (.tmp 26) = .map (some bm):=nw.eval rfl;have hc:=(nw.km bm ks rfl).1.len (P:=P) ut o.type;refine nw.val (v:=.int .i64 ks.length) ho hgd hd (by decide) (by simp [execOp,hop,resolve,invoke,builtin,hm,hc,Result.andThen]) λa nw=>?_;refine nw.rda (d:=28) (b:=.mov (.tmp 0)) (.im 3 (xs a0)) (by kernel_rfl) (by kernel_rfl) λa w nw=>?_;refine nw.rda (d:=29) (b:=.len (.tmp 28)) (I64 ((xs a0).length:Int)) (by kernel_rfl) (by kernel_rfl) λa w nw=>?_;refine nw.rda (d:=30) (b:=.bin .lss (.tmp 27) (.tmp 29)) (Bl (decide ((ks.length:Int)<((xs a0).length:Int)))) (by kernel_rfl) (by kernel_rfl) λa w nw=>?_;refine nw.rda (d:=25) (b:=.mov (.tmp 30)) (Bl (decide ((ks.length:Int)<((xs a0).length:Int)))) (by kernel_rfl) (by kernel_rfl) λa w nw=>?_;have nw:=nw.gh (z8.norm (P:=P) (bm:=[]) (S:=[0,25]) (e1:=z19 [(0,.im 3 (xs a0)),(25,Bl (decide ((ks.length:Int)<((xs a0).length:Int))))]) (h1:=[]) (by kernel_rfl))
 refine nw.ex (c:=.cond (.tmp 25) (.seq (.reg [2] [⟨2,none,.rd (.mov (.const (.int .i64 101)))⟩]) .ret)
   (.seq (.reg [31] [⟨32,none,.rd (.mov (.tmp 0))⟩,⟨33,none,.call 58 [(.tmp 32)]⟩,⟨34,none,.rd (.bin .gtr (.tmp 33) (.const (.int .i64 65536)))⟩,⟨31,none,.rd (.mov (.tmp 34))⟩]) (.cond (.tmp 31) (.seq (.reg [2] [⟨2,none,.rd (.mov (.const (.int .i64 102)))⟩]) .ret) .skip)))
  (R:=λo e h=>(o = .ret/\e=z19 [(2,I64 r)])\/(o = .normal/\r=0/\h=[]))
  ⟨[[2],[31],[2]],[],by kernel_rfl⟩ ?_ ?_
 ·unfold z9y at hg;refine W.condB (by kernel_rfl) hg (λhg=>?_) (λhg=>?_)
  ·obtain rfl:=Option.some.inj hg;exact W.seq (W.regG (RG.fin 1 [] (z19 [(2,I64 101)]) [] (by kernel_rfl) (W.ret (.inl ⟨rfl,rfl⟩))))
  ·refine W.seq (W.regG ?_);refine RG.cut 1 [] [32] (z19 [(32,.im 3 (xs a0))]) [] (by kernel_rfl) ?_;refine RG.callP [] [] [33] false [.im 3 (xs a0)] (λv2=>I64 v2) (λv2=>[]) (λv2=>z19 [(33,I64 v2)]) (λv2=>[]) (by kernel_rfl) hg (by kernel_rfl) (λv2 hv=>z1p.toG (yj4 n a0 v2 hv)) (by kernel_rfl) (λv2=>by kernel_rfl) (λh=>by cases h) (λv2 hv hg=>?_);refine RG.fin 2 [] (z19 [(31,Bl (decide (v2 > 65536)))]) [] (by kernel_rfl) ?_;refine W.condB (by kernel_rfl) hg (λhg=>?_) (λhg=>?_)
   ·obtain rfl:=Option.some.inj hg;exact W.seq (W.regG (RG.fin 1 [] (z19 [(2,I64 102)]) [] (by kernel_rfl) (W.ret (.inl ⟨rfl,rfl⟩))))
   ·obtain rfl:=Option.some.inj hg;exact W.skip (.inr ⟨rfl,rfl,rfl⟩)
 rintro o e h a w (⟨rfl,rfl⟩ | ⟨rfl,rfl,rfl⟩) nw
 ·exact hr _ _ _ _ _ rfl nw
 ·refine nw.ex (c:=.seq (.reg [2] [⟨2,none,.rd (.mov (.const (.int .i64 0)))⟩]) .ret) (R:=λo e h=>o = .ret/\e=z19 [(2,I64 0)]) ⟨[[2]],[],by kernel_rfl⟩ (W.seq (W.regG (RG.fin 1 [] (z19 [(2,I64 0)]) [] (by kernel_rfl) (W.ret ⟨rfl,rfl⟩)))) ?_;rintro o e h a w ⟨rfl,rfl⟩ nw;exact hr _ _ _ _ _ rfl nw
end F28
open F28 in
theorem y1a (n:Nat)(a0:List Xa)(r:Int)(hg:g28 n a0=some r):z1p Go.Proofs.Tryz.prog 36 [.im 3 (a0.map (c1 false))] [] (I64 r) []:=by
 refine Now.call (P:=P) (N:=35) (fn:=Go.Proofs.Tryz.f36) (ts:=[.t 2]) (by kernel_rfl) F28.body (by kernel_rfl) (by kernel_rfl) λa w0 Q nw hr=>?_;rw [e1];refine wp_seq (nw.ex (c:=.reg [0] [⟨2,none,.rd (.mov (.const (.int .i64 0)))⟩]) (R:=λo e h=>o = .normal/\e=z19 [(0,.im 3 (xs a0))]/\h=[]) ⟨[[0]],[],by kernel_rfl⟩ (W.regG (RG.fin 1 [] _ [] (by kernel_rfl) ⟨rfl,rfl,rfl⟩)) ?_);rintro o e h a w ⟨rfl,rfl,rfl⟩ nw;show (Code.seq _ _).wp _ _ _ _;unfold g28 at hg
 refine wp_seq (nw.ex (c:=.seq (.reg [0,8] [⟨6,none,.rd (.mov (.tmp 0))⟩,⟨7,none,.rd (.len (.tmp 6))⟩,⟨8,none,.rd (.bin .gtr (.tmp 7) (.const (.int .i64 64)))⟩]) (.cond (.tmp 8) (.seq (.reg [2] [⟨2,none,.rd (.mov (.const (.int .i64 2)))⟩]) .ret) .skip))
  (R:=λo e h=>(o = .ret/\e=z19 [(2,I64 r)])\/(o = .normal/\a0.length<=64/\(zbu n a0 []).bind (z9y n a0)=some r/\e=z19 [(0,.im 3 (xs a0)),(8,Bl (decide (((xs a0).length:Int) > 64)))]/\h=[])) ⟨[[0,8],[2]],[],by kernel_rfl⟩ ?_ ?_)
 ·refine W.seq (W.regG (RG.fin 3 [] (z19 [(0,.im 3 (xs a0)),(8,Bl (decide (((xs a0).length:Int) > 64)))]) [] (by kernel_rfl) ?_));cases hd:decide (((xs a0).length:Int) > 64) with
  | true =>rw [hd] at hg;obtain rfl:=Option.some.inj hg;exact W.condT (by kernel_rfl) (W.seq (W.regG (RG.fin 1 [] (z19 [(2,I64 2)]) [] (by kernel_rfl) (W.ret (.inl ⟨rfl,rfl⟩)))))
  | false =>rw [hd] at hg;refine W.condF (by kernel_rfl) (W.skip (.inr ⟨rfl,?_,hg,rfl,rfl⟩));simp [xs] at hd;omega
 rintro o e h a w (⟨rfl,rfl⟩ | ⟨rfl,hlen,hg,rfl,rfl⟩) nw
 ·exact hr _ _ _ _ _ rfl nw
 show (Code.seq _ _).wp _ _ _ _;refine wp_seq (wp_region ?_);have h3:range (z8o (lf (rt (rt b)))).size=[0,1]:=by kernel_rfl
 rw [h3];obtain ⟨o,ho,hgd,hd,hop⟩:=zk9 (ops:=R3) (i:=0) (g:=none) (d:=some 9) (op:=.makeMap 122 none) (by kernel_rfl);refine nw.make ho hgd hd (by decide) hop λbm a w nw=>?_;refine nw.rda (d:=3) (b:=.mov (.tmp 9)) (mp bm) (by kernel_rfl) (by kernel_rfl) λa w nw=>?_;have nw:=nw.gh (z8.norm (P:=P) (bm:=[]) (S:=[0,3]) (e1:=z19 [(0,.im 3 (xs a0)),(3,mp bm)]) (h1:=[]) (by kernel_rfl));show (Code.seq z q).wp _ _ _ _;refine wp_seq ?_;rw [e2];refine wp_seq (nw.ex (c:=.reg [0,3,10,11,12] [⟨10,none,.rd (.mov (.tmp 0))⟩,⟨11,none,.rd (.len (.tmp 10))⟩,⟨12,none,.rd (.mov (.const (.int .i64 0)))⟩]) (R:=λo e h=>o = .normal/\e=EL a0 bm 0/\h=[]) ⟨[[0,3,10,11,12]],[],by kernel_rfl⟩ (W.regG (RG.fin 3 [] _ [] (by kernel_rfl) ⟨rfl,rfl,rfl⟩)) ?_);rintro o e h a w ⟨rfl,rfl,rfl⟩ nw;refine wp_block (z3r.wp (loop (n:=n) (Q:=Exit.inBlock 0 (Exit.then (q.wp P Q) Q)) (w0:=w0) (a0:=a0) (bm:=bm) (r:=r) (λks a w hg nw=>?_) (λm e h a w hv nw=>hr m e h a w hv nw) a0 [] [] a w rfl hlen hg nw));exact tail hg nw hr
def k28 (n:Nat):Con Go.Proofs.Tryz.prog Ty_ where
 f:=36
 X:=(List Xa)
 Y:=Int
 A:=[.im 1]
 H:=[]
 N:=[]
 encA:=λx=>[.im 1 x]
 encH:=λ_=>[]
 G:=λx=>g28 n x
 encR:=λy=>.sc (.int .i64 y)
 encO:=λ_=>[]
 strong:=true
 ok:=λx y h=>⟨λ_=>y1a n x y h,z1p.toG (y1a n x y h)⟩
def ymb (n:Nat):Cx P_ Ty_:=⟨[],[],[],[]⟩
abbrev ymc:List (List Nat):=[[2,3],[2,3,6],[2,3,6,7],[2,3,6,7],[4],[2,3,13],[4],[4]]
def y1b (x:Xe×Xb)(p:Bool):EH Ty_:=([(2,.pt 2 [] 0 0),(3,.pt 3 [] 0 0),(6,I_ x.2.j_),(7,B_ p)],[(2,.lit 4 [[.im 1 x.1.g_,.im 2 x.1.c_,.im 3 x.1.e_,.im 4 x.1.d_]]),(3,.lit 2 [[I_ x.2.j_,I_ x.2.o_]])])
def y8a (n:Nat)(x:Xe×Xb):Pt P_ Ty_ [] Bool:=.join (S:=Bool) (y1b x) (.ite (x.2.j_==1) (.leaf (.inl true)) (.leaf (.inl (x.2.j_==2)))) λs1=>.ite s1 (.leaf (x.2.o_==0)) (.ite (x.2.j_==3) (.ite (decide (x.2.o_>=(0:Int))) (.leaf (decide (x.2.o_<(x.1.g_.length:Int)))) (.leaf false)) (.leaf false))
def k31 (n:Nat):Con P_ Ty_:=zg (X:=Xe×Xb) (R:=Bool) (pro:=[]) (ymb n) 39 ymc (λx=>.two .no (.two (.two .no (.two (.join Bool (y1b x) ⟨[(2,.ref 2),(3,.ref 3),(6,.any),(7,.any)],[(2,.any),(3,.any)]⟩ .no .no) .no)) .no)) [.ag [.im 1,.im 2,.im 3,.im 4],.ag [.any,.any]] [] [] ⟨[(4,.any)],[]⟩ [] true (λx=>[.ag [.im 1 x.1.g_,.im 2 x.1.c_,.im 3 x.1.e_,.im 4 x.1.d_],.ag [I_ x.2.j_,I_ x.2.o_]]) (λx=>[]) (λy=>([(4,B_ y)],[])) (λy=>B_ y) (λy=>[]) (y8a n)
def ym9 (n:Nat):Cx P_ Ty_:=⟨[k31 n],[],[],[]⟩
abbrev yma:List (List Nat):=[[1,2],[3]]
def y89 (n:Nat)(x:Ycg):Pt P_ Ty_ [200000] (Yaj):=.call (k31 n) ((⟨x.2.1,x.2.2.1,x.p3,x.q4⟩:Xe),x.1) λ(y1:Bool)=>.leaf ((!y1),x.2.1,x.2.2.1,x.p3,x.q4)
def k30 (n:Nat):Con P_ Ty_:=zg (X:=Ycg) (R:=Yaj) (pro:=[200000]) (ym9 n) 38 yma (λx=>.no) [.ag [.any,.any],.pt 200000] [(200000,[.im 1,.im 2,.im 3,.im 4])] [] ⟨[(3,.any)],[(200000,.any)]⟩ [200000] false (λx=>[.ag [I_ x.1.j_,I_ x.1.o_],.pt 200000 [] 0 0]) (λx=>[(200000,.lit 4 [[.im 1 x.2.1,.im 2 x.2.2.1,.im 3 x.p3,.im 4 x.q4]])]) (λy=>([(3,B_ y.1)],[(200000,.lit 4 [[.im 1 y.2.1,.im 2 y.2.2.1,.im 3 y.p3,.im 4 y.q4]])])) (λy=>B_ y.1) (λy=>[(200000,.lit 4 [[.im 1 y.2.1,.im 2 y.2.2.1,.im 3 y.p3,.im 4 y.q4]])]) (y89 n)
def y8y (n:Nat):Cx P_ Ty_:=⟨[k30 n],[],[],[]⟩
abbrev y8z:List (List Nat):=[[0,1],[0,1,7,8],[0,1,7,8,9],[0,1,5,7,8],[0,1,5,7,8,16],[4],[0,1,7,8],[4]]
def y2e (n:Nat)(x:Yar)(v1:Unit)(q1:Yad):Pt P_ Ty_ [200000] (Bo (Yad) (Yad) (Yad)):=.ite (decide (q1.1<(x.1.length:Int))) (.bnd (idx x.1 q1.1) λy1=>.call (k30 n) (y1,q1.2.1,q1.2.2.1,q1.p3,q1.q4) λ(y2:Yaj)=>.ite y2.1 (.leaf (.ret (q1.1,y2.2.1,y2.2.2.1,y2.p3,y2.q4))) (.leaf (.go ((i64.wrap (q1.1+(1:Int))),y2.2.1,y2.2.2.1,y2.p3,y2.q4)))) (.leaf (.out (q1.1,q1.2.1,q1.2.2.1,q1.p3,q1.q4)))
def y2d (n:Nat)(x:Yar)(v1:Unit):z16 P_ Ty_ [200000]:=z1f (X:=Yad) (Y:=Yad) (Z:=Yad) (y8y n) (z18 [1,0,1,0,0] (fnC P_ 59 y8z)) (λq1=>.no) 0 true ⟨[(0,.im 2),(1,.fn [.ref 200000]),(7,.any),(8,.any)],[(200000,.any)]⟩ ⟨[(0,.im 2),(1,.fn [.ref 200000]),(7,.any),(8,.any),(9,.any)],[(200000,.any)]⟩ ⟨[(4,.any)],[(200000,.any)]⟩ (λq1=>([(0,.im 2 x.1),(1,.fn 38 [.pt 200000 [] 0 0]),(7,I_ (x.1.length:Int)),(8,I_ q1.1)],[(200000,.lit 4 [[.im 1 q1.2.1,.im 2 q1.2.2.1,.im 3 q1.p3,.im 4 q1.q4]])])) (λp=>([(0,.im 2 x.1),(1,.fn 38 [.pt 200000 [] 0 0]),(7,I_ (x.1.length:Int)),(8,I_ p.1),(9,B_ false)],[(200000,.lit 4 [[.im 1 p.2.1,.im 2 p.2.2.1,.im 3 p.p3,.im 4 p.q4]])])) (λp=>([(4,I_ p.1)],[(200000,.lit 4 [[.im 1 p.2.1,.im 2 p.2.2.1,.im 3 p.p3,.im 4 p.q4]])])) n (y2e n x v1)
def y90 (n:Nat)(x:Yar):Pt P_ Ty_ [200000] (Yad):=.loopR (V:=Unit) (y2d n x) () ((0:Int),x.2.1,x.2.2.1,x.p3,x.q4) (λ(v1:Unit) (y3:Yad)=>.leaf ((-1:Int),y3.2.1,y3.2.2.1,y3.p3,y3.q4)) λ(v1:Unit) (z1:Yad)=>.leaf (z1.1,z1.2.1,z1.2.2.1,z1.p3,z1.q4)
def k50 (n:Nat):Con P_ Ty_:=zg (X:=Yar) (R:=Yad) (pro:=[200000]) (y8y n) 59 y8z (λx=>.two .no (.two (.two .no (.two (.loop Unit (y2d n x) true ⟨[(0,.im 2),(1,.fn [.ref 200000]),(7,.any),(8,.any)],[(200000,.any)]⟩) .no)) .no)) [.im 2,.fn 38 [.pt 200000]] [(200000,[.im 1,.im 2,.im 3,.im 4])] [] ⟨[(4,.any)],[(200000,.any)]⟩ [200000] false (λx=>[.im 2 x.1,.fn 38 [.pt 200000 [] 0 0]]) (λx=>[(200000,.lit 4 [[.im 1 x.2.1,.im 2 x.2.2.1,.im 3 x.p3,.im 4 x.q4]])]) (λy=>([(4,I_ y.1)],[(200000,.lit 4 [[.im 1 y.2.1,.im 2 y.2.2.1,.im 3 y.p3,.im 4 y.q4]])])) (λy=>I_ y.1) (λy=>[(200000,.lit 4 [[.im 1 y.2.1,.im 2 y.2.2.1,.im 3 y.p3,.im 4 y.q4]])]) (y90 n)
def ym7 (n:Nat):Cx P_ Ty_:=⟨[k50 n],[],[],[]⟩
abbrev ym8:List (List Nat):=[[0,1],[4]]
def y88 (n:Nat)(x:Yar):Pt P_ Ty_ [200000] (Yaj):=.call (k50 n) (x.1,x.2.1,x.2.2.1,x.p3,x.q4) λ(y1:Yad)=>.leaf ((decide (y1.1>=(0:Int))),y1.2.1,y1.2.2.1,y1.p3,y1.q4)
def k29 (n:Nat):Con P_ Ty_:=zg (X:=Yar) (R:=Yaj) (pro:=[200000]) (ym7 n) 37 ym8 (λx=>.no) [.im 2,.fn 38 [.pt 200000]] [(200000,[.im 1,.im 2,.im 3,.im 4])] [] ⟨[(4,.any)],[(200000,.any)]⟩ [200000] false (λx=>[.im 2 x.1,.fn 38 [.pt 200000 [] 0 0]]) (λx=>[(200000,.lit 4 [[.im 1 x.2.1,.im 2 x.2.2.1,.im 3 x.p3,.im 4 x.q4]])]) (λy=>([(4,B_ y.1)],[(200000,.lit 4 [[.im 1 y.2.1,.im 2 y.2.2.1,.im 3 y.p3,.im 4 y.q4]])])) (λy=>B_ y.1) (λy=>[(200000,.lit 4 [[.im 1 y.2.1,.im 2 y.2.2.1,.im 3 y.p3,.im 4 y.q4]])]) (y88 n)
def ymr (n:Nat):Cx P_ Ty_:=⟨[],[],[],[]⟩
abbrev yms:List (List Nat):=[[0],[2]]
def y94 (n:Nat)(x:Int):Pt P_ Ty_ [] Bool:=.ite (decide ((u32.wrap (BitVec.ofInt u32.bits x &&& ~~~BitVec.ofInt u32.bits (2147483648:Int)).toNat)<=(2139095040:Int))) (.leaf true) (.leaf (x==2143289344))
def k52 (n:Nat):Con P_ Ty_:=zg (X:=Int) (R:=Bool) (pro:=[]) (ymr n) 61 yms (λx=>.no) [.any] [] [] ⟨[(2,.any)],[]⟩ [] true (λx=>[.sc (.int .u32 x)]) (λx=>[]) (λy=>([(2,B_ y)],[])) (λy=>B_ y) (λy=>[]) (y94 n)
def ymh (n:Nat):Cx P_ Ty_:=⟨[k31 n,k52 n],[],[],[]⟩
abbrev ymi:List (List Nat):=[[2,3],[3,9],[4],[3,13],[4],[4]]
def y8d (n:Nat)(x:Xe×Xc):Pt P_ Ty_ [] Bool:=.call (k31 n) (x.1,x.2.s_) λ(y1:Bool)=>.ite (!y1) (.leaf false) (.ite (x.2.s_.j_==2) (.ite (x.2.m_==0) (.ite (decide (x.2.u_>=(0:Int))) (.leaf (decide (x.2.u_<=(2147483647:Int)))) (.leaf false)) (.leaf false)) (.ite (x.2.u_==0) (.call (k52 n) x.2.m_ λ(y2:Bool)=>.leaf y2) (.leaf false)))
def k34 (n:Nat):Con P_ Ty_:=zg (X:=Xe×Xc) (R:=Bool) (pro:=[]) (ymh n) 42 ymi (λx=>.no) [.ag [.im 1,.im 2,.im 3,.im 4],.ag [.any,.any,.any,.any,.any]] [] [] ⟨[(4,.any)],[]⟩ [] true (λx=>[.ag [.im 1 x.1.g_,.im 2 x.1.c_,.im 3 x.1.e_,.im 4 x.1.d_],.ag [I_ x.2.s_.j_,I_ x.2.s_.o_,B_ x.2.T_,.sc (.int .u32 x.2.m_),I_ x.2.u_]]) (λx=>[]) (λy=>([(4,B_ y)],[])) (λy=>B_ y) (λy=>[]) (y8d n)
def ymf (n:Nat):Cx P_ Ty_:=⟨[k34 n],[],[],[]⟩
abbrev ymg:List (List Nat):=[[1,2],[3]]
def y8c (n:Nat)(x:Ych):Pt P_ Ty_ [200000] (Yaj):=.call (k34 n) ((⟨x.2.1,x.2.2.1,x.p3,x.q4⟩:Xe),x.1) λ(y1:Bool)=>.leaf ((!y1),x.2.1,x.2.2.1,x.p3,x.q4)
def k33 (n:Nat):Con P_ Ty_:=zg (X:=Ych) (R:=Yaj) (pro:=[200000]) (ymf n) 41 ymg (λx=>.no) [.ag [.any,.any,.any,.any,.any],.pt 200000] [(200000,[.im 1,.im 2,.im 3,.im 4])] [] ⟨[(3,.any)],[(200000,.any)]⟩ [200000] false (λx=>[.ag [I_ x.1.s_.j_,I_ x.1.s_.o_,B_ x.1.T_,.sc (.int .u32 x.1.m_),I_ x.1.u_],.pt 200000 [] 0 0]) (λx=>[(200000,.lit 4 [[.im 1 x.2.1,.im 2 x.2.2.1,.im 3 x.p3,.im 4 x.q4]])]) (λy=>([(3,B_ y.1)],[(200000,.lit 4 [[.im 1 y.2.1,.im 2 y.2.2.1,.im 3 y.p3,.im 4 y.q4]])])) (λy=>B_ y.1) (λy=>[(200000,.lit 4 [[.im 1 y.2.1,.im 2 y.2.2.1,.im 3 y.p3,.im 4 y.q4]])]) (y8c n)
def y91 (n:Nat):Cx P_ Ty_:=⟨[k33 n],[],[],[]⟩
abbrev y92:List (List Nat):=[[0,1],[0,1,7,8],[0,1,7,8,9],[0,1,5,7,8],[0,1,5,7,8,16],[4],[0,1,7,8],[4]]
def y2g (n:Nat)(x:Yas)(v1:Unit)(q1:Yad):Pt P_ Ty_ [200000] (Bo (Yad) (Yad) (Yad)):=.ite (decide (q1.1<(x.1.length:Int))) (.bnd (idx x.1 q1.1) λy1=>.call (k33 n) (y1,q1.2.1,q1.2.2.1,q1.p3,q1.q4) λ(y2:Yaj)=>.ite y2.1 (.leaf (.ret (q1.1,y2.2.1,y2.2.2.1,y2.p3,y2.q4))) (.leaf (.go ((i64.wrap (q1.1+(1:Int))),y2.2.1,y2.2.2.1,y2.p3,y2.q4)))) (.leaf (.out (q1.1,q1.2.1,q1.2.2.1,q1.p3,q1.q4)))
def y2f (n:Nat)(x:Yas)(v1:Unit):z16 P_ Ty_ [200000]:=z1f (X:=Yad) (Y:=Yad) (Z:=Yad) (y91 n) (z18 [1,0,1,0,0] (fnC P_ 60 y92)) (λq1=>.no) 0 true ⟨[(0,.im 3),(1,.fn [.ref 200000]),(7,.any),(8,.any)],[(200000,.any)]⟩ ⟨[(0,.im 3),(1,.fn [.ref 200000]),(7,.any),(8,.any),(9,.any)],[(200000,.any)]⟩ ⟨[(4,.any)],[(200000,.any)]⟩ (λq1=>([(0,.im 3 x.1),(1,.fn 41 [.pt 200000 [] 0 0]),(7,I_ (x.1.length:Int)),(8,I_ q1.1)],[(200000,.lit 4 [[.im 1 q1.2.1,.im 2 q1.2.2.1,.im 3 q1.p3,.im 4 q1.q4]])])) (λp=>([(0,.im 3 x.1),(1,.fn 41 [.pt 200000 [] 0 0]),(7,I_ (x.1.length:Int)),(8,I_ p.1),(9,B_ false)],[(200000,.lit 4 [[.im 1 p.2.1,.im 2 p.2.2.1,.im 3 p.p3,.im 4 p.q4]])])) (λp=>([(4,I_ p.1)],[(200000,.lit 4 [[.im 1 p.2.1,.im 2 p.2.2.1,.im 3 p.p3,.im 4 p.q4]])])) n (y2g n x v1)
def y93 (n:Nat)(x:Yas):Pt P_ Ty_ [200000] (Yad):=.loopR (V:=Unit) (y2f n x) () ((0:Int),x.2.1,x.2.2.1,x.p3,x.q4) (λ(v1:Unit) (y3:Yad)=>.leaf ((-1:Int),y3.2.1,y3.2.2.1,y3.p3,y3.q4)) λ(v1:Unit) (z1:Yad)=>.leaf (z1.1,z1.2.1,z1.2.2.1,z1.p3,z1.q4)
def k51 (n:Nat):Con P_ Ty_:=zg (X:=Yas) (R:=Yad) (pro:=[200000]) (y91 n) 60 y92 (λx=>.two .no (.two (.two .no (.two (.loop Unit (y2f n x) true ⟨[(0,.im 3),(1,.fn [.ref 200000]),(7,.any),(8,.any)],[(200000,.any)]⟩) .no)) .no)) [.im 3,.fn 41 [.pt 200000]] [(200000,[.im 1,.im 2,.im 3,.im 4])] [] ⟨[(4,.any)],[(200000,.any)]⟩ [200000] false (λx=>[.im 3 x.1,.fn 41 [.pt 200000 [] 0 0]]) (λx=>[(200000,.lit 4 [[.im 1 x.2.1,.im 2 x.2.2.1,.im 3 x.p3,.im 4 x.q4]])]) (λy=>([(4,I_ y.1)],[(200000,.lit 4 [[.im 1 y.2.1,.im 2 y.2.2.1,.im 3 y.p3,.im 4 y.q4]])])) (λy=>I_ y.1) (λy=>[(200000,.lit 4 [[.im 1 y.2.1,.im 2 y.2.2.1,.im 3 y.p3,.im 4 y.q4]])]) (y93 n)
def ymd (n:Nat):Cx P_ Ty_:=⟨[k51 n],[],[],[]⟩
abbrev yme:List (List Nat):=[[0,1],[4]]
def y8b (n:Nat)(x:Yas):Pt P_ Ty_ [200000] (Yaj):=.call (k51 n) (x.1,x.2.1,x.2.2.1,x.p3,x.q4) λ(y1:Yad)=>.leaf ((decide (y1.1>=(0:Int))),y1.2.1,y1.2.2.1,y1.p3,y1.q4)
def k32 (n:Nat):Con P_ Ty_:=zg (X:=Yas) (R:=Yaj) (pro:=[200000]) (ymd n) 40 yme (λx=>.no) [.im 3,.fn 41 [.pt 200000]] [(200000,[.im 1,.im 2,.im 3,.im 4])] [] ⟨[(4,.any)],[(200000,.any)]⟩ [200000] false (λx=>[.im 3 x.1,.fn 41 [.pt 200000 [] 0 0]]) (λx=>[(200000,.lit 4 [[.im 1 x.2.1,.im 2 x.2.2.1,.im 3 x.p3,.im 4 x.q4]])]) (λy=>([(4,B_ y.1)],[(200000,.lit 4 [[.im 1 y.2.1,.im 2 y.2.2.1,.im 3 y.p3,.im 4 y.q4]])])) (λy=>B_ y.1) (λy=>[(200000,.lit 4 [[.im 1 y.2.1,.im 2 y.2.2.1,.im 3 y.p3,.im 4 y.q4]])]) (y8b n)
def ym3 (n:Nat):Cx P_ Ty_:=⟨[],[],[],[]⟩
abbrev ym4:List (List Nat):=[[0,2],[2,4],[2,4,5],[2,3],[2,4,8],[2,3],[2,4,11],[2,3],[2,4,14],[2,4,14],[2,4,14],[2,4,14],[2,4,14],[2,4,14],[2,4,14],[2,3],[2,4,23],[2,4,23],[2,4,23],[2,4,23],[2,3],[2,4,29],[2,3],[2,4,32],[2,3],[2,4,35],[2,3],[2,4,38],[2,3],[2,4,41],[2,4,41],[2,3],[2,4,45],[2,4,45],[2,3],[2,4,49],[2,4,49],[2,4,49],[2,4,49],[2,4,49],[2,3],[2,4,56],[2,3],[2,4,59],[2,4,59],[2,3],[2,4,63],[2,3],[2,4,66],[2,3],[2,4,69],[2,3],[2,4,72],[2,3],[2,4,75],[2,3],[2,4,78],[2,78],[2,3],[2,3]]
def y0l (x:Int)(p:Bool):EH Ty_:=([(2,.pt 2 [] 0 0),(4,I_ x),(14,B_ p)],[(2,.lit 5 [[I_ (0:Int),I_ (0:Int),I_ (0:Int),I_ (0:Int),I_ (0:Int)]])])
def y0m (x:Int)(p:Bool):EH Ty_:=([(2,.pt 2 [] 0 0),(4,I_ x),(23,B_ p)],[(2,.lit 5 [[I_ (0:Int),I_ (0:Int),I_ (0:Int),I_ (0:Int),I_ (0:Int)]])])
def y0n (x:Int)(p:Bool):EH Ty_:=([(2,.pt 2 [] 0 0),(4,I_ x),(41,B_ p)],[(2,.lit 5 [[I_ (0:Int),I_ (0:Int),I_ (0:Int),I_ (0:Int),I_ (0:Int)]])])
def y0o (x:Int)(p:Bool):EH Ty_:=([(2,.pt 2 [] 0 0),(4,I_ x),(45,B_ p)],[(2,.lit 5 [[I_ (0:Int),I_ (0:Int),I_ (0:Int),I_ (0:Int),I_ (0:Int)]])])
def y0p (x:Int)(p:Bool):EH Ty_:=([(2,.pt 2 [] 0 0),(4,I_ x),(49,B_ p)],[(2,.lit 5 [[I_ (0:Int),I_ (0:Int),I_ (0:Int),I_ (0:Int),I_ (0:Int)]])])
def y0q (x:Int)(p:Bool):EH Ty_:=([(2,.pt 2 [] 0 0),(4,I_ x),(59,B_ p)],[(2,.lit 5 [[I_ (0:Int),I_ (0:Int),I_ (0:Int),I_ (0:Int),I_ (0:Int)]])])
def y0r (x:Int)(p:Bool):EH Ty_:=([(2,.pt 2 [] 0 0),(78,B_ p)],[(2,.lit 5 [[I_ (0:Int),I_ (0:Int),I_ (0:Int),I_ (0:Int),I_ (0:Int)]])])
def y86 (n:Nat)(x:Int):Pt P_ Ty_ [] (Ybt):=.ite (x==1) (.leaf (true,(1:Int),(0:Int),(0:Int),(0:Int),(0:Int))) (.ite (x==2) (.leaf (true,(2:Int),(0:Int),(0:Int),(0:Int),(1:Int))) (.ite (x==3) (.leaf (true,(8:Int),(7:Int),(0:Int),(0:Int),(0:Int))) (.join (S:=Bool) (y0l x) (.ite (x==4) (.leaf (.inl true)) (.ite (x==5) (.leaf (.inl true)) (.ite (x==6) (.leaf (.inl true)) (.ite (x==7) (.leaf (.inl true)) (.ite (x==8) (.leaf (.inl true)) (.ite (x==9) (.leaf (.inl true)) (.leaf (.inl (x==10))))))))) λs1=>.ite s1 (.leaf (true,(4:Int),(5:Int),(5:Int),(0:Int),(0:Int))) (.join (S:=Bool) (y0m x) (.ite (x==11) (.leaf (.inl true)) (.ite (x==12) (.leaf (.inl true)) (.ite (x==13) (.leaf (.inl true)) (.leaf (.inl (x==14)))))) λs2=>.ite s2 (.leaf (true,(4:Int),(5:Int),(0:Int),(0:Int),(0:Int))) (.ite (x==15) (.leaf (true,(4:Int),(5:Int),(5:Int),(5:Int),(0:Int))) (.ite (x==16) (.leaf (true,(1:Int),(1:Int),(2:Int),(0:Int),(0:Int))) (.ite (x==17) (.leaf (true,(1:Int),(2:Int),(0:Int),(0:Int),(0:Int))) (.ite (x==18) (.leaf (true,(2:Int),(1:Int),(0:Int),(0:Int),(0:Int))) (.join (S:=Bool) (y0n x) (.ite (x==19) (.leaf (.inl true)) (.leaf (.inl (x==20)))) λs3=>.ite s3 (.leaf (true,(1:Int),(3:Int),(0:Int),(0:Int),(0:Int))) (.join (S:=Bool) (y0o x) (.ite (x==21) (.leaf (.inl true)) (.leaf (.inl (x==25)))) λs4=>.ite s4 (.leaf (true,(2:Int),(2:Int),(0:Int),(0:Int),(0:Int))) (.join (S:=Bool) (y0p x) (.ite (x==22) (.leaf (.inl true)) (.ite (x==23) (.leaf (.inl true)) (.ite (x==24) (.leaf (.inl true)) (.ite (x==27) (.leaf (.inl true)) (.leaf (.inl (x==28))))))) λs5=>.ite s5 (.leaf (true,(2:Int),(2:Int),(2:Int),(0:Int),(0:Int))) (.ite (x==26) (.leaf (true,(2:Int),(2:Int),(2:Int),(2:Int),(0:Int))) (.join (S:=Bool) (y0q x) (.ite (x==29) (.leaf (.inl true)) (.leaf (.inl (x==30)))) λs6=>.ite s6 (.leaf (true,(3:Int),(0:Int),(0:Int),(0:Int),(2:Int))) (.ite (x==31) (.leaf (true,(0:Int),(3:Int),(0:Int),(0:Int),(2:Int))) (.ite (x==32) (.leaf (true,(8:Int),(0:Int),(0:Int),(0:Int),(3:Int))) (.ite (x==33) (.leaf (true,(0:Int),(8:Int),(0:Int),(0:Int),(3:Int))) (.ite (x==34) (.leaf (true,(0:Int),(2:Int),(0:Int),(0:Int),(0:Int))) (.ite (x==36) (.leaf (true,(0:Int),(0:Int),(0:Int),(0:Int),(4:Int))) (.join (S:=Bool) (y0r x) (.ite (x==35) (.leaf (.inl true)) (.leaf (.inl (x==37)))) λs7=>.ite s7 (.leaf (true,(0:Int),(0:Int),(0:Int),(0:Int),(0:Int))) (.leaf (false,(0:Int),(0:Int),(0:Int),(0:Int),(0:Int))))))))))))))))))))))
def k26 (n:Nat):Con P_ Ty_:=zg (X:=Int) (R:=Ybt) (pro:=[]) (ym3 n) 47 ym4 (λx=>.two .no (.two (.two .no (.two (.two .no (.two .no (.two .no (.two .no (.two .no (.two .no (.join Bool (y0l x) ⟨[(2,.ref 2),(4,.any),(14,.any)],[(2,.any)]⟩ .no (.two .no (.join Bool (y0m x) ⟨[(2,.ref 2),(4,.any),(23,.any)],[(2,.any)]⟩ .no (.two .no (.two .no (.two .no (.two .no (.two .no (.two .no (.two .no (.two .no (.two .no (.join Bool (y0n x) ⟨[(2,.ref 2),(4,.any),(41,.any)],[(2,.any)]⟩ .no (.two .no (.join Bool (y0o x) ⟨[(2,.ref 2),(4,.any),(45,.any)],[(2,.any)]⟩ .no (.two .no (.join Bool (y0p x) ⟨[(2,.ref 2),(4,.any),(49,.any)],[(2,.any)]⟩ .no (.two .no (.two .no (.two .no (.join Bool (y0q x) ⟨[(2,.ref 2),(4,.any),(59,.any)],[(2,.any)]⟩ .no (.two .no (.two .no (.two .no (.two .no (.two .no (.two .no (.two .no (.two .no (.two .no (.two .no (.two .no (.join Bool (y0r x) ⟨[(2,.ref 2),(78,.any)],[(2,.any)]⟩ .no .no))))))))))))))))))))))))))))))))))))))) .no)) .no)) [.any] [] [] ⟨[(2,.ref 100000),(3,.any)],[(100000,.any)]⟩ [] true (λx=>[I_ x]) (λx=>[]) (λy=>([(2,.pt 100000 [] 0 0),(3,B_ y.1)],[(100000,.lit 5 [[I_ y.2.1,I_ y.2.2.1,I_ y.p3,I_ y.p4,I_ y.q5]])])) (λy=>.tu [.ag [I_ y.2.1,I_ y.2.2.1,I_ y.p3,I_ y.p4,I_ y.q5],B_ y.1]) (λy=>[]) (y86 n)
def ymt (n:Nat):Cx P_ Ty_:=⟨[],[],[],[]⟩
abbrev ymu:List (List Nat):=[[0,1,4],[0,1,4,17],[4,5],[4,5]]
def y2h (x:Ycd)(p:Bool):EH Ty_:=([(0,.pt 200000 [] 0 0),(1,I_ x.q7),(4,.pt 4 [] 0 0),(17,B_ p)],[(200000,.lit 7 [[.im 1 x.1,.im 2 x.2.1,.im 3 x.2.2.1,.im 4 x.p3,.ow false 5 x.p4,.ow true 7 x.p5,.ow false 6 x.p6]]),(4,.lit 2 [[I_ (0:Int),I_ (0:Int)]])])
def y95 (n:Nat)(x:Ycd):Pt P_ Ty_ [200000] (Ybp):=.join (S:=Bool) (y2h x) (.ite (decide (x.q7<(0:Int))) (.leaf (.inl true)) (.leaf (.inl (decide (x.q7>=(x.2.1.length:Int)))))) λs1=>.ite s1 (.leaf (false,x.1,x.2.1,x.2.2.1,x.p3,x.p4,x.p5,x.p6,(0:Int),(0:Int))) (.bnd (idx x.2.1 x.q7) λy1=>.leaf (true,x.1,x.2.1,x.2.2.1,x.p3,x.p4,x.p5,x.p6,y1.j_,y1.o_))
def k53 (n:Nat):Con P_ Ty_:=zg (X:=Ycd) (R:=Ybp) (pro:=[200000]) (ymt n) 62 ymu (λx=>.two .no (.two (.join Bool (y2h x) ⟨[(0,.ref 200000),(1,.any),(4,.ref 4),(17,.any)],[(200000,.any),(4,.any)]⟩ .no .no) .no)) [.pt 200000,.any] [(200000,[.im 1,.im 2,.im 3,.im 4,.ow false 5,.ow true 7,.ow false 6])] [] ⟨[(4,.ref 100000),(5,.any)],[(200000,.any),(100000,.any)]⟩ [200000] false (λx=>[.pt 200000 [] 0 0,I_ x.q7]) (λx=>[(200000,.lit 7 [[.im 1 x.1,.im 2 x.2.1,.im 3 x.2.2.1,.im 4 x.p3,.ow false 5 x.p4,.ow true 7 x.p5,.ow false 6 x.p6]])]) (λy=>([(4,.pt 100000 [] 0 0),(5,B_ y.1)],[(200000,.lit 7 [[.im 1 y.2.1,.im 2 y.2.2.1,.im 3 y.p3,.im 4 y.p4,.ow false 5 y.p5,.ow true 7 y.p6,.ow false 6 y.p7]]),(100000,.lit 2 [[I_ y.p8,I_ y.q9]])])) (λy=>.tu [.ag [I_ y.p8,I_ y.q9],B_ y.1]) (λy=>[(200000,.lit 7 [[.im 1 y.2.1,.im 2 y.2.2.1,.im 3 y.p3,.im 4 y.p4,.ow false 5 y.p5,.ow true 7 y.p6,.ow false 6 y.p7]])]) (y95 n)
def ymv (n:Nat):Cx P_ Ty_:=⟨[],[],[],[]⟩
abbrev ymw:List (List Nat):=[[1,3,5],[1,3,5,7],[3,5,7,11],[3,5,7,11,12],[6],[3,5,7,11,15],[6],[3,5,7,11,20],[6],[3,5,7,11,25],[6],[3,5,7,11,30],[6],[3,5,7,11,38],[6],[3,5,7,43],[6],[6]]
def y96 (n:Nat)(x:Yci):Pt P_ Ty_ [] Bool:=.ite (x.2.1==1) (.leaf (x.1.j_==1)) (.ite (x.2.1==2) (.leaf (x.1.j_==2)) (.ite (x.2.1==3) (.leaf (x.1.j_==3)) (.ite (x.2.1==4) (.leaf (x.1.j_ != (2:Int))) (.ite (x.2.1==5) (.ite (x.1.j_==1) (.leaf true) (.leaf (x.1.j_==x.2.2.j_&&(x.1.o_==x.2.2.o_&&true)))) (.ite (x.2.1==6) (.leaf (x.1.j_==x.2.2.j_&&(x.1.o_==x.2.2.o_&&true))) (.ite (x.2.1==7) (.ite (x.1.j_==x.2.2.j_&&(x.1.o_==x.2.2.o_&&true)) (.leaf true) (.ite (x.1.j_==1) (.leaf (x.2.2.j_==3)) (.leaf false))) (.leaf true)))))))
def k54 (n:Nat):Con P_ Ty_:=zg (X:=Yci) (R:=Bool) (pro:=[]) (ymv n) 63 ymw (λx=>.no) [.ag [.any,.any],.any,.ag [.any,.any]] [] [] ⟨[(6,.any)],[]⟩ [] true (λx=>[.ag [I_ x.1.j_,I_ x.1.o_],I_ x.2.1,.ag [I_ x.2.2.j_,I_ x.2.2.o_]]) (λx=>[]) (λy=>([(6,B_ y)],[])) (λy=>B_ y) (λy=>[]) (y96 n)
def y8e (n:Nat):Cx P_ Ty_:=⟨[k26 n,k53 n,k54 n,k52 n],[],[],[]⟩
abbrev y8f:List (List Nat):=[[0,3],[0,3,5,6],[0,3,5,21],[4],[0,3,5,7,8],[0,3,5,7,8,30,31],[0,3,5,7,8,30,31,32],[0,3,5,7,8,9,10,30,31],[0,3,5,7,8,9,10,11,30,31],[0,3,5,7,8,9,10,11,30,31,47],[0,3,5,7,8,30,31,49],[4],[0,3,5,7,8,9,10,12,13,30,31],[0,3,5,7,8,9,12,30,31,64],[4],[0,3,5,7,8,12,30,31,65],[0,3,5,7,8,12,30,31,65,66],[0,3,5,7,8,30,31],[0,3,5,7,8,12,30,31,70],[0,3,5,7,8,12,30,31,74],[0,3,5,7,8,30,31],[0,3,5,7,8,30,31],[0,3,5,8,95],[4],[0,3,8,97],[0,3,8,97,98],[4],[0,3,8,97,108],[4],[0,3,8,97,131],[4],[0,3,161],[4],[4]]
def y1d (x:Yae)(v1:Ybd)(q1:Yax)(p:Ybp):EH Ty_:=([(0,.pt 200000 [] 0 0),(3,.pt 3 [] 0 0),(5,.pt 5 [] 0 0),(7,.pt 7 [] 0 0),(8,.pt 8 [] 0 0),(9,I_ q1.1),(12,.pt 12 [] 0 0),(30,.ag [I_ v1.1,I_ v1.2.1,I_ v1.2.2.1,I_ v1.p3]),(31,I_ q1.1),(64,B_ p.1)],[(200000,.lit 7 [[.im 1 p.2.1,.im 2 p.2.2.1,.im 3 p.p3,.im 4 p.p4,.ow false 5 p.p5,.ow true 7 p.p6,.ow false 6 p.p7]]),(3,.lit 7 [[I_ x.q7.a_,I_ x.q7.D_,I_ x.q7.A_,I_ x.q7.B_,I_ x.q7.C_,I_ x.q7.N_,.sc (.int .u32 x.q7.m_)]]),(5,.lit 5 [[I_ v1.1,I_ v1.2.1,I_ v1.2.2.1,I_ v1.p3,I_ v1.q4]]),(7,.lit 2 [[I_ q1.p8,I_ q1.p9]]),(8,.lit 2 [[I_ q1.p10,I_ q1.q11]]),(12,.lit 2 [[I_ p.p8,I_ p.q9]])])
def y1e (x:Yae)(p:Ycr):EH Ty_:=([(0,.pt 200000 [] 0 0),(3,.pt 3 [] 0 0),(5,.pt 5 [] 0 0),(8,.pt 8 [] 0 0),(95,B_ p.1)],[(200000,.lit 7 [[.im 1 p.2.1,.im 2 p.2.2.1,.im 3 p.p3,.im 4 p.p4,.ow false 5 p.p5,.ow true 7 p.p6,.ow false 6 p.p7]]),(3,.lit 7 [[I_ x.q7.a_,I_ x.q7.D_,I_ x.q7.A_,I_ x.q7.B_,I_ x.q7.C_,I_ x.q7.N_,.sc (.int .u32 x.q7.m_)]]),(5,.lit 5 [[I_ p.p8,I_ p.p9,I_ p.p10,I_ p.p11,I_ p.p12]]),(8,.lit 2 [[I_ p.p13,I_ p.q14]])])
def y1f (n:Nat)(x:Yae)(v1:Ybd)(q1:Yax):Pt P_ Ty_ [200000] (Bo (Yax) (Yax) (Ycj)):=.ite (decide (q1.1<(4:Int))) (.bnd (idx [v1.1,v1.2.1,v1.2.2.1,v1.p3] q1.1) λy2=>.bnd (idx [x.q7.D_,x.q7.A_,x.q7.B_,x.q7.C_] q1.1) λy3=>.ite (y2==0) (.ite (y3 != (0:Int)) (.leaf (.ret (q1.2.1,q1.2.2.1,q1.p3,q1.p4,q1.p5,q1.p6,q1.p7))) (.leaf (.go ((i64.wrap (q1.1+(1:Int))),q1.2.1,q1.2.2.1,q1.p3,q1.p4,q1.p5,q1.p6,q1.p7,q1.p8,q1.p9,q1.p10,q1.q11)))) (.call (k53 n) (q1.2.1,q1.2.2.1,q1.p3,q1.p4,q1.p5,q1.p6,q1.p7,y3) λ(y4:Ybp)=>.join (S:=Ybp) (y1d x v1 q1) (.ite (!y4.1) (.leaf (.inl (true,y4.2.1,y4.2.2.1,y4.p3,y4.p4,y4.p5,y4.p6,y4.p7,y4.p8,y4.q9))) (.call (k54 n) ((⟨y4.p8,y4.q9⟩:Xb),y2,(⟨q1.p8,q1.p9⟩:Xb)) λ(y5:Bool)=>.leaf (.inl ((!y5),y4.2.1,y4.2.2.1,y4.p3,y4.p4,y4.p5,y4.p6,y4.p7,y4.p8,y4.q9)))) λs1=>.ite s1.1 (.leaf (.ret (s1.2.1,s1.2.2.1,s1.p3,s1.p4,s1.p5,s1.p6,s1.p7))) (.ite (q1.1==0) (.leaf (.go ((i64.wrap (q1.1+(1:Int))),s1.2.1,s1.2.2.1,s1.p3,s1.p4,s1.p5,s1.p6,s1.p7,s1.p8,s1.q9,s1.p8,s1.q9))) (.ite (q1.1==1) (.ite (v1.1==0) (.leaf (.go ((i64.wrap (q1.1+(1:Int))),s1.2.1,s1.2.2.1,s1.p3,s1.p4,s1.p5,s1.p6,s1.p7,q1.p8,q1.p9,s1.p8,s1.q9))) (.leaf (.go ((i64.wrap (q1.1+(1:Int))),s1.2.1,s1.2.2.1,s1.p3,s1.p4,s1.p5,s1.p6,s1.p7,q1.p8,q1.p9,q1.p10,q1.q11)))) (.leaf (.go ((i64.wrap (q1.1+(1:Int))),s1.2.1,s1.2.2.1,s1.p3,s1.p4,s1.p5,s1.p6,s1.p7,q1.p8,q1.p9,q1.p10,q1.q11))))))) (.leaf (.out (q1.1,q1.2.1,q1.2.2.1,q1.p3,q1.p4,q1.p5,q1.p6,q1.p7,q1.p8,q1.p9,q1.p10,q1.q11)))
def y1c (n:Nat)(x:Yae)(v1:Ybd):z16 P_ Ty_ [200000]:=z1f (X:=Yax) (Y:=Yax) (Z:=Ycj) (y8e n) (z18 [1,1,1,1,0,1,0,0] (fnC P_ 43 y8f)) (λq1=>.two .no (.two .no (.two (.two (.two .no (.two .no (.two .no (.two .no (.two (.join (Ybp) (y1d x v1 q1) ⟨[(0,.ref 200000),(3,.ref 3),(5,.ref 5),(7,.ref 7),(8,.ref 8),(9,.any),(12,.ref 12),(30,.any),(31,.any),(64,.any)],[(200000,.any),(3,.any),(5,.any),(7,.any),(8,.any),(12,.any)]⟩ .no .no) .no))))) .no) .no))) 0 true ⟨[(0,.ref 200000),(3,.ref 3),(5,.ref 5),(7,.ref 7),(8,.ref 8),(30,.any),(31,.any)],[(200000,.any),(3,.any),(5,.any),(7,.any),(8,.any)]⟩ ⟨[(0,.ref 200000),(3,.ref 3),(5,.ref 5),(7,.ref 7),(8,.ref 8),(30,.any),(31,.any),(32,.any)],[(200000,.any),(3,.any),(5,.any),(7,.any),(8,.any)]⟩ ⟨[(4,.any)],[(200000,.any)]⟩ (λq1=>([(0,.pt 200000 [] 0 0),(3,.pt 3 [] 0 0),(5,.pt 5 [] 0 0),(7,.pt 7 [] 0 0),(8,.pt 8 [] 0 0),(30,.ag [I_ v1.1,I_ v1.2.1,I_ v1.2.2.1,I_ v1.p3]),(31,I_ q1.1)],[(200000,.lit 7 [[.im 1 q1.2.1,.im 2 q1.2.2.1,.im 3 q1.p3,.im 4 q1.p4,.ow false 5 q1.p5,.ow true 7 q1.p6,.ow false 6 q1.p7]]),(3,.lit 7 [[I_ x.q7.a_,I_ x.q7.D_,I_ x.q7.A_,I_ x.q7.B_,I_ x.q7.C_,I_ x.q7.N_,.sc (.int .u32 x.q7.m_)]]),(5,.lit 5 [[I_ v1.1,I_ v1.2.1,I_ v1.2.2.1,I_ v1.p3,I_ v1.q4]]),(7,.lit 2 [[I_ q1.p8,I_ q1.p9]]),(8,.lit 2 [[I_ q1.p10,I_ q1.q11]])])) (λp=>([(0,.pt 200000 [] 0 0),(3,.pt 3 [] 0 0),(5,.pt 5 [] 0 0),(7,.pt 7 [] 0 0),(8,.pt 8 [] 0 0),(30,.ag [I_ v1.1,I_ v1.2.1,I_ v1.2.2.1,I_ v1.p3]),(31,I_ p.1),(32,B_ false)],[(200000,.lit 7 [[.im 1 p.2.1,.im 2 p.2.2.1,.im 3 p.p3,.im 4 p.p4,.ow false 5 p.p5,.ow true 7 p.p6,.ow false 6 p.p7]]),(3,.lit 7 [[I_ x.q7.a_,I_ x.q7.D_,I_ x.q7.A_,I_ x.q7.B_,I_ x.q7.C_,I_ x.q7.N_,.sc (.int .u32 x.q7.m_)]]),(5,.lit 5 [[I_ v1.1,I_ v1.2.1,I_ v1.2.2.1,I_ v1.p3,I_ v1.q4]]),(7,.lit 2 [[I_ p.p8,I_ p.p9]]),(8,.lit 2 [[I_ p.p10,I_ p.q11]])])) (λp=>([(4,B_ false)],[(200000,.lit 7 [[.im 1 p.1,.im 2 p.2.1,.im 3 p.2.2.1,.im 4 p.p3,.ow false 5 p.p4,.ow true 7 p.p5,.ow false 6 p.q6]])])) n (y1f n x v1)
def y8g (n:Nat)(x:Yae):Pt P_ Ty_ [200000] (Yam):=.call (k26 n) x.q7.a_ λ(y1:Ybt)=>.ite (!y1.1) (.leaf (false,x.1,x.2.1,x.2.2.1,x.p3,x.p4,x.p5,x.p6)) (.loopR (V:=Ybd) (y1c n x) (y1.2.1,y1.2.2.1,y1.p3,y1.p4,y1.q5) ((0:Int),x.1,x.2.1,x.2.2.1,x.p3,x.p4,x.p5,x.p6,(0:Int),(0:Int),(0:Int),(0:Int)) (λ(v1:Ybd) (y6:Yax)=>.join (S:=Ycr) (y1e x) (.ite (x.q7.a_==1) (.call (k52 n) x.q7.m_ λ(y7:Bool)=>.ite (!y7) (.leaf (.inl (true,y6.2.1,y6.2.2.1,y6.p3,y6.p4,y6.p5,y6.p6,y6.p7,v1.1,v1.2.1,v1.2.2.1,v1.p3,v1.q4,y6.p10,y6.q11))) (.ite (x.q7.a_ != (1:Int)) (.leaf (.inl ((x.q7.m_ != (0:Int)),y6.2.1,y6.2.2.1,y6.p3,y6.p4,y6.p5,y6.p6,y6.p7,v1.1,v1.2.1,v1.2.2.1,v1.p3,v1.q4,y6.p10,y6.q11))) (.leaf (.inl (false,y6.2.1,y6.2.2.1,y6.p3,y6.p4,y6.p5,y6.p6,y6.p7,v1.1,v1.2.1,v1.2.2.1,v1.p3,v1.q4,y6.p10,y6.q11))))) (.ite (x.q7.a_ != (1:Int)) (.leaf (.inl ((x.q7.m_ != (0:Int)),y6.2.1,y6.2.2.1,y6.p3,y6.p4,y6.p5,y6.p6,y6.p7,v1.1,v1.2.1,v1.2.2.1,v1.p3,v1.q4,y6.p10,y6.q11))) (.leaf (.inl (false,y6.2.1,y6.2.2.1,y6.p3,y6.p4,y6.p5,y6.p6,y6.p7,v1.1,v1.2.1,v1.2.2.1,v1.p3,v1.q4,y6.p10,y6.q11))))) λs2=>.ite s2.1 (.leaf (false,s2.2.1,s2.2.2.1,s2.p3,s2.p4,s2.p5,s2.p6,s2.p7)) (.ite (s2.p12==1) (.ite (decide (x.q7.N_>=(0:Int))) (.leaf ((decide (x.q7.N_<=(2147483647:Int))),s2.2.1,s2.2.2.1,s2.p3,s2.p4,s2.p5,s2.p6,s2.p7)) (.leaf (false,s2.2.1,s2.2.2.1,s2.p3,s2.p4,s2.p5,s2.p6,s2.p7))) (.ite (s2.p12==2) (.ite (x.q7.N_==0) (.leaf (true,s2.2.1,s2.2.2.1,s2.p3,s2.p4,s2.p5,s2.p6,s2.p7)) (.ite (x.q7.N_==1) (.bnd (idx s2.2.1 s2.q14) λy8=>.leaf ((y8.j_==2),s2.2.1,s2.2.2.1,s2.p3,s2.p4,s2.p5,s2.p6,s2.p7)) (.leaf (false,s2.2.1,s2.2.2.1,s2.p3,s2.p4,s2.p5,s2.p6,s2.p7)))) (.ite (s2.p12==3) (.ite (decide (x.q7.N_>=(0:Int))) (.ite (decide (x.q7.N_<(s2.p3.length:Int))) (.bnd (idx s2.p3 x.q7.N_) λy9=>.leaf ((y9.s_.j_==s2.p13&&(y9.s_.o_==s2.q14&&true)),s2.2.1,s2.2.2.1,s2.p3,s2.p4,s2.p5,s2.p6,s2.p7)) (.leaf (false,s2.2.1,s2.2.2.1,s2.p3,s2.p4,s2.p5,s2.p6,s2.p7))) (.leaf (false,s2.2.1,s2.2.2.1,s2.p3,s2.p4,s2.p5,s2.p6,s2.p7))) (.ite (s2.p12==4) (.ite (decide (x.q7.N_>=(0:Int))) (.leaf ((decide (x.q7.N_<(s2.2.1.length:Int))),s2.2.1,s2.2.2.1,s2.p3,s2.p4,s2.p5,s2.p6,s2.p7)) (.leaf (false,s2.2.1,s2.2.2.1,s2.p3,s2.p4,s2.p5,s2.p6,s2.p7))) (.leaf ((x.q7.N_==0),s2.2.1,s2.2.2.1,s2.p3,s2.p4,s2.p5,s2.p6,s2.p7))))))) λ(v1:Ybd) (z1:Ycj)=>.leaf (false,z1.1,z1.2.1,z1.2.2.1,z1.p3,z1.p4,z1.p5,z1.q6))
def k35 (n:Nat):Con P_ Ty_:=zg (X:=Yae) (R:=Yam) (pro:=[200000]) (y8e n) 43 y8f (λx=>.two .no (.two .no (.two .no (.two .no (.two (.two .no (.two (.loop (Ybd) (y1c n x) true ⟨[(0,.ref 200000),(3,.ref 3),(5,.ref 5),(7,.ref 7),(8,.ref 8),(30,.any),(31,.any)],[(200000,.any),(3,.any),(5,.any),(7,.any),(8,.any)]⟩) .no)) (.two (.join (Ycr) (y1e x) ⟨[(0,.ref 200000),(3,.ref 3),(5,.ref 5),(8,.ref 8),(95,.any)],[(200000,.any),(3,.any),(5,.any),(8,.any)]⟩ .no .no) .no)))))) [.pt 200000,.ag [.any,.any,.any,.any,.any,.any,.any]] [(200000,[.im 1,.im 2,.im 3,.im 4,.ow false 5,.ow true 7,.ow false 6])] [] ⟨[(4,.any)],[(200000,.any)]⟩ [200000] false (λx=>[.pt 200000 [] 0 0,.ag [I_ x.q7.a_,I_ x.q7.D_,I_ x.q7.A_,I_ x.q7.B_,I_ x.q7.C_,I_ x.q7.N_,.sc (.int .u32 x.q7.m_)]]) (λx=>[(200000,.lit 7 [[.im 1 x.1,.im 2 x.2.1,.im 3 x.2.2.1,.im 4 x.p3,.ow false 5 x.p4,.ow true 7 x.p5,.ow false 6 x.p6]])]) (λy=>([(4,B_ y.1)],[(200000,.lit 7 [[.im 1 y.2.1,.im 2 y.2.2.1,.im 3 y.p3,.im 4 y.p4,.ow false 5 y.p5,.ow true 7 y.p6,.ow false 6 y.q7]])])) (λy=>B_ y.1) (λy=>[(200000,.lit 7 [[.im 1 y.2.1,.im 2 y.2.2.1,.im 3 y.p3,.im 4 y.p4,.ow false 5 y.p5,.ow true 7 y.p6,.ow false 6 y.q7]])]) (y8g n)
def ylz (n:Nat):Cx P_ Ty_:=⟨[],[],[],[]⟩
abbrev ym0:List (List Nat):=[[0],[2]]
def y80 (n:Nat)(x:Int):Pt P_ Ty_ [] Bool:=.ite (decide (x>=(3:Int))) (.leaf (decide (x<=(15:Int)))) (.leaf false)
def k13 (n:Nat):Con P_ Ty_:=zg (X:=Int) (R:=Bool) (pro:=[]) (ylz n) 64 ym0 (λx=>.no) [.any] [] [] ⟨[(2,.any)],[]⟩ [] true (λx=>[I_ x]) (λx=>[]) (λy=>([(2,B_ y)],[])) (λy=>B_ y) (λy=>[]) (y80 n)
def y8h (n:Nat):Cx P_ Ty_:=⟨[k13 n],[(53,false,6)],[],[]⟩
abbrev y8i:List (List Nat):=[[0,3],[0,3,5],[0,3,5,15],[0,3,5],[0,3,5,29],[0,3,5,29,30],[0,3,5,29,30],[0,3,42],[4],[0,3,45],[],[4],[0,3,5,29,57],[0,68],[4],[0,6],[0,6,81,82,83],[0,6,81,82,83,84],[0,6,8,81,82,83],[0,6,81,82,83],[0,6,81,82,83],[0],[],[4],[0,3,5,117],[0,120],[4],[],[4],[0,3,5,136],[4],[0,3,9],[0,3,9,139],[0,3,9,139],[0,3,9,139],[0,3,9,139],[4],[0,3,9,163],[0,3,9,163],[4],[4]]
def y1h (x:Yae)(p:Int):EH Ty_:=([(0,.pt 200000 [] 0 0),(3,.pt 3 [] 0 0),(5,I_ p)],[(200000,.lit 7 [[.im 1 x.1,.im 2 x.2.1,.im 3 x.2.2.1,.im 4 x.p3,.ow false 5 x.p4,.ow true 7 x.p5,.ow false 6 x.p6]]),(3,.lit 7 [[I_ x.q7.a_,I_ x.q7.D_,I_ x.q7.A_,I_ x.q7.B_,I_ x.q7.C_,I_ x.q7.N_,.sc (.int .u32 x.q7.m_)]])])
def y1i (x:Yae)(p:Yag):EH Ty_:=([(0,.pt 200000 [] 0 0),(3,.pt 3 [] 0 0),(5,I_ p.1),(29,I_ x.q7.a_),(30,B_ p.2)],[(200000,.lit 7 [[.im 1 x.1,.im 2 x.2.1,.im 3 x.2.2.1,.im 4 x.p3,.ow false 5 x.p4,.ow true 7 x.p5,.ow false 6 x.p6]]),(3,.lit 7 [[I_ x.q7.a_,I_ x.q7.D_,I_ x.q7.A_,I_ x.q7.B_,I_ x.q7.C_,I_ x.q7.N_,.sc (.int .u32 x.q7.m_)]])])
def y1j (x:Yae)(p:Bool):EH Ty_:=([(0,.pt 200000 [] 0 0),(3,.pt 3 [] 0 0),(42,B_ p)],[(200000,.lit 7 [[.im 1 x.1,.im 2 x.2.1,.im 3 x.2.2.1,.im 4 x.p3,.ow false 5 x.p4,.ow true 7 x.p5,.ow false 6 x.p6]]),(3,.lit 7 [[I_ x.q7.a_,I_ x.q7.D_,I_ x.q7.A_,I_ x.q7.B_,I_ x.q7.C_,I_ x.q7.N_,.sc (.int .u32 x.q7.m_)]])])
def y1k (x:Yae)(p:Bool):EH Ty_:=([(0,.pt 200000 [] 0 0),(68,B_ p)],[(200000,.lit 7 [[.im 1 x.1,.im 2 x.2.1,.im 3 x.2.2.1,.im 4 x.p3,.ow false 5 x.p4,.ow true 7 x.p5,.ow false 6 x.p6]])])
def y1l (x:Yae)(p:Ybu):EH Ty_:=([(0,.pt 200000 [] 0 0),(3,.pt 3 [] 0 0),(9,.pt 9 [] 0 0),(139,B_ p.1)],[(200000,.lit 7 [[.im 1 x.1,.im 2 x.2.1,.im 3 x.2.2.1,.im 4 x.p3,.ow false 5 x.p4,.ow true 7 x.p5,.ow false 6 x.p6]]),(3,.lit 7 [[I_ x.q7.a_,I_ x.q7.D_,I_ x.q7.A_,I_ x.q7.B_,I_ x.q7.C_,I_ x.q7.N_,.sc (.int .u32 x.q7.m_)]]),(9,.lit 2 [[I_ (3:Int),I_ p.2]])])
def y1m (x:Yae)(p:Ybu):EH Ty_:=([(0,.pt 200000 [] 0 0),(3,.pt 3 [] 0 0),(9,.pt 9 [] 0 0),(163,B_ p.1)],[(200000,.lit 7 [[.im 1 x.1,.im 2 x.2.1,.im 3 x.2.2.1,.im 4 x.p3,.ow false 5 x.p4,.ow true 7 x.p5,.ow false 6 x.p6]]),(3,.lit 7 [[I_ x.q7.a_,I_ x.q7.D_,I_ x.q7.A_,I_ x.q7.B_,I_ x.q7.C_,I_ x.q7.N_,.sc (.int .u32 x.q7.m_)]]),(9,.lit 2 [[I_ (3:Int),I_ p.2]])])
def y1n (n:Nat)(x:Yae)(v1:Int)(q1:Yac):Pt P_ Ty_ [200000] (Bo (Yac) (Yac) Empty):=.ite (decide (q1.1<v1)) (.bnd (x.p5[(i64.wrap ((x.p5.length:Int) - (1:Int))).toNat]?) λy4=>.need (0<=q1.1/\q1.1<(y4.length:Int)) (.bnd (x.p5[(i64.wrap ((x.p5.length:Int) - (1:Int))).toNat]?) λy5=>.bnd (y5[q1.1.toNat]?) λy6=>.need (0<=y6/\y6<(q1.2.length:Int)) (.bnd (q1.2[y6.toNat]?) λy7=>.leaf (.go ((i64.wrap (q1.1+(1:Int))),(q1.2.set y6.toNat false)))))) (.leaf (.out (q1.1,q1.2)))
def y1g (n:Nat)(x:Yae)(v1:Int):z16 P_ Ty_ [200000]:=z1f (X:=Yac) (Y:=Yac) (Z:=Empty) (y8h n) (z18 [1,1,1,0,1,0,1,1,1,0,1,1,0,1,0,0] (fnC P_ 44 y8i)) (λq1=>.no) 1 false ⟨[(0,.ref 200000),(6,.any),(81,.ref 200000),(82,.any),(83,.any)],[(200000,.any)]⟩ ⟨[(0,.ref 200000),(6,.any),(81,.ref 200000),(82,.any),(83,.any),(84,.any)],[(200000,.any)]⟩ ⟨[],[]⟩ (λq1=>([(0,.pt 200000 [] 0 0),(6,I_ (i64.wrap ((x.p5.length:Int) - (1:Int)))),(81,.sw 200000 [(0,5),((i64.wrap ((x.p5.length:Int) - (1:Int))).toNat,0)]),(82,I_ v1),(83,I_ q1.1)],[(200000,.lit 7 [[.im 1 x.1,.im 2 x.2.1,.im 3 x.2.2.1,.im 4 x.p3,.ow false 5 q1.2,.ow true 7 x.p5,.ow false 6 x.p6]])])) (λp=>([(0,.pt 200000 [] 0 0),(6,I_ (i64.wrap ((x.p5.length:Int) - (1:Int)))),(81,.sw 200000 [(0,5),((i64.wrap ((x.p5.length:Int) - (1:Int))).toNat,0)]),(82,I_ v1),(83,I_ p.1),(84,B_ false)],[(200000,.lit 7 [[.im 1 x.1,.im 2 x.2.1,.im 3 x.2.2.1,.im 4 x.p3,.ow false 5 p.2,.ow true 7 x.p5,.ow false 6 x.p6]])])) (λp=>nomatch p) n (y1n n x v1)
def y8j (n:Nat)(x:Yae):Pt P_ Ty_ [200000] (Yam):=.join (S:=Int) (y1h x) (.ite (decide ((x.p6.length:Int) > (0:Int))) (.need (0<=(i64.wrap ((x.p6.length:Int) - (1:Int)))/\(i64.wrap ((x.p6.length:Int) - (1:Int)))<(x.p6.length:Int)) (.bnd (x.p6[(i64.wrap ((x.p6.length:Int) - (1:Int))).toNat]?) λy1=>.leaf (.inl y1))) (.leaf (.inl (-1:Int)))) λs1=>.join (S:=Yag) (y1i x) (.ite (x.q7.a_==34) (.leaf (.inl (s1,true))) (.leaf (.inl (s1,(x.q7.a_==36))))) λs2=>.ite s2.2 (.join (S:=Bool) (y1j x) (.ite (decide (s2.1>=(0:Int))) (.leaf (.inl true)) (.leaf (.inl ((x.p6.length:Int)==64)))) λs3=>.ite s3 (.leaf (false,x.1,x.2.1,x.2.2.1,x.p3,x.p4,x.p5,x.p6)) (.ite (x.q7.a_==36) (.need ((x.p6.length+([x.q7.N_]:List Int).length) * 8<=140737488355328) (.leaf (true,x.1,x.2.1,x.2.2.1,x.p3,x.p4,x.p5,(x.p6++([x.q7.N_]:List Int))))) (.leaf (true,x.1,x.2.1,x.2.2.1,x.p3,x.p4,x.p5,x.p6)))) (.ite (x.q7.a_==35) (.join (S:=Bool) (y1k x) (.ite ((x.p6.length:Int)==0) (.leaf (.inl true)) (.leaf (.inl (decide (s2.1>=(0:Int)))))) λs4=>.ite s4 (.leaf (false,x.1,x.2.1,x.2.2.1,x.p3,x.p4,x.p5,x.p6)) (.need (0<=(i64.wrap ((x.p5.length:Int) - (1:Int)))/\(i64.wrap ((x.p5.length:Int) - (1:Int)))<(x.p5.length:Int)) (.bnd (x.p5[(i64.wrap ((x.p5.length:Int) - (1:Int))).toNat]?) λy2=>.bnd (x.p5[(i64.wrap ((x.p5.length:Int) - (1:Int))).toNat]?) λy3=>.loop (V:=Int) (y1g n x) (y3.length:Int) ((0:Int),x.p4) λ(v1:Int) (y8:Yac)=>.need (0<=(i64.wrap ((x.p5.length:Int) - (1:Int)))/\(i64.wrap ((x.p5.length:Int) - (1:Int)))<=(x.p5.length:Int)) (.need ((i64.wrap ((x.p5.length:Int) - (1:Int))).toNat<=x.p5.length) (.need (0<=(i64.wrap ((x.p6.length:Int) - (1:Int)))/\(i64.wrap ((x.p6.length:Int) - (1:Int)))<=(x.p6.length:Int)) (.need ((i64.wrap ((x.p6.length:Int) - (1:Int))).toNat<=x.p6.length) (.leaf (true,x.1,x.2.1,x.2.2.1,x.p3,y8.2,(x.p5.take ((i64.wrap ((x.p5.length:Int) - (1:Int))).toNat)),(x.p6.take ((i64.wrap ((x.p6.length:Int) - (1:Int))).toNat)))))))))) (.ite (x.q7.a_==37) (.ite (decide (s2.1<(0:Int))) (.leaf (false,x.1,x.2.1,x.2.2.1,x.p3,x.p4,x.p5,x.p6)) (.need (0<=(i64.wrap ((x.p6.length:Int) - (1:Int)))/\(i64.wrap ((x.p6.length:Int) - (1:Int)))<=(x.p6.length:Int)) (.need ((i64.wrap ((x.p6.length:Int) - (1:Int))).toNat<=x.p6.length) (.leaf (true,x.1,x.2.1,x.2.2.1,x.p3,x.p4,x.p5,(x.p6.take ((i64.wrap ((x.p6.length:Int) - (1:Int))).toNat))))))) (.ite (decide (s2.1<(0:Int))) (.leaf (true,x.1,x.2.1,x.2.2.1,x.p3,x.p4,x.p5,x.p6)) (.join (S:=Ybu) (y1l x) (.call (k13 n) x.q7.a_ λ(y9:Bool)=>.ite y9 (.leaf (.inl (true,s2.1))) (.ite (x.q7.a_==29) (.leaf (.inl (true,s2.1))) (.ite (x.q7.a_==30) (.leaf (.inl (true,s2.1))) (.leaf (.inl ((x.q7.a_==32),s2.1)))))) λs5=>.ite s5.1 (.bnd (idx x.2.1 x.q7.D_) λy10=>.leaf ((y10.j_==(3:Int)&&(y10.o_==s5.2&&true)),x.1,x.2.1,x.2.2.1,x.p3,x.p4,x.p5,x.p6)) (.join (S:=Ybu) (y1m x) (.ite (x.q7.a_==31) (.leaf (.inl (true,s5.2))) (.leaf (.inl ((x.q7.a_==33),s5.2)))) λs6=>.ite s6.1 (.bnd (idx x.2.1 x.q7.A_) λy11=>.leaf ((y11.j_==(3:Int)&&(y11.o_==s6.2&&true)),x.1,x.2.1,x.2.2.1,x.p3,x.p4,x.p5,x.p6)) (.leaf (false,x.1,x.2.1,x.2.2.1,x.p3,x.p4,x.p5,x.p6)))))))
def k36 (n:Nat):Con P_ Ty_:=zg (X:=Yae) (R:=Yam) (pro:=[200000]) (y8h n) 44 y8i (λx=>.two .no (.two .no (.join Int (y1h x) ⟨[(0,.ref 200000),(3,.ref 3),(5,.any)],[(200000,.any),(3,.any)]⟩ .no (.two (.two .no (.two (.join (Yag) (y1i x) ⟨[(0,.ref 200000),(3,.ref 3),(5,.any),(29,.any),(30,.any)],[(200000,.any),(3,.any)]⟩ .no (.two (.two (.join Bool (y1j x) ⟨[(0,.ref 200000),(3,.ref 3),(42,.any)],[(200000,.any),(3,.any)]⟩ .no .no) .no) (.two .no (.two (.two (.join Bool (y1k x) ⟨[(0,.ref 200000),(68,.any)],[(200000,.any)]⟩ .no .no) (.two .no (.two (.two .no (.two (.loop Int (y1g n x) false ⟨[(0,.ref 200000),(6,.any),(81,.ref 200000),(82,.any),(83,.any)],[(200000,.any)]⟩) .no)) .no))) .no)))) .no)) (.two .no (.two .no (.two (.two (.join (Ybu) (y1l x) ⟨[(0,.ref 200000),(3,.ref 3),(9,.ref 9),(139,.any)],[(200000,.any),(3,.any),(9,.any)]⟩ .no (.two .no (.join (Ybu) (y1m x) ⟨[(0,.ref 200000),(3,.ref 3),(9,.ref 9),(163,.any)],[(200000,.any),(3,.any),(9,.any)]⟩ .no .no))) .no) .no))))))) [.pt 200000,.ag [.any,.any,.any,.any,.any,.any,.any]] [(200000,[.im 1,.im 2,.im 3,.im 4,.ow false 5,.ow true 7,.ow false 6])] [] ⟨[(4,.any)],[(200000,.any)]⟩ [200000] false (λx=>[.pt 200000 [] 0 0,.ag [I_ x.q7.a_,I_ x.q7.D_,I_ x.q7.A_,I_ x.q7.B_,I_ x.q7.C_,I_ x.q7.N_,.sc (.int .u32 x.q7.m_)]]) (λx=>[(200000,.lit 7 [[.im 1 x.1,.im 2 x.2.1,.im 3 x.2.2.1,.im 4 x.p3,.ow false 5 x.p4,.ow true 7 x.p5,.ow false 6 x.p6]])]) (λy=>([(4,B_ y.1)],[(200000,.lit 7 [[.im 1 y.2.1,.im 2 y.2.2.1,.im 3 y.p3,.im 4 y.p4,.ow false 5 y.p5,.ow true 7 y.p6,.ow false 6 y.q7]])])) (λy=>B_ y.1) (λy=>[(200000,.lit 7 [[.im 1 y.2.1,.im 2 y.2.2.1,.im 3 y.p3,.im 4 y.p4,.ow false 5 y.p5,.ow true 7 y.p6,.ow false 6 y.q7]])]) (y8j n)
def yj5 (n:Nat):Cx P_ Ty_:=⟨[k26 n],[(37,false,6),(38,false,6)],[],[]⟩
abbrev yj6:List (List Nat):=[[1],[1,3],[1,3,5],[1,5,20,21],[1,5,20,21,22],[1,5,6,7,20,21],[1,5,6,20,21,26],[1,5,20,21],[1,5,20,21],[2]]
def y9w (n:Nat)(x:Xd)(v1:Yan)(q1:Yab):Pt P_ Ty_ [] (Bo (Yab) (Yab) Empty):=.ite (decide (q1.1<(3:Int))) (.bnd (idx [v1.1,v1.2.1,v1.2.2] q1.1) λy2=>.ite (y2 != (0:Int)) (.bnd (idx [x.A_,x.B_,x.C_] q1.1) λy3=>.need ((q1.2.length+([y3]:List Int).length) * 8<=140737488355328) (.leaf (.go ((i64.wrap (q1.1+(1:Int))),(q1.2++([y3]:List Int)))))) (.leaf (.go ((i64.wrap (q1.1+(1:Int))),q1.2)))) (.leaf (.out (q1.1,q1.2)))
def y9v (n:Nat)(x:Xd)(v1:Yan):z16 P_ Ty_ []:=z1f (X:=Yab) (Y:=Yab) (Z:=Empty) (yj5 n) (z18 [1,1,1,0,1,0,0] (fnC P_ 46 yj6)) (λq1=>.no) 0 false ⟨[(1,.ref 1),(5,.own 600001 false 6),(20,.any),(21,.any)],[(1,.any),(600001,.any)]⟩ ⟨[(1,.ref 1),(5,.ref 600001),(20,.any),(21,.any),(22,.any)],[(1,.any),(600001,.any)]⟩ ⟨[],[]⟩ (λq1=>([(1,.pt 1 [] 0 0),(5,.sw 600001 []),(20,.ag [I_ v1.1,I_ v1.2.1,I_ v1.2.2]),(21,I_ q1.1)],[(1,.lit 7 [[I_ x.a_,I_ x.D_,I_ x.A_,I_ x.B_,I_ x.C_,I_ x.N_,.sc (.int .u32 x.m_)]]),(600001,.typ false 6 q1.2)])) (λp=>([(1,.pt 1 [] 0 0),(5,.sw 600001 []),(20,.ag [I_ v1.1,I_ v1.2.1,I_ v1.2.2]),(21,I_ p.1),(22,B_ false)],[(1,.lit 7 [[I_ x.a_,I_ x.D_,I_ x.A_,I_ x.B_,I_ x.C_,I_ x.N_,.sc (.int .u32 x.m_)]]),(600001,.typ false 6 p.2)])) (λp=>nomatch p) n (y9w n x v1)
def yj7 (n:Nat)(x:Xd):Pt P_ Ty_ [] (List Int):=.call (k26 n) x.a_ λ(y1:Ybt)=>.loop (V:=Yan) (y9v n x) (y1.2.2.1,y1.p3,y1.p4) ((0:Int),([]:List Int)) λ(v1:Yan) (y4:Yab)=>.leaf y4.2
def k9 (n:Nat):Con P_ Ty_:=zg (X:=Xd) (R:=(List Int)) (pro:=[]) (yj5 n) 46 yj6 (λx=>.two .no (.two .no (.two .no (.two (.two .no (.two (.loop (Yan) (y9v n x) false ⟨[(1,.ref 1),(5,.own 600001 false 6),(20,.any),(21,.any)],[(1,.any),(600001,.any)]⟩) .no)) .no)))) [.ag [.any,.any,.any,.any,.any,.any,.any]] [] [100000] ⟨[(2,.ref 100000)],[(100000,.any)]⟩ [100000] true (λx=>[.ag [I_ x.a_,I_ x.D_,I_ x.A_,I_ x.B_,I_ x.C_,I_ x.N_,.sc (.int .u32 x.m_)]]) (λx=>[]) (λy=>([(2,.sw 100000 [])],[(100000,.typ false 6 y)])) (λy=>.sw 100000 []) (λy=>[(100000,.typ false 6 y)]) (yj7 n)
def ylv (n:Nat):Cx P_ Ty_:=⟨[k26 n],[],[],[]⟩
abbrev ylw:List (List Nat):=[[1],[3],[2]]
def y7y (n:Nat)(x:Xd):Pt P_ Ty_ [] Bool:=.call (k26 n) x.a_ λ(y1:Ybt)=>.leaf (y1.2.1 != (0:Int))
def k11 (n:Nat):Con P_ Ty_:=zg (X:=Xd) (R:=Bool) (pro:=[]) (ylv n) 24 ylw (λx=>.no) [.ag [.any,.any,.any,.any,.any,.any,.any]] [] [] ⟨[(2,.any)],[]⟩ [] true (λx=>[.ag [I_ x.a_,I_ x.D_,I_ x.A_,I_ x.B_,I_ x.C_,I_ x.N_,.sc (.int .u32 x.m_)]]) (λx=>[]) (λy=>([(2,B_ y)],[])) (λy=>B_ y) (λy=>[]) (y7y n)
def y8k (n:Nat):Cx P_ Ty_:=⟨[k9 n,k11 n],[(32,false,6),(41,true,7),(87,false,6)],[],[]⟩
abbrev y8l:List (List Nat):=[[0,3],[0,3,9,10,11],[0,3,9,10,11,12],[0,3,6,9,10,11],[0,3,9,10,11,22],[4],[0,3,9,10,11],[0,3,26],[0,3],[0,3],[0,3,57],[0,3],[0,3,7],[0,3,7,72],[],[4]]
def y1p (x:Yae)(p:Ycs):EH Ty_:=([(0,.pt 200000 [] 0 0),(3,.pt 3 [] 0 0)],[(200000,.lit 7 [[.im 1 x.1,.im 2 x.2.1,.im 3 x.2.2.1,.im 4 x.p3,.ow false 5 x.p4,.ow true 7 p.1,.ow false 6 p.2]]),(3,.lit 7 [[I_ x.q7.a_,I_ x.q7.D_,I_ x.q7.A_,I_ x.q7.B_,I_ x.q7.C_,I_ x.q7.N_,.sc (.int .u32 x.q7.m_)]])])
def y1q (x:Yae)(p:Yct):EH Ty_:=([(0,.pt 200000 [] 0 0),(3,.pt 3 [] 0 0),(57,B_ p.1)],[(200000,.lit 7 [[.im 1 x.1,.im 2 x.2.1,.im 3 x.2.2.1,.im 4 x.p3,.ow false 5 x.p4,.ow true 7 p.2.1,.ow false 6 p.2.2]]),(3,.lit 7 [[I_ x.q7.a_,I_ x.q7.D_,I_ x.q7.A_,I_ x.q7.B_,I_ x.q7.C_,I_ x.q7.N_,.sc (.int .u32 x.q7.m_)]])])
def y1r (n:Nat)(x:Yae)(v1:Yab)(q1:Int):Pt P_ Ty_ [200000] (Bo Int Int Unit):=.ite (decide (q1<v1.1)) (.need (0<=q1/\q1<(v1.2.length:Int)) (.bnd (v1.2[q1.toNat]?) λy2=>.need (0<=y2/\y2<(x.p4.length:Int)) (.bnd (x.p4[y2.toNat]?) λy3=>.ite (!y3) (.leaf (.ret ())) (.leaf (.go (i64.wrap (q1+(1:Int)))))))) (.leaf (.out q1))
def y1o (n:Nat)(x:Yae)(v1:Yab):z16 P_ Ty_ [200000]:=z1f (X:=Int) (Y:=Int) (Z:=Unit) (y8k n) (z18 [1,0,1,0,0] (fnC P_ 45 y8l)) (λq1=>.no) 0 true ⟨[(0,.ref 200000),(3,.ref 3),(9,.ref 9),(10,.any),(11,.any)],[(200000,.any),(3,.any),(9,.any)]⟩ ⟨[(0,.ref 200000),(3,.ref 3),(9,.ref 9),(10,.any),(11,.any),(12,.any)],[(200000,.any),(3,.any),(9,.any)]⟩ ⟨[(4,.any)],[(200000,.any)]⟩ (λq1=>([(0,.pt 200000 [] 0 0),(3,.pt 3 [] 0 0),(9,.sw 9 []),(10,I_ v1.1),(11,I_ q1)],[(200000,.lit 7 [[.im 1 x.1,.im 2 x.2.1,.im 3 x.2.2.1,.im 4 x.p3,.ow false 5 x.p4,.ow true 7 x.p5,.ow false 6 x.p6]]),(3,.lit 7 [[I_ x.q7.a_,I_ x.q7.D_,I_ x.q7.A_,I_ x.q7.B_,I_ x.q7.C_,I_ x.q7.N_,.sc (.int .u32 x.q7.m_)]]),(9,.typ false 6 v1.2)])) (λp=>([(0,.pt 200000 [] 0 0),(3,.pt 3 [] 0 0),(9,.sw 9 []),(10,I_ v1.1),(11,I_ p),(12,B_ false)],[(200000,.lit 7 [[.im 1 x.1,.im 2 x.2.1,.im 3 x.2.2.1,.im 4 x.p3,.ow false 5 x.p4,.ow true 7 x.p5,.ow false 6 x.p6]]),(3,.lit 7 [[I_ x.q7.a_,I_ x.q7.D_,I_ x.q7.A_,I_ x.q7.B_,I_ x.q7.C_,I_ x.q7.N_,.sc (.int .u32 x.q7.m_)]]),(9,.typ false 6 v1.2)])) (λp=>([(4,B_ false)],[(200000,.lit 7 [[.im 1 x.1,.im 2 x.2.1,.im 3 x.2.2.1,.im 4 x.p3,.ow false 5 x.p4,.ow true 7 x.p5,.ow false 6 x.p6]])])) n (y1r n x v1)
def y8m (n:Nat)(x:Yae):Pt P_ Ty_ [200000] (Yam):=.call (k9 n) x.q7 λ(y1:(List Int))=>.loopR (V:=Yab) (y1o n x) ((y1.length:Int),y1) (0:Int) (λ(v1:Yab) (y4:Int)=>.join (S:=Ycs) (y1p x) (.ite (x.q7.a_==34) (.need ((x.p6.length+([(-1:Int)]:List Int).length) * 8<=140737488355328) (.need ((x.p5.length+([[]]:List (List Int)).length) * 24<=140737488355328) (.leaf (.inl ((x.p5++([[]]:List (List Int))),(x.p6++([(-1:Int)]:List Int))))))) (.leaf (.inl (x.p5,x.p6)))) λs1=>.join (S:=Yct) (y1q x) (.call (k11 n) x.q7 λ(y5:Bool)=>.ite y5 (.need (0<=x.q7.D_/\x.q7.D_<(x.p4.length:Int)) (.bnd (x.p4[x.q7.D_.toNat]?) λy6=>.leaf (.inl ((!y6),s1.1,s1.2)))) (.leaf (.inl (false,s1.1,s1.2)))) λs2=>.ite s2.1 (.need (0<=x.q7.D_/\x.q7.D_<(x.p4.length:Int)) (.bnd (x.p4[x.q7.D_.toNat]?) λy7=>.ite (decide ((i64.wrap ((s2.2.1.length:Int) - (1:Int)))>=(0:Int))) (.need (0<=(i64.wrap ((s2.2.1.length:Int) - (1:Int)))/\(i64.wrap ((s2.2.1.length:Int) - (1:Int)))<(s2.2.1.length:Int)) (.bnd (s2.2.1[(i64.wrap ((s2.2.1.length:Int) - (1:Int))).toNat]?) λy8=>.bnd (s2.2.1[(i64.wrap ((s2.2.1.length:Int) - (1:Int))).toNat]?) λy9=>.bnd (s2.2.1[(i64.wrap ((s2.2.1.length:Int) - (1:Int))).toNat]?) λy10=>.need ((y9.length+([x.q7.D_]:List Int).length) * 8<=140737488355328) (.need (0<=(i64.wrap ((s2.2.1.length:Int) - (1:Int)))/\(i64.wrap ((s2.2.1.length:Int) - (1:Int)))<(s2.2.1.length:Int)) (.need ((i64.wrap ((s2.2.1.length:Int) - (1:Int))).toNat=(i64.wrap ((s2.2.1.length:Int) - (1:Int))).toNat/\(i64.wrap ((s2.2.1.length:Int) - (1:Int))).toNat<s2.2.1.length) (.leaf (true,x.1,x.2.1,x.2.2.1,x.p3,(x.p4.set x.q7.D_.toNat true),(s2.2.1.set ((i64.wrap ((s2.2.1.length:Int) - (1:Int))).toNat) (y9++([x.q7.D_]:List Int))),s2.2.2)))))) (.leaf (true,x.1,x.2.1,x.2.2.1,x.p3,(x.p4.set x.q7.D_.toNat true),s2.2.1,s2.2.2)))) (.leaf (true,x.1,x.2.1,x.2.2.1,x.p3,x.p4,s2.2.1,s2.2.2))) λ(v1:Yab) (z1:Unit)=>.leaf (false,x.1,x.2.1,x.2.2.1,x.p3,x.p4,x.p5,x.p6)
def k37 (n:Nat):Con P_ Ty_:=zg (X:=Yae) (R:=Yam) (pro:=[200000]) (y8k n) 45 y8l (λx=>.two .no (.two (.two .no (.two (.loop (Yab) (y1o n x) true ⟨[(0,.ref 200000),(3,.ref 3),(9,.ref 9),(10,.any),(11,.any)],[(200000,.any),(3,.any),(9,.any)]⟩) .no)) (.join (Ycs) (y1p x) ⟨[(0,.ref 200000),(3,.ref 3)],[(200000,.any),(3,.any)]⟩ .no (.two (.join (Yct) (y1q x) ⟨[(0,.ref 200000),(3,.ref 3),(57,.any)],[(200000,.any),(3,.any)]⟩ .no .no) .no)))) [.pt 200000,.ag [.any,.any,.any,.any,.any,.any,.any]] [(200000,[.im 1,.im 2,.im 3,.im 4,.ow false 5,.ow true 7,.ow false 6])] [] ⟨[(4,.any)],[(200000,.any)]⟩ [200000] false (λx=>[.pt 200000 [] 0 0,.ag [I_ x.q7.a_,I_ x.q7.D_,I_ x.q7.A_,I_ x.q7.B_,I_ x.q7.C_,I_ x.q7.N_,.sc (.int .u32 x.q7.m_)]]) (λx=>[(200000,.lit 7 [[.im 1 x.1,.im 2 x.2.1,.im 3 x.2.2.1,.im 4 x.p3,.ow false 5 x.p4,.ow true 7 x.p5,.ow false 6 x.p6]])]) (λy=>([(4,B_ y.1)],[(200000,.lit 7 [[.im 1 y.2.1,.im 2 y.2.2.1,.im 3 y.p3,.im 4 y.p4,.ow false 5 y.p5,.ow true 7 y.p6,.ow false 6 y.q7]])])) (λy=>B_ y.1) (λy=>[(200000,.lit 7 [[.im 1 y.2.1,.im 2 y.2.2.1,.im 3 y.p3,.im 4 y.p4,.ow false 5 y.p5,.ow true 7 y.p6,.ow false 6 y.q7]])]) (y8m n)
def y82 (n:Nat):Cx P_ Ty_:=⟨[k28 n,k29 n,k32 n,k35 n,k36 n,k37 n],[(45,false,5)],[],[]⟩
abbrev y83:List (List Nat):=[[1],[1,4],[1,4,11],[2,3],[1,15],[2,3],[1,26],[2,3],[1,40],[2,3],[1,5],[1,5,49,50,51],[1,5,49,50,51,52],[1,5,6,7,49,50,51],[1,5,6,49,50,51,71],[2,3],[1,5,49,50,51],[1,79],[2,3],[2,3]]
def zze (x:Xe)(p:Bool):EH Ty_:=([(1,.pt 1 [] 0 0),(15,B_ p)],[(1,.lit 4 [[.im 1 x.g_,.im 2 x.c_,.im 3 x.e_,.im 4 x.d_]])])
def zzf (x:Xe)(p:Yaj):EH Ty_:=([(1,.pt 1 [] 0 0),(40,B_ p.1)],[(1,.lit 4 [[.im 1 p.2.1,.im 2 p.2.2.1,.im 3 p.p3,.im 4 p.q4]])])
def zzg (x:Xe)(v1:Ybe)(q1:Yay)(p:Yam):EH Ty_:=([(1,.pt 1 [] 0 0),(5,.pt 47 [] 0 0),(6,I_ q1.1),(49,.im 4 v1.1),(50,I_ v1.2.1),(51,I_ q1.1),(71,B_ p.1)],[(1,.lit 4 [[.im 1 v1.2.2.1,.im 2 v1.p3,.im 3 v1.q4,.im 4 v1.1]]),(47,.lit 7 [[.im 1 p.2.1,.im 2 p.2.2.1,.im 3 p.p3,.im 4 p.p4,.ow false 5 p.p5,.ow true 7 p.p6,.ow false 6 p.q7]])])
def zzh (n:Nat)(x:Xe)(v1:Ybe)(q1:Yay):Pt P_ Ty_ [] (Bo (Yay) (Yay) Int):=.ite (decide (q1.1<v1.2.1)) (.bnd (idx v1.1 q1.1) λy4=>.join (S:=Yam) (zzg x v1 q1) (.call (k35 n) (q1.2.1,q1.2.2.1,q1.p3,q1.p4,q1.p5,q1.p6,q1.q7,y4) λ(y5:Yam)=>.ite (!y5.1) (.leaf (.inl (true,y5.2.1,y5.2.2.1,y5.p3,y5.p4,y5.p5,y5.p6,y5.q7))) (.call (k36 n) (y5.2.1,y5.2.2.1,y5.p3,y5.p4,y5.p5,y5.p6,y5.q7,y4) λ(y6:Yam)=>.ite (!y6.1) (.leaf (.inl (true,y6.2.1,y6.2.2.1,y6.p3,y6.p4,y6.p5,y6.p6,y6.q7))) (.call (k37 n) (y6.2.1,y6.2.2.1,y6.p3,y6.p4,y6.p5,y6.p6,y6.q7,y4) λ(y7:Yam)=>.leaf (.inl ((!y7.1),y7.2.1,y7.2.2.1,y7.p3,y7.p4,y7.p5,y7.p6,y7.q7))))) λs3=>.ite s3.1 (.leaf (.ret q1.1)) (.leaf (.go ((i64.wrap (q1.1+(1:Int))),s3.2.1,s3.2.2.1,s3.p3,s3.p4,s3.p5,s3.p6,s3.q7)))) (.leaf (.out (q1.1,q1.2.1,q1.2.2.1,q1.p3,q1.p4,q1.p5,q1.p6,q1.q7)))
def zzd (n:Nat)(x:Xe)(v1:Ybe):z16 P_ Ty_ []:=z1f (X:=Yay) (Y:=Yay) (Z:=Int) (y82 n) (z18 [1,1,1,1,0,1,0,0] (fnC P_ 17 y83)) (λq1=>.two .no (.two .no (.two (.two (.two .no (.join (Yam) (zzg x v1 q1) ⟨[(1,.ref 1),(5,.ref 47),(6,.any),(49,.im 4),(50,.any),(51,.any),(71,.any)],[(1,.any),(47,.any)]⟩ .no .no)) .no) .no))) 1 true ⟨[(1,.ref 1),(5,.ref 47),(49,.im 4),(50,.any),(51,.any)],[(1,.any),(47,.fix [.no,.no,.no,.no,.no,.ow true 7,.ow false 6])]⟩ ⟨[(1,.ref 1),(5,.ref 47),(49,.im 4),(50,.any),(51,.any),(52,.any)],[(1,.any),(47,.any)]⟩ ⟨[(2,.any),(3,.any)],[]⟩ (λq1=>([(1,.pt 1 [] 0 0),(5,.pt 47 [] 0 0),(49,.im 4 v1.1),(50,I_ v1.2.1),(51,I_ q1.1)],[(1,.lit 4 [[.im 1 v1.2.2.1,.im 2 v1.p3,.im 3 v1.q4,.im 4 v1.1]]),(47,.lit 7 [[.im 1 q1.2.1,.im 2 q1.2.2.1,.im 3 q1.p3,.im 4 q1.p4,.ow false 5 q1.p5,.ow true 7 q1.p6,.ow false 6 q1.q7]])])) (λp=>([(1,.pt 1 [] 0 0),(5,.pt 47 [] 0 0),(49,.im 4 v1.1),(50,I_ v1.2.1),(51,I_ p.1),(52,B_ false)],[(1,.lit 4 [[.im 1 v1.2.2.1,.im 2 v1.p3,.im 3 v1.q4,.im 4 v1.1]]),(47,.lit 7 [[.im 1 p.2.1,.im 2 p.2.2.1,.im 3 p.p3,.im 4 p.p4,.ow false 5 p.p5,.ow true 7 p.p6,.ow false 6 p.q7]])])) (λp=>([(2,I_ (160:Int)),(3,I_ p)],[])) n (zzh n x v1)
def y84 (n:Nat)(x:Xe):Pt P_ Ty_ [] (Yaa):=.call (k28 n) x.g_ λ(y1:Int)=>.ite (y1 != (0:Int)) (.leaf (y1,(-1:Int))) (.join (S:=Bool) (zze x) (.ite (decide ((x.c_.length:Int) > (16384:Int))) (.leaf (.inl true)) (.leaf (.inl (decide ((x.d_.length:Int) > (32768:Int)))))) λs1=>.ite s1 (.leaf ((181:Int),(-1:Int))) (.ite (decide ((x.e_.length:Int) > (4096:Int))) (.leaf ((180:Int),(-1:Int))) (.join (S:=Yaj) (zzf x) (.call (k29 n) (x.c_,x.g_,x.c_,x.e_,x.d_) λ(y2:Yaj)=>.ite y2.1 (.leaf (.inl (true,y2.2.1,y2.2.2.1,y2.p3,y2.q4))) (.call (k32 n) (y2.p3,y2.2.1,y2.2.2.1,y2.p3,y2.q4) λ(y3:Yaj)=>.leaf (.inl (y3.1,y3.2.1,y3.2.2.1,y3.p3,y3.q4)))) λs2=>.ite s2.1 (.leaf ((160:Int),(-1:Int))) (.need (0<=(s2.2.2.1.length:Int)/\(s2.2.2.1.length:Int) * (1:Int)<=140737488355328) (.loopR (V:=Ybe) (zzd n x) (s2.q4,(s2.q4.length:Int),s2.2.1,s2.2.2.1,s2.p3) ((0:Int),s2.2.1,s2.2.2.1,s2.p3,s2.q4,(replicate (s2.2.2.1.length:Int).toNat false),([]:List (List Int)),([]:List Int)) (λ(v1:Ybe) (y8:Yay)=>.ite (decide ((y8.q7.length:Int) > (0:Int))) (.leaf ((160:Int),(v1.1.length:Int))) (.leaf ((0:Int),(0:Int)))) λ(v1:Ybe) (z1:Int)=>.leaf ((160:Int),z1))))))
def k16 (n:Nat):Con P_ Ty_:=zg (X:=Xe) (R:=Yaa) (pro:=[]) (y82 n) 17 y83 (λx=>.two .no (.two (.two .no (.two (.two .no (.two .no (.join Bool (zze x) ⟨[(1,.ref 1),(15,.any)],[(1,.any)]⟩ .no .no))) .no)) (.two (.join (Yaj) (zzf x) ⟨[(1,.ref 1),(40,.any)],[(1,.any)]⟩ .no .no) (.two .no (.two (.two .no (.two (.loop (Ybe) (zzd n x) true ⟨[(1,.ref 1),(5,.ref 47),(49,.im 4),(50,.any),(51,.any)],[(1,.any),(47,.fix [.no,.no,.no,.no,.no,.ow true 7,.ow false 6])]⟩) .no)) .no))))) [.ag [.im 1,.im 2,.im 3,.im 4]] [] [] ⟨[(2,.any),(3,.any)],[]⟩ [] true (λx=>[.ag [.im 1 x.g_,.im 2 x.c_,.im 3 x.e_,.im 4 x.d_]]) (λx=>[]) (λy=>([(2,I_ y.1),(3,I_ y.2)],[])) (λy=>.tu [I_ y.1,I_ y.2]) (λy=>[]) (y84 n)
def ycm:Code:=(Go.Proofs.Tryz.f18.body).getD .skip
def yl0:IC:=match z4v Go.Proofs.Tryz.prog 8 (lf (rt (rt ycm))) [[2]] with | some (c,_)=>c | none=>.skip
abbrev ycq:Cx Go.Proofs.Tryz.prog Ty_:=⟨[],[(5,false,1)],[],[]⟩
def y64 (_:Nat)(a0:List Xa):Option (List Xa):=need (a0.length * 32<=140737488355328) (some a0)
theorem ztq (n:Nat)(a0:List Xa)(r:List Xa)(hg:y64 n a0=some r):z1p Go.Proofs.Tryz.prog 18 [.im 3 (a0.map (c1 false))] [] (.sl 100000 [] 0 (r.map (c1 false)).length) [(100000,⟨3,r.map (c1 false)⟩)]:=by
 obtain ⟨hl,hr⟩:=z9a hg;obtain rfl:=Option.some.inj hr;rw [length_map];have e:evC (L:=EH Ty_) ycq yl0 .no [(0,.im 1 a0)] [] zct=Raw.need ((([]:List Xa).length+a0.length) * 32<=140737488355328) (.leaf ([(2,.sw 100000 [])],[(100000,.typ false 1 (([]:List Xa)++a0))])):=by kernel_rfl
 exact zdq (T:=Ty_) (ty:=1) (fn:=Go.Proofs.Tryz.f18) (b:=ycm) (t:=22) (el:=53) (c3:=.seq yl0 .ret) (by kernel_rfl) (by kernel_rfl) (by kernel_rfl) (by kernel_rfl) (by kernel_rfl) ⟨[[0]],[],by kernel_rfl⟩ (by kernel_rfl) (by kernel_rfl) (by kernel_rfl) ⟨[[2]],[],by kernel_rfl⟩ ⟨[[2]],[],by kernel_rfl⟩ (by kernel_rfl) (by kernel_rfl) a0
  (zgm (cx:=ycq) (by rw [e];exact ⟨by simpa using hl,rfl⟩))
def yk3 (n:Nat):Con Go.Proofs.Tryz.prog Ty_ where
 f:=18
 X:=(List Xa)
 Y:=(List Xa)
 A:=[.im 1]
 H:=[]
 N:=[100000]
 encA:=λx=>[.im 1 x]
 encH:=λ_=>[]
 G:=λx=>y64 n x
 encR:=λ_=>.sw 100000 []
 encO:=λy=>[(100000,.typ false 1 y)]
 strong:=true
 ok:=λx y h=>⟨λ_=>ztq n x y h,z1p.toG (ztq n x y h)⟩
def ycn:Code:=(Go.Proofs.Tryz.f19.body).getD .skip
def yl1:IC:=match z4v Go.Proofs.Tryz.prog 8 (lf (rt (rt ycn))) [[2]] with | some (c,_)=>c | none=>.skip
abbrev ycr:Cx Go.Proofs.Tryz.prog Ty_:=⟨[],[(5,false,2)],[],[]⟩
def y65 (_:Nat)(a0:List Xb):Option (List Xb):=need (a0.length * 16<=140737488355328) (some a0)
theorem ztr (n:Nat)(a0:List Xb)(r:List Xb)(hg:y65 n a0=some r):z1p Go.Proofs.Tryz.prog 19 [.im 2 (a0.map (c2 false))] [] (.sl 100000 [] 0 (r.map (c2 false)).length) [(100000,⟨2,r.map (c2 false)⟩)]:=by
 obtain ⟨hl,hr⟩:=z9a hg;obtain rfl:=Option.some.inj hr;rw [length_map];have e:evC (L:=EH Ty_) ycr yl1 .no [(0,.im 2 a0)] [] zct=Raw.need ((([]:List Xb).length+a0.length) * 16<=140737488355328) (.leaf ([(2,.sw 100000 [])],[(100000,.typ false 2 (([]:List Xb)++a0))])):=by kernel_rfl
 exact zdq (T:=Ty_) (ty:=2) (fn:=Go.Proofs.Tryz.f19) (b:=ycn) (t:=23) (el:=46) (c3:=.seq yl1 .ret) (by kernel_rfl) (by kernel_rfl) (by kernel_rfl) (by kernel_rfl) (by kernel_rfl) ⟨[[0]],[],by kernel_rfl⟩ (by kernel_rfl) (by kernel_rfl) (by kernel_rfl) ⟨[[2]],[],by kernel_rfl⟩ ⟨[[2]],[],by kernel_rfl⟩ (by kernel_rfl) (by kernel_rfl) a0
  (zgm (cx:=ycr) (by rw [e];exact ⟨by simpa using hl,rfl⟩))
def yk4 (n:Nat):Con Go.Proofs.Tryz.prog Ty_ where
 f:=19
 X:=(List Xb)
 Y:=(List Xb)
 A:=[.im 2]
 H:=[]
 N:=[100000]
 encA:=λx=>[.im 2 x]
 encH:=λ_=>[]
 G:=λx=>y65 n x
 encR:=λ_=>.sw 100000 []
 encO:=λy=>[(100000,.typ false 2 y)]
 strong:=true
 ok:=λx y h=>⟨λ_=>ztr n x y h,z1p.toG (ztr n x y h)⟩
def yco:Code:=(Go.Proofs.Tryz.f20.body).getD .skip
def yl2:IC:=match z4v Go.Proofs.Tryz.prog 8 (lf (rt (rt yco))) [[2]] with | some (c,_)=>c | none=>.skip
abbrev ycs:Cx Go.Proofs.Tryz.prog Ty_:=⟨[],[(5,false,3)],[],[]⟩
def y66 (_:Nat)(a0:List Xc):Option (List Xc):=need (a0.length * 32<=140737488355328) (some a0)
theorem zts (n:Nat)(a0:List Xc)(r:List Xc)(hg:y66 n a0=some r):z1p Go.Proofs.Tryz.prog 20 [.im 5 (a0.map (c3 false))] [] (.sl 100000 [] 0 (r.map (c3 false)).length) [(100000,⟨5,r.map (c3 false)⟩)]:=by
 obtain ⟨hl,hr⟩:=z9a hg;obtain rfl:=Option.some.inj hr;rw [length_map];have e:evC (L:=EH Ty_) ycs yl2 .no [(0,.im 3 a0)] [] zct=Raw.need ((([]:List Xc).length+a0.length) * 32<=140737488355328) (.leaf ([(2,.sw 100000 [])],[(100000,.typ false 3 (([]:List Xc)++a0))])):=by kernel_rfl
 exact zdq (T:=Ty_) (ty:=3) (fn:=Go.Proofs.Tryz.f20) (b:=yco) (t:=24) (el:=48) (c3:=.seq yl2 .ret) (by kernel_rfl) (by kernel_rfl) (by kernel_rfl) (by kernel_rfl) (by kernel_rfl) ⟨[[0]],[],by kernel_rfl⟩ (by kernel_rfl) (by kernel_rfl) (by kernel_rfl) ⟨[[2]],[],by kernel_rfl⟩ ⟨[[2]],[],by kernel_rfl⟩ (by kernel_rfl) (by kernel_rfl) a0
  (zgm (cx:=ycs) (by rw [e];exact ⟨by simpa using hl,rfl⟩))
def yk5 (n:Nat):Con Go.Proofs.Tryz.prog Ty_ where
 f:=20
 X:=(List Xc)
 Y:=(List Xc)
 A:=[.im 3]
 H:=[]
 N:=[100000]
 encA:=λx=>[.im 3 x]
 encH:=λ_=>[]
 G:=λx=>y66 n x
 encR:=λ_=>.sw 100000 []
 encO:=λy=>[(100000,.typ false 3 y)]
 strong:=true
 ok:=λx y h=>⟨λ_=>zts n x y h,z1p.toG (zts n x y h)⟩
def y01 (n:Nat):Cx P_ Ty_:=⟨[k11 n],[(9,false,5)],[],[]⟩
abbrev y02:List (List Nat):=[[1],[1,3],[3,11,12,13],[3,11,12,13,14],[3,5,11,12,13],[3,5,11,12,13,19],[3,5,11,12,13,24],[2],[3,11,12,13],[3,11,12,13],[2]]
def zu2 (n:Nat)(x:Xe)(v1:Unit)(q1:Yac):Pt P_ Ty_ [] (Bo (Yac) (Yac) Unit):=.ite (decide (q1.1<(x.d_.length:Int))) (.bnd (idx x.d_ q1.1) λy1=>.call (k11 n) y1 λ(y2:Bool)=>.ite (!y2) (.leaf (.go ((i64.wrap (q1.1+(1:Int))),q1.2))) (.need (0<=y1.D_/\y1.D_<(q1.2.length:Int)) (.bnd (q1.2[y1.D_.toNat]?) λy3=>.ite y3 (.leaf (.ret ())) (.need (0<=y1.D_/\y1.D_<(q1.2.length:Int)) (.bnd (q1.2[y1.D_.toNat]?) λy4=>.leaf (.go ((i64.wrap (q1.1+(1:Int))),(q1.2.set y1.D_.toNat true)))))))) (.leaf (.out (q1.1,q1.2)))
def zu1 (n:Nat)(x:Xe)(v1:Unit):z16 P_ Ty_ []:=z1f (X:=Yac) (Y:=Yac) (Z:=Unit) (y01 n) (z18 [1,1,0,1,0,0] (fnC P_ 21 y02)) (λq1=>.no) 0 true ⟨[(3,.ref 9),(11,.im 4),(12,.any),(13,.any)],[(9,.any)]⟩ ⟨[(3,.ref 9),(11,.im 4),(12,.any),(13,.any),(14,.any)],[(9,.any)]⟩ ⟨[(2,.any)],[]⟩ (λq1=>([(3,.sw 9 []),(11,.im 4 x.d_),(12,I_ (x.d_.length:Int)),(13,I_ q1.1)],[(9,.typ false 5 q1.2)])) (λp=>([(3,.sw 9 []),(11,.im 4 x.d_),(12,I_ (x.d_.length:Int)),(13,I_ p.1),(14,B_ false)],[(9,.typ false 5 p.2)])) (λp=>([(2,B_ false)],[])) n (zu2 n x v1)
def y03 (n:Nat)(x:Xe):Pt P_ Ty_ [] Bool:=.need (0<=(x.c_.length:Int)/\(x.c_.length:Int) * (1:Nat)<=140737488355328) (.loopR (V:=Unit) (zu1 n x) () ((0:Int),(replicate (x.c_.length:Int).toNat false)) (λ(v1:Unit) (y5:Yac)=>.leaf true) λ(v1:Unit) (z1:Unit)=>.leaf false)
def yk7 (n:Nat):Con P_ Ty_:=zg (X:=Xe) (R:=Bool) (pro:=[]) (y01 n) 21 y02 (λx=>.two .no (.two .no (.two (.two .no (.two (.loop Unit (zu1 n x) true ⟨[(3,.ref 9),(11,.im 4),(12,.any),(13,.any)],[(9,.any)]⟩) .no)) .no))) [.ag [.im 1,.im 2,.im 3,.im 4]] [] [] ⟨[(2,.any)],[]⟩ [] true (λx=>[.ag [.im 1 x.g_,.im 2 x.c_,.im 3 x.e_,.im 4 x.d_]]) (λx=>[]) (λy=>([(2,B_ y)],[])) (λy=>B_ y) (λy=>[]) (y03 n)
def ycp:Code:=(Go.Proofs.Tryz.f22.body).getD .skip
def yl3:IC:=match z4v Go.Proofs.Tryz.prog 8 (lf (rt (rt ycp))) [[2]] with | some (c,_)=>c | none=>.skip
abbrev yct:Cx Go.Proofs.Tryz.prog Ty_:=⟨[],[(5,false,4)],[],[]⟩
def y67 (_:Nat)(a0:List Xd):Option (List Xd):=need (a0.length * 56<=140737488355328) (some a0)
theorem ztt (n:Nat)(a0:List Xd)(r:List Xd)(hg:y67 n a0=some r):z1p Go.Proofs.Tryz.prog 22 [.im 7 (a0.map (c4 false))] [] (.sl 100000 [] 0 (r.map (c4 false)).length) [(100000,⟨7,r.map (c4 false)⟩)]:=by
 obtain ⟨hl,hr⟩:=z9a hg;obtain rfl:=Option.some.inj hr;rw [length_map];have e:evC (L:=EH Ty_) yct yl3 .no [(0,.im 4 a0)] [] zct=Raw.need ((([]:List Xd).length+a0.length) * 56<=140737488355328) (.leaf ([(2,.sw 100000 [])],[(100000,.typ false 4 (([]:List Xd)++a0))])):=by kernel_rfl
 exact zdq (T:=Ty_) (ty:=4) (fn:=Go.Proofs.Tryz.f22) (b:=ycp) (t:=25) (el:=44) (c3:=.seq yl3 .ret) (by kernel_rfl) (by kernel_rfl) (by kernel_rfl) (by kernel_rfl) (by kernel_rfl) ⟨[[0]],[],by kernel_rfl⟩ (by kernel_rfl) (by kernel_rfl) (by kernel_rfl) ⟨[[2]],[],by kernel_rfl⟩ ⟨[[2]],[],by kernel_rfl⟩ (by kernel_rfl) (by kernel_rfl) a0
  (zgm (cx:=yct) (by rw [e];exact ⟨by simpa using hl,rfl⟩))
def yk6 (n:Nat):Con Go.Proofs.Tryz.prog Ty_ where
 f:=22
 X:=(List Xd)
 Y:=(List Xd)
 A:=[.im 4]
 H:=[]
 N:=[100000]
 encA:=λx=>[.im 4 x]
 encH:=λ_=>[]
 G:=λx=>y67 n x
 encR:=λ_=>.sw 100000 []
 encO:=λy=>[(100000,.typ false 4 y)]
 strong:=true
 ok:=λx y h=>⟨λ_=>ztt n x y h,z1p.toG (ztt n x y h)⟩
def y04 (n:Nat):Cx P_ Ty_:=⟨[k9 n],[],[],[]⟩
abbrev y05:List (List Nat):=[[0,3,4],[0,3,4,9,10],[0,3,4,9,10,11],[0,3,4,5,9,10],[0,3,4,6,9,10],[0,3,4,9,10],[0,3,4,9,10],[4]]
def zu4 (n:Nat)(x:Ybh)(v1:Int)(q1:Yat):Pt P_ Ty_ [200000] (Bo (Yat) (Yat) Empty):=.ite (decide (q1.1<v1)) (.bnd (idx [2,3,4] q1.1) λy2=>.bnd (z3k [some q1.2.1,some q1.2.2.1,some q1.p3,some q1.p4,some q1.p5,some q1.q6,none] y2) λy3=>.need (0<=y3/\y3<(x.2.1.length:Int)) (.bnd (x.2.1[y3.toNat]?) λy4=>.bnd (z3k [some q1.2.1,some q1.2.2.1,some q1.p3,some q1.p4,some q1.p5,some q1.q6,none] y2) λy5=>.leaf (.go ((i64.wrap (q1.1+(1:Int))),(bif Nat.beq y2 0 then y4 else q1.2.1),(bif Nat.beq y2 1 then y4 else q1.2.2.1),(bif Nat.beq y2 2 then y4 else q1.p3),(bif Nat.beq y2 3 then y4 else q1.p4),(bif Nat.beq y2 4 then y4 else q1.p5),(bif Nat.beq y2 5 then y4 else q1.q6))))) (.leaf (.out (q1.1,q1.2.1,q1.2.2.1,q1.p3,q1.p4,q1.p5,q1.q6)))
def zu3 (n:Nat)(x:Ybh)(v1:Int):z16 P_ Ty_ [200000]:=z1f (X:=Yat) (Y:=Yat) (Z:=Empty) (y04 n) (z18 [1,0,1,0,0] (fnC P_ 23 y05)) (λq1=>.no) 0 false ⟨[(0,.ref 200000),(3,.ref 3),(4,.ref 4),(9,.any),(10,.any)],[(200000,.any),(3,.any),(4,.any)]⟩ ⟨[(0,.ref 200000),(3,.ref 3),(4,.ref 4),(9,.any),(10,.any),(11,.any)],[(200000,.any),(3,.any),(4,.any)]⟩ ⟨[],[]⟩ (λq1=>([(0,.pt 200000 [] 0 0),(3,.pt 3 [] 0 0),(4,.pt 4 [] 0 0),(9,I_ v1),(10,I_ q1.1)],[(200000,.lit 2 [[.ow true 9 x.1,.ow false 6 x.2.1]]),(3,.lit 7 [[I_ q1.2.1,I_ q1.2.2.1,I_ q1.p3,I_ q1.p4,I_ q1.p5,I_ q1.q6,.sc (.int .u32 x.2.2.m_)]]),(4,.lit 7 [[I_ (0:Int),I_ (0:Int),I_ (0:Int),I_ (0:Int),I_ (0:Int),I_ (0:Int),.sc (.int .u32 (0:Int))]])])) (λp=>([(0,.pt 200000 [] 0 0),(3,.pt 3 [] 0 0),(4,.pt 4 [] 0 0),(9,I_ v1),(10,I_ p.1),(11,B_ false)],[(200000,.lit 2 [[.ow true 9 x.1,.ow false 6 x.2.1]]),(3,.lit 7 [[I_ p.2.1,I_ p.2.2.1,I_ p.p3,I_ p.p4,I_ p.p5,I_ p.q6,.sc (.int .u32 x.2.2.m_)]]),(4,.lit 7 [[I_ (0:Int),I_ (0:Int),I_ (0:Int),I_ (0:Int),I_ (0:Int),I_ (0:Int),.sc (.int .u32 (0:Int))]])])) (λp=>nomatch p) n (zu4 n x v1)
def y06 (n:Nat)(x:Ybh):Pt P_ Ty_ [200000] (Ybq):=.call (k9 n) x.2.2 λ(y1:(List Int))=>.loop (V:=Int) (zu3 n x) (y1.length:Int) ((0:Int),x.2.2.a_,x.2.2.D_,x.2.2.A_,x.2.2.B_,x.2.2.C_,x.2.2.N_) λ(v1:Int) (y6:Yat)=>.leaf (x.1,x.2.1,y6.2.1,y6.2.2.1,y6.p3,y6.p4,y6.p5,y6.q6,x.2.2.m_)
def yk8 (n:Nat):Con P_ Ty_:=zg (X:=Ybh) (R:=Ybq) (pro:=[200000]) (y04 n) 23 y05 (λx=>.two .no (.two (.two .no (.two (.loop Int (zu3 n x) false ⟨[(0,.ref 200000),(3,.ref 3),(4,.ref 4),(9,.any),(10,.any)],[(200000,.any),(3,.any),(4,.any)]⟩) .no)) .no)) [.pt 200000,.ag [.any,.any,.any,.any,.any,.any,.any]] [(200000,[.ow true 9,.ow false 6])] [] ⟨[(4,.ref 100000)],[(200000,.any),(100000,.any)]⟩ [200000] true (λx=>[.pt 200000 [] 0 0,.ag [I_ x.2.2.a_,I_ x.2.2.D_,I_ x.2.2.A_,I_ x.2.2.B_,I_ x.2.2.C_,I_ x.2.2.N_,.sc (.int .u32 x.2.2.m_)]]) (λx=>[(200000,.lit 2 [[.ow true 9 x.1,.ow false 6 x.2.1]])]) (λy=>([(4,.pt 100000 [] 0 0)],[(200000,.lit 2 [[.ow true 9 y.1,.ow false 6 y.2.1]]),(100000,.lit 7 [[I_ y.2.2.1,I_ y.p3,I_ y.p4,I_ y.p5,I_ y.p6,I_ y.p7,.sc (.int .u32 y.q8)]])])) (λy=>.ag [I_ y.2.2.1,I_ y.p3,I_ y.p4,I_ y.p5,I_ y.p6,I_ y.p7,.sc (.int .u32 y.q8)]) (λy=>[(200000,.lit 2 [[.ow true 9 y.1,.ow false 6 y.2.1]])]) (y06 n)
def y07 (n:Nat):Cx P_ Ty_:=⟨[],[],[],[]⟩
abbrev y08:List (List Nat):=[[0,3],[3,13,14,15],[3,13,14,15,16],[3,7,13,14,15],[3,8,9,13,14,15],[3,8,13,14,15,25],[4,5],[3,13,14,15],[4,5]]
def zu6 (n:Nat)(x:Ybi)(v1:Unit)(q1:Int):Pt P_ Ty_ [200000] (Bo Int Int Int):=.ite (decide (q1<(x.1.length:Int))) (.need (0<=q1/\q1<(x.1.length:Int)) (.bnd (x.1[q1.toNat]?) λy1=>.bnd (x.1[q1.toNat]?) λy2=>.ite (List.any y2 (kf8 [(.int .i64 x.2.2.i_.a_),(.int .i64 x.2.2.i_.D_),(.int .i64 x.2.2.i_.A_),(.int .i64 x.2.2.i_.B_),(.int .i64 x.2.2.i_.C_),(.int .i64 x.2.2.i_.N_),(.int .u32 x.2.2.i_.m_),(.int .i64 x.2.2.t_.j_),(.int .i64 x.2.2.t_.o_)])) (.leaf (.ret (((List.find? (kf8 [(.int .i64 x.2.2.i_.a_),(.int .i64 x.2.2.i_.D_),(.int .i64 x.2.2.i_.A_),(.int .i64 x.2.2.i_.B_),(.int .i64 x.2.2.i_.C_),(.int .i64 x.2.2.i_.N_),(.int .u32 x.2.2.i_.m_),(.int .i64 x.2.2.t_.j_),(.int .i64 x.2.2.t_.o_)]) y2).getD (⟨x.2.2,(0:Int)⟩:Xg)).v_))) (.leaf (.go (i64.wrap (q1+(1:Int))))))) (.leaf (.out q1))
def zu5 (n:Nat)(x:Ybi)(v1:Unit):z16 P_ Ty_ [200000]:=z1f (X:=Int) (Y:=Int) (Z:=Int) (y07 n) (z18 [1,0,1,0,0] (fnC P_ 25 y08)) (λq1=>.no) 0 true ⟨[(3,.ref 3),(13,.ref 200000),(14,.any),(15,.any)],[(200000,.any),(3,.any)]⟩ ⟨[(3,.ref 3),(13,.ref 200000),(14,.any),(15,.any),(16,.any)],[(200000,.any),(3,.any)]⟩ ⟨[(4,.any),(5,.any)],[(200000,.any)]⟩ (λq1=>([(3,.pt 3 [] 0 0),(13,.sw 200000 [(0,0)]),(14,I_ (x.1.length:Int)),(15,I_ q1)],[(200000,.lit 2 [[.ow true 9 x.1,.ow false 6 x.2.1]]),(3,.lit 9 [[I_ x.2.2.i_.a_,I_ x.2.2.i_.D_,I_ x.2.2.i_.A_,I_ x.2.2.i_.B_,I_ x.2.2.i_.C_,I_ x.2.2.i_.N_,.sc (.int .u32 x.2.2.i_.m_),I_ x.2.2.t_.j_,I_ x.2.2.t_.o_]])])) (λp=>([(3,.pt 3 [] 0 0),(13,.sw 200000 [(0,0)]),(14,I_ (x.1.length:Int)),(15,I_ p),(16,B_ false)],[(200000,.lit 2 [[.ow true 9 x.1,.ow false 6 x.2.1]]),(3,.lit 9 [[I_ x.2.2.i_.a_,I_ x.2.2.i_.D_,I_ x.2.2.i_.A_,I_ x.2.2.i_.B_,I_ x.2.2.i_.C_,I_ x.2.2.i_.N_,.sc (.int .u32 x.2.2.i_.m_),I_ x.2.2.t_.j_,I_ x.2.2.t_.o_]])])) (λp=>([(4,I_ p),(5,B_ true)],[(200000,.lit 2 [[.ow true 9 x.1,.ow false 6 x.2.1]])])) n (zu6 n x v1)
def y09 (n:Nat)(x:Ybi):Pt P_ Ty_ [200000] (Yck):=.loopR (V:=Unit) (zu5 n x) () (0:Int) (λ(v1:Unit) (y3:Int)=>.leaf ((0:Int),false,x.1,x.2.1)) λ(v1:Unit) (z1:Int)=>.leaf (z1,true,x.1,x.2.1)
def yk9 (n:Nat):Con P_ Ty_:=zg (X:=Ybi) (R:=Yck) (pro:=[200000]) (y07 n) 25 y08 (λx=>.two .no (.two (.two .no (.two (.loop Unit (zu5 n x) true ⟨[(3,.ref 3),(13,.ref 200000),(14,.any),(15,.any)],[(200000,.any),(3,.any)]⟩) .no)) .no)) [.pt 200000,.ag [.any,.any,.any,.any,.any,.any,.any,.any,.any]] [(200000,[.ow true 9,.ow false 6])] [] ⟨[(4,.any),(5,.any)],[(200000,.any)]⟩ [200000] true (λx=>[.pt 200000 [] 0 0,.ag [I_ x.2.2.i_.a_,I_ x.2.2.i_.D_,I_ x.2.2.i_.A_,I_ x.2.2.i_.B_,I_ x.2.2.i_.C_,I_ x.2.2.i_.N_,.sc (.int .u32 x.2.2.i_.m_),I_ x.2.2.t_.j_,I_ x.2.2.t_.o_]]) (λx=>[(200000,.lit 2 [[.ow true 9 x.1,.ow false 6 x.2.1]])]) (λy=>([(4,I_ y.1),(5,B_ y.2.1)],[(200000,.lit 2 [[.ow true 9 y.2.2.1,.ow false 6 y.q3]])])) (λy=>.tu [I_ y.1,B_ y.2.1]) (λy=>[(200000,.lit 2 [[.ow true 9 y.2.2.1,.ow false 6 y.q3]])]) (y09 n)
def zpc (n:Nat):Cx P_ Ty_:=⟨[k16 n,yk3 n,yk4 n,yk5 n,yk7 n,yk6 n,yk8 n,k11 n,yk9 n],[(40,false,8),(41,true,9),(45,false,6),(83,false,8),(84,true,9),(190,false,4),(191,false,4)],[],[]⟩
abbrev zpd:List (List Nat):=[[1,2],[1,2,4],[1,2,20],[2,3],[1,2,6],[1,2,6,34],[2,6],[2,3],[1,2,6,7],[1,2,6,7,52,53],[1,2,6,7,52,53,54],[1,2,6,7,8,52,53],[1,2,6,7,52,53],[1,2,6,7,52,53],[1,2,6,7,65,66,67],[1,2,6,7,65,66,67,68],[1,2,6,7,10,65,66,67],[1,2,6,7,10,65,66,67],[1,2,6,7,10,65,66,67,74],[1,2,6,7,10,65,66,67],[1,2,6,7,10,65,66,67,88],[1,2,6,7,10,65,66,67],[1,2,6,7,10,65,66,67,106],[1,2,6,7,65,66,67],[1,2,6,7,10,65,66,67,134],[1,2,6,7,10,11,65,66,67],[1,2,6,7,10,11,65,66,67],[1,2,6,7,10,11,12,13,65,66,67],[1,2,6,7,10,11,12,65,66,67,163],[1,2,6,7,65,66,67],[1,2,6,7,10,65,66,67],[1,2,6,7,65,66,67],[1,2,6,7,65,66,67],[2,3]]
def ztw (x:Xe)(v2:Yak)(q2:Yap)(p:Ybv):EH Ty_:=([(1,.pt 1 [] 0 0),(2,.pt 2 [] 0 0),(6,.pt 6 [] 0 0),(7,.pt 47 [] 0 0),(10,.pt 10 [] 0 0),(65,.im 4 x.d_),(66,I_ (x.d_.length:Int)),(67,I_ q2.1),(106,B_ p.1)],[(1,.lit 4 [[.im 1 x.g_,.im 2 x.c_,.im 3 x.e_,.im 4 x.d_]]),(2,.lit 4 [[.zs,.zs,.zs,.zs]]),(6,.lit 4 [[.ow false 1 v2.1,.ow false 2 v2.2.1,.ow false 3 v2.2.2,.ow false 4 q2.2.1]]),(47,.lit 2 [[.ow true 9 p.2.1,.ow false 6 p.2.2.1]]),(10,.lit 7 [[I_ p.p3,I_ p.p4,I_ p.p5,I_ p.p6,I_ p.p7,I_ p.p8,.sc (.int .u32 p.q9)]])])
def ztx (x:Xe)(v2:Yak)(q2:Yap)(p:Ybv):EH Ty_:=([(1,.pt 1 [] 0 0),(2,.pt 2 [] 0 0),(6,.pt 6 [] 0 0),(7,.pt 47 [] 0 0),(10,.pt 10 [] 0 0),(65,.im 4 x.d_),(66,I_ (x.d_.length:Int)),(67,I_ q2.1),(134,B_ p.1)],[(1,.lit 4 [[.im 1 x.g_,.im 2 x.c_,.im 3 x.e_,.im 4 x.d_]]),(2,.lit 4 [[.zs,.zs,.zs,.zs]]),(6,.lit 4 [[.ow false 1 v2.1,.ow false 2 v2.2.1,.ow false 3 v2.2.2,.ow false 4 q2.2.1]]),(47,.lit 2 [[.ow true 9 p.2.1,.ow false 6 p.2.2.1]]),(10,.lit 7 [[I_ p.p3,I_ p.p4,I_ p.p5,I_ p.p6,I_ p.p7,I_ p.p8,.sc (.int .u32 p.q9)]])])
def zty (x:Xe)(v2:Yak)(q2:Yap)(p:Ybq):EH Ty_:=([(1,.pt 1 [] 0 0),(2,.pt 2 [] 0 0),(6,.pt 6 [] 0 0),(7,.pt 47 [] 0 0),(10,.pt 10 [] 0 0),(65,.im 4 x.d_),(66,I_ (x.d_.length:Int)),(67,I_ q2.1)],[(1,.lit 4 [[.im 1 x.g_,.im 2 x.c_,.im 3 x.e_,.im 4 x.d_]]),(2,.lit 4 [[.zs,.zs,.zs,.zs]]),(6,.lit 4 [[.ow false 1 v2.1,.ow false 2 v2.2.1,.ow false 3 v2.2.2,.ow false 4 q2.2.1]]),(47,.lit 2 [[.ow true 9 p.1,.ow false 6 p.2.1]]),(10,.lit 7 [[I_ p.2.2.1,I_ p.p3,I_ p.p4,I_ p.p5,I_ p.p6,I_ p.p7,.sc (.int .u32 p.q8)]])])
def ztz (n:Nat)(x:Xe)(v1:Yak)(q1:Yab):Pt P_ Ty_ [] (Bo (Yab) (Yab) Empty):=.ite (decide (q1.1<((replicate (x.c_.length:Int).toNat (0:Int)).length:Int))) (.need (0<=q1.1/\q1.1<(q1.2.length:Int)) (.bnd (q1.2[q1.1.toNat]?) λy7=>.leaf (.go ((i64.wrap (q1.1+(1:Int))),(q1.2.set q1.1.toNat q1.1))))) (.leaf (.out (q1.1,q1.2)))
def ztu (n:Nat)(x:Xe)(v1:Yak):z16 P_ Ty_ []:=z1f (X:=Yab) (Y:=Yab) (Z:=Empty) (zpc n) (z18 [1,1,1,1,1,0,1,0,0] (fnC P_ 8 zpd)) (λq1=>.no) 0 false ⟨[(1,.ref 1),(2,.ref 2),(6,.ref 6),(7,.ref 47),(52,.any),(53,.any)],[(1,.any),(2,.any),(6,.any),(47,.any)]⟩ ⟨[(1,.ref 1),(2,.ref 2),(6,.ref 6),(7,.ref 47),(52,.any),(53,.any),(54,.any)],[(1,.any),(2,.any),(6,.any),(47,.any)]⟩ ⟨[],[]⟩ (λq1=>([(1,.pt 1 [] 0 0),(2,.pt 2 [] 0 0),(6,.pt 6 [] 0 0),(7,.pt 47 [] 0 0),(52,I_ ((replicate (x.c_.length:Int).toNat (0:Int)).length:Int)),(53,I_ q1.1)],[(1,.lit 4 [[.im 1 x.g_,.im 2 x.c_,.im 3 x.e_,.im 4 x.d_]]),(2,.lit 4 [[.zs,.zs,.zs,.zs]]),(6,.lit 4 [[.ow false 1 v1.1,.ow false 2 v1.2.1,.ow false 3 v1.2.2,.zs]]),(47,.lit 2 [[.ow true 9 ([([]:List Xg)]:List (List Xg)),.ow false 6 q1.2]])])) (λp=>([(1,.pt 1 [] 0 0),(2,.pt 2 [] 0 0),(6,.pt 6 [] 0 0),(7,.pt 47 [] 0 0),(52,I_ ((replicate (x.c_.length:Int).toNat (0:Int)).length:Int)),(53,I_ p.1),(54,B_ false)],[(1,.lit 4 [[.im 1 x.g_,.im 2 x.c_,.im 3 x.e_,.im 4 x.d_]]),(2,.lit 4 [[.zs,.zs,.zs,.zs]]),(6,.lit 4 [[.ow false 1 v1.1,.ow false 2 v1.2.1,.ow false 3 v1.2.2,.zs]]),(47,.lit 2 [[.ow true 9 ([([]:List Xg)]:List (List Xg)),.ow false 6 p.2]])])) (λp=>nomatch p) n (ztz n x v1)
def zu0 (n:Nat)(x:Xe)(v2:Yak)(q2:Yap):Pt P_ Ty_ [] (Bo (Yap) (Yap) Empty):=.ite (decide (q2.1<(x.d_.length:Int))) (.bnd (idx x.d_ q2.1) λy9=>.call (yk8 n) (q2.2.2.1,q2.q3,y9) λ(y10:Ybq)=>.join (S:=Ybq) (zty x v2 q2) (.ite (y10.2.2.1==34) (.need ((y10.1.length+([([]:List Xg)]:List (List Xg)).length) * 8<=140737488355328) (.leaf (.inl ((y10.1++([([]:List Xg)]:List (List Xg))),y10.2.1,y10.2.2.1,y10.p3,y10.p4,y10.p5,y10.p6,y10.p7,y10.q8)))) (.ite (y10.2.2.1==35) (.need (0<=(i64.wrap ((y10.1.length:Int) - (1:Int)))/\(i64.wrap ((y10.1.length:Int) - (1:Int)))<=(y10.1.length:Int)) (.need ((i64.wrap ((y10.1.length:Int) - (1:Int))).toNat<=y10.1.length) (.leaf (.inl ((y10.1.take ((i64.wrap ((y10.1.length:Int) - (1:Int))).toNat)),y10.2.1,y10.2.2.1,y10.p3,y10.p4,y10.p5,y10.p6,y10.p7,y10.q8))))) (.join (S:=Ybv) (ztw x v2 q2) (.ite (y10.2.2.1==3) (.bnd (idx x.c_ y10.p4) λy11=>.bnd (idx x.c_ y10.p3) λy12=>.leaf (.inl ((y11.j_==y12.j_&&(y11.o_==y12.o_&&true)),y10.1,y10.2.1,y10.2.2.1,y10.p3,y10.p4,y10.p5,y10.p6,y10.p7,y10.q8))) (.leaf (.inl (false,y10.1,y10.2.1,y10.2.2.1,y10.p3,y10.p4,y10.p5,y10.p6,y10.p7,y10.q8)))) λs1=>.ite s1.1 (.need (0<=s1.p4/\s1.p4<(s1.2.2.1.length:Int)) (.bnd (s1.2.2.1[s1.p4.toNat]?) λy13=>.leaf (.inr (.go ((i64.wrap (q2.1+(1:Int))),q2.2.1,s1.2.1,(s1.2.2.1.set s1.p4.toNat s1.p5)))))) (.join (S:=Ybv) (ztx x v2 q2) (.call (k11 n) (⟨s1.p3,s1.p4,s1.p5,s1.p6,s1.p7,s1.p8,s1.q9⟩:Xd) λ(y14:Bool)=>.ite y14 (.ite (s1.p3 != (32:Int)) (.leaf (.inl ((s1.p3 != (3:Int)),s1.2.1,s1.2.2.1,s1.p3,s1.p4,s1.p5,s1.p6,s1.p7,s1.p8,s1.q9))) (.leaf (.inl (false,s1.2.1,s1.2.2.1,s1.p3,s1.p4,s1.p5,s1.p6,s1.p7,s1.p8,s1.q9)))) (.leaf (.inl (false,s1.2.1,s1.2.2.1,s1.p3,s1.p4,s1.p5,s1.p6,s1.p7,s1.p8,s1.q9)))) λs2=>.ite s2.1 (.bnd (idx x.c_ s2.p4) λy15=>.call (yk9 n) (s2.2.1,s2.2.2.1,(⟨(⟨s2.p3,(0:Int),s2.p5,s2.p6,s2.p7,s2.p8,s2.q9⟩:Xd),y15⟩:Xf)) λ(y16:Yck)=>.ite y16.2.1 (.need (0<=s2.p4/\s2.p4<(y16.q3.length:Int)) (.bnd (y16.q3[s2.p4.toNat]?) λy17=>.leaf (.inr (.go ((i64.wrap (q2.1+(1:Int))),q2.2.1,y16.2.2.1,(y16.q3.set s2.p4.toNat y16.1)))))) (.need (0<=(i64.wrap ((y16.2.2.1.length:Int) - (1:Int)))/\(i64.wrap ((y16.2.2.1.length:Int) - (1:Int)))<(y16.2.2.1.length:Int)) (.bnd (y16.2.2.1[(i64.wrap ((y16.2.2.1.length:Int) - (1:Int))).toNat]?) λy18=>.bnd (y16.2.2.1[(i64.wrap ((y16.2.2.1.length:Int) - (1:Int))).toNat]?) λy19=>.leaf (.inl ((y16.2.2.1.set ((i64.wrap ((y16.2.2.1.length:Int) - (1:Int))).toNat) (z9m (kf8 [(.int .i64 s2.p3),(.int .i64 (0:Int)),(.int .i64 s2.p5),(.int .i64 s2.p6),(.int .i64 s2.p7),(.int .i64 s2.p8),(.int .u32 s2.q9),(.int .i64 y15.j_),(.int .i64 y15.o_)]) (⟨(⟨(⟨s2.p3,(0:Int),s2.p5,s2.p6,s2.p7,s2.p8,s2.q9⟩:Xd),y15⟩:Xf),s2.p4⟩:Xg) y19)),y16.q3,s2.p3,s2.p4,s2.p5,s2.p6,s2.p7,s2.p8,s2.q9))))) (.leaf (.inl (s2.2.1,s2.2.2.1,s2.p3,s2.p4,s2.p5,s2.p6,s2.p7,s2.p8,s2.q9))))))) λs3=>.need ((q2.2.1.length+([(⟨s3.2.2.1,s3.p3,s3.p4,s3.p5,s3.p6,s3.p7,s3.q8⟩:Xd)]:List Xd).length) * 56<=140737488355328) (.leaf (.go ((i64.wrap (q2.1+(1:Int))),(q2.2.1++([(⟨s3.2.2.1,s3.p3,s3.p4,s3.p5,s3.p6,s3.p7,s3.q8⟩:Xd)]:List Xd)),s3.1,s3.2.1)))) (.leaf (.out (q2.1,q2.2.1,q2.2.2.1,q2.q3)))
def ztv (n:Nat)(x:Xe)(v2:Yak):z16 P_ Ty_ []:=z1f (X:=Yap) (Y:=Yap) (Z:=Empty) (zpc n) (z18 [1,1,1,1,1,1,0,1,0,0] (fnC P_ 8 zpd)) (λq2=>.two .no (.two .no (.two (.two (.two .no (.two .no (.join (Ybq) (zty x v2 q2) ⟨[(1,.ref 1),(2,.ref 2),(6,.ref 6),(7,.ref 47),(10,.ref 10),(65,.im 4),(66,.any),(67,.any)],[(1,.any),(2,.any),(6,.any),(47,.any),(10,.any)]⟩ (.two (.two .no (.two .no (.two .no (.two .no (.join (Ybv) (ztw x v2 q2) ⟨[(1,.ref 1),(2,.ref 2),(6,.ref 6),(7,.ref 47),(10,.ref 10),(65,.im 4),(66,.any),(67,.any),(106,.any)],[(1,.any),(2,.any),(6,.any),(47,.any),(10,.any)]⟩ .no (.two .no (.join (Ybv) (ztx x v2 q2) ⟨[(1,.ref 1),(2,.ref 2),(6,.ref 6),(7,.ref 47),(10,.ref 10),(65,.im 4),(66,.any),(67,.any),(134,.any)],[(1,.any),(2,.any),(6,.any),(47,.any),(10,.any)]⟩ .no .no))))))) .no) .no))) .no) .no))) 2 false ⟨[(1,.ref 1),(2,.ref 2),(6,.ref 6),(7,.ref 47),(65,.im 4),(66,.any),(67,.any)],[(1,.any),(2,.any),(6,.fix [.no,.no,.no,.ow false 4]),(47,.any)]⟩ ⟨[(1,.ref 1),(2,.ref 2),(6,.ref 6),(7,.ref 47),(65,.im 4),(66,.any),(67,.any),(68,.any)],[(1,.any),(2,.any),(6,.any),(47,.any)]⟩ ⟨[],[]⟩ (λq2=>([(1,.pt 1 [] 0 0),(2,.pt 2 [] 0 0),(6,.pt 6 [] 0 0),(7,.pt 47 [] 0 0),(65,.im 4 x.d_),(66,I_ (x.d_.length:Int)),(67,I_ q2.1)],[(1,.lit 4 [[.im 1 x.g_,.im 2 x.c_,.im 3 x.e_,.im 4 x.d_]]),(2,.lit 4 [[.zs,.zs,.zs,.zs]]),(6,.lit 4 [[.ow false 1 v2.1,.ow false 2 v2.2.1,.ow false 3 v2.2.2,.ow false 4 q2.2.1]]),(47,.lit 2 [[.ow true 9 q2.2.2.1,.ow false 6 q2.q3]])])) (λp=>([(1,.pt 1 [] 0 0),(2,.pt 2 [] 0 0),(6,.pt 6 [] 0 0),(7,.pt 47 [] 0 0),(65,.im 4 x.d_),(66,I_ (x.d_.length:Int)),(67,I_ p.1),(68,B_ false)],[(1,.lit 4 [[.im 1 x.g_,.im 2 x.c_,.im 3 x.e_,.im 4 x.d_]]),(2,.lit 4 [[.zs,.zs,.zs,.zs]]),(6,.lit 4 [[.ow false 1 v2.1,.ow false 2 v2.2.1,.ow false 3 v2.2.2,.ow false 4 p.2.1]]),(47,.lit 2 [[.ow true 9 p.2.2.1,.ow false 6 p.q3]])])) (λp=>nomatch p) n (zu0 n x v2)
def y00 (n:Nat)(x:Xe):Pt P_ Ty_ [] (Yad):=.call (k16 n) x λ(y1:Yaa)=>.ite (y1.1 != (0:Int)) (.leaf ((160:Int),([]:List Xa),([]:List Xb),([]:List Xc),([]:List Xd))) (.call (yk3 n) x.g_ λ(y2:(List Xa))=>.call (yk4 n) x.c_ λ(y3:(List Xb))=>.call (yk5 n) x.e_ λ(y4:(List Xc))=>.call (yk7 n) x λ(y5:Bool)=>.ite (!y5) (.call (yk6 n) x.d_ λ(y6:(List Xd))=>.leaf ((0:Int),y2,y3,y4,y6)) (.need (0<=(x.c_.length:Int)/\(x.c_.length:Int) * (8:Nat)<=140737488355328) (.loop (V:=Yak) (ztu n x) (y2,y3,y4) ((0:Int),(replicate (x.c_.length:Int).toNat (0:Int))) λ(v1:Yak) (y8:Yab)=>.loop (V:=Yak) (ztv n x) (v1.1,v1.2.1,v1.2.2) ((0:Int),([]:List Xd),([([]:List Xg)]:List (List Xg)),y8.2) λ(v2:Yak) (y20:Yap)=>.leaf ((0:Int),v2.1,v2.2.1,v2.2.2,y20.2.1))))
def zps (n:Nat):Con P_ Ty_:=zg (X:=Xe) (R:=Yad) (pro:=[]) (zpc n) 8 zpd (λx=>.two .no (.two .no (.two .no (.two .no (.two .no (.two (.two .no (.two (.loop (Yak) (ztu n x) false ⟨[(1,.ref 1),(2,.ref 2),(6,.ref 6),(7,.ref 47),(52,.any),(53,.any)],[(1,.any),(2,.any),(6,.any),(47,.any)]⟩) .no)) (.two (.two .no (.two (.loop (Yak) (ztv n x) false ⟨[(1,.ref 1),(2,.ref 2),(6,.ref 6),(7,.ref 47),(65,.im 4),(66,.any),(67,.any)],[(1,.any),(2,.any),(6,.fix [.no,.no,.no,.ow false 4]),(47,.any)]⟩) .no)) .no))))))) [.ag [.im 1,.im 2,.im 3,.im 4]] [] [100000] ⟨[(2,.ref 100000),(3,.any)],[(100000,.fix [.ow false 1,.ow false 2,.ow false 3,.ow false 4])]⟩ [100000] true (λx=>[.ag [.im 1 x.g_,.im 2 x.c_,.im 3 x.e_,.im 4 x.d_]]) (λx=>[]) (λy=>([(2,.pt 100000 [] 0 0),(3,I_ y.1)],[(100000,.lit 4 [[.ow false 1 y.2.1,.ow false 2 y.2.2.1,.ow false 3 y.p3,.ow false 4 y.q4]])])) (λy=>.tu [.ag [.sw 100000 [(0,0)],.sw 100000 [(0,1)],.sw 100000 [(0,2)],.sw 100000 [(0,3)]],I_ y.1]) (λy=>[(100000,.lit 4 [[.ow false 1 y.2.1,.ow false 2 y.2.2.1,.ow false 3 y.p3,.ow false 4 y.q4]])]) (y00 n)
def y9l (n:Nat):Cx P_ Ty_:=⟨[],[],[],[]⟩
abbrev y9m:List (List Nat):=[[0],[0,11],[2],[0,3],[0,3,15],[0,3,4],[0,3,59],[2],[0,3],[2]]
def y38 (x:ByteArray)(p:Bool):EH Ty_:=([(0,.sc (.string x)),(11,B_ p)],[])
def y39 (x:ByteArray)(v1:Unit)(q1:Int)(p:Bool):EH Ty_:=([(0,.sc (.string x)),(3,I_ q1),(59,B_ p)],[])
def y3a (n:Nat)(x:ByteArray)(v1:Unit)(q1:Int):Pt P_ Ty_ [] (Bo Int Int Unit):=.ite (decide (q1<(x.size:Int))) (.need (0<=q1/\q1<(x.size:Int)) (.join (S:=Bool) (y39 x v1 q1) (.ite (decide ((zc x q1)>=(97:Int))) (.ite (decide ((zc x q1)<=(122:Int))) (.leaf (.inl false)) (.ite (decide ((zc x q1)>=(65:Int))) (.ite (decide ((zc x q1)<=(90:Int))) (.leaf (.inl false)) (.ite (decide ((zc x q1)>=(48:Int))) (.ite (decide ((zc x q1)<=(57:Int))) (.leaf (.inl false)) (.ite ((zc x q1)==95) (.leaf (.inl false)) (.ite ((zc x q1)==46) (.leaf (.inl false)) (.ite ((zc x q1)==47) (.leaf (.inl false)) (.leaf (.inl (!((zc x q1)==45)))))))) (.ite ((zc x q1)==95) (.leaf (.inl false)) (.ite ((zc x q1)==46) (.leaf (.inl false)) (.ite ((zc x q1)==47) (.leaf (.inl false)) (.leaf (.inl (!((zc x q1)==45))))))))) (.ite (decide ((zc x q1)>=(48:Int))) (.ite (decide ((zc x q1)<=(57:Int))) (.leaf (.inl false)) (.ite ((zc x q1)==95) (.leaf (.inl false)) (.ite ((zc x q1)==46) (.leaf (.inl false)) (.ite ((zc x q1)==47) (.leaf (.inl false)) (.leaf (.inl (!((zc x q1)==45)))))))) (.ite ((zc x q1)==95) (.leaf (.inl false)) (.ite ((zc x q1)==46) (.leaf (.inl false)) (.ite ((zc x q1)==47) (.leaf (.inl false)) (.leaf (.inl (!((zc x q1)==45)))))))))) (.ite (decide ((zc x q1)>=(65:Int))) (.ite (decide ((zc x q1)<=(90:Int))) (.leaf (.inl false)) (.ite (decide ((zc x q1)>=(48:Int))) (.ite (decide ((zc x q1)<=(57:Int))) (.leaf (.inl false)) (.ite ((zc x q1)==95) (.leaf (.inl false)) (.ite ((zc x q1)==46) (.leaf (.inl false)) (.ite ((zc x q1)==47) (.leaf (.inl false)) (.leaf (.inl (!((zc x q1)==45)))))))) (.ite ((zc x q1)==95) (.leaf (.inl false)) (.ite ((zc x q1)==46) (.leaf (.inl false)) (.ite ((zc x q1)==47) (.leaf (.inl false)) (.leaf (.inl (!((zc x q1)==45))))))))) (.ite (decide ((zc x q1)>=(48:Int))) (.ite (decide ((zc x q1)<=(57:Int))) (.leaf (.inl false)) (.ite ((zc x q1)==95) (.leaf (.inl false)) (.ite ((zc x q1)==46) (.leaf (.inl false)) (.ite ((zc x q1)==47) (.leaf (.inl false)) (.leaf (.inl (!((zc x q1)==45)))))))) (.ite ((zc x q1)==95) (.leaf (.inl false)) (.ite ((zc x q1)==46) (.leaf (.inl false)) (.ite ((zc x q1)==47) (.leaf (.inl false)) (.leaf (.inl (!((zc x q1)==45)))))))))) λs2=>.ite s2 (.leaf (.ret ())) (.leaf (.go (i64.wrap (q1+(1:Int))))))) (.leaf (.out q1))
def y37 (n:Nat)(x:ByteArray)(v1:Unit):z16 P_ Ty_ []:=z1f (X:=Int) (Y:=Int) (Z:=Unit) (y9l n) (z18 [1,1,0,1,0,0] (fnC P_ 80 y9m)) (λq1=>.two .no (.two (.two (.two .no (.join Bool (y39 x v1 q1) ⟨[(0,.any),(3,.any),(59,.any)],[]⟩ .no .no)) .no) .no)) 0 true ⟨[(0,.any),(3,.any)],[]⟩ ⟨[(0,.any),(3,.any),(15,.any)],[]⟩ ⟨[(2,.any)],[]⟩ (λq1=>([(0,.sc (.string x)),(3,I_ q1)],[])) (λp=>([(0,.sc (.string x)),(3,I_ p),(15,B_ false)],[])) (λp=>([(2,B_ false)],[])) n (y3a n x v1)
def y9n (n:Nat)(x:ByteArray):Pt P_ Ty_ [] Bool:=.join (S:=Bool) (y38 x) (.ite (x==(⟨#[]⟩:ByteArray)) (.leaf (.inl true)) (.leaf (.inl (decide ((x.size:Int) > (64:Int)))))) λs1=>.ite s1 (.leaf false) (.loopR (V:=Unit) (y37 n x) () (0:Int) (λ(v1:Unit) (y1:Int)=>.leaf true) λ(v1:Unit) (z1:Unit)=>.leaf false)
def k63 (n:Nat):Con P_ Ty_:=zg (X:=ByteArray) (R:=Bool) (pro:=[]) (y9l n) 80 y9m (λx=>.two .no (.two (.join Bool (y38 x) ⟨[(0,.any),(11,.any)],[]⟩ .no .no) (.two (.two .no (.two (.loop Unit (y37 n x) true ⟨[(0,.any),(3,.any)],[]⟩) .no)) .no))) [.any] [] [] ⟨[(2,.any)],[]⟩ [] true (λx=>[.sc (.string x)]) (λx=>[]) (λy=>([(2,B_ y)],[])) (λy=>B_ y) (λy=>[]) (y9n n)
def ymx (n:Nat):Cx P_ Ty_:=⟨[k63 n],[],[],[]⟩
abbrev ymy:List (List Nat):=[[1],[2]]
def y97 (n:Nat)(x:Xa):Pt P_ Ty_ [] Bool:=.call (k63 n) x.q_ λ(y1:Bool)=>.ite y1 (.ite (x.j_==1) (.ite (decide (x.r_>=(1:Int))) (.leaf (decide (x.r_<=(4096:Int)))) (.leaf false)) (.ite (x.j_==2) (.ite (decide (x.r_>=(1:Int))) (.leaf (decide (x.r_<=(4096:Int)))) (.leaf false)) (.leaf false))) (.leaf false)
def k55 (n:Nat):Con P_ Ty_:=zg (X:=Xa) (R:=Bool) (pro:=[]) (ymx n) 65 ymy (λx=>.no) [.ag [.any,.any,.any]] [] [] ⟨[(2,.any)],[]⟩ [] true (λx=>[.ag [.sc (.string x.q_),I_ x.j_,I_ x.r_]]) (λx=>[]) (λy=>([(2,B_ y)],[])) (λy=>B_ y) (λy=>[]) (y97 n)
def y98 (n:Nat):Cx P_ Ty_:=⟨[],[],[],[]⟩
abbrev y99:List (List Nat):=[[0,1],[0,1,6],[0,1,6,10],[0,1,6,19],[4,5],[0,1,6],[4,5]]
def y2j (n:Nat)(x:Ybj)(v1:Unit)(q1:Int):Pt P_ Ty_ [] (Bo Int Int Int):=.ite (decide (q1<(x.1.length:Int))) (.bnd (idx x.1 q1) λy1=>.ite (y1.q_==x.2) (.leaf (.ret q1)) (.leaf (.go (i64.wrap (q1+(1:Int)))))) (.leaf (.out q1))
def y2i (n:Nat)(x:Ybj)(v1:Unit):z16 P_ Ty_ []:=z1f (X:=Int) (Y:=Int) (Z:=Int) (y98 n) (z18 [1,0,1,0,0] (fnC P_ 66 y99)) (λq1=>.no) 0 true ⟨[(0,.im 1),(1,.any),(6,.any)],[]⟩ ⟨[(0,.im 1),(1,.any),(6,.any),(10,.any)],[]⟩ ⟨[(4,.any),(5,.any)],[]⟩ (λq1=>([(0,.im 1 x.1),(1,.sc (.string x.2)),(6,I_ q1)],[])) (λp=>([(0,.im 1 x.1),(1,.sc (.string x.2)),(6,I_ p),(10,B_ false)],[])) (λp=>([(4,I_ p),(5,B_ true)],[])) n (y2j n x v1)
def y9a (n:Nat)(x:Ybj):Pt P_ Ty_ [] (Yag):=.loopR (V:=Unit) (y2i n x) () (0:Int) (λ(v1:Unit) (y2:Int)=>.leaf ((0:Int),false)) λ(v1:Unit) (z1:Int)=>.leaf (z1,true)
def k56 (n:Nat):Con P_ Ty_:=zg (X:=Ybj) (R:=Yag) (pro:=[]) (y98 n) 66 y99 (λx=>.two .no (.two (.two .no (.two (.loop Unit (y2i n x) true ⟨[(0,.im 1),(1,.any),(6,.any)],[]⟩) .no)) .no)) [.im 1,.any] [] [] ⟨[(4,.any),(5,.any)],[]⟩ [] true (λx=>[.im 1 x.1,.sc (.string x.2)]) (λx=>[]) (λy=>([(4,I_ y.1),(5,B_ y.2)],[])) (λy=>.tu [I_ y.1,B_ y.2]) (λy=>[]) (y9a n)
def yn7 (n:Nat):Cx P_ Ty_:=⟨[k55 n],[],[],[]⟩
abbrev yn8:List (List Nat):=[[1],[1,3],[2],[1,7],[2],[2]]
def y9o (n:Nat)(x:Xa):Pt P_ Ty_ [] Int:=.call (k55 n) x λ(y1:Bool)=>.ite (!y1) (.leaf (0:Int)) (.ite (x.j_==2) (.leaf (i64.wrap ((2:Int) * x.r_))) (.leaf x.r_))
def k64 (n:Nat):Con P_ Ty_:=zg (X:=Xa) (R:=Int) (pro:=[]) (yn7 n) 81 yn8 (λx=>.no) [.ag [.any,.any,.any]] [] [] ⟨[(2,.any)],[]⟩ [] true (λx=>[.ag [.sc (.string x.q_),I_ x.j_,I_ x.r_]]) (λx=>[]) (λy=>([(2,I_ y)],[])) (λy=>I_ y) (λy=>[]) (y9o n)
def y9b (n:Nat):Cx P_ Ty_:=⟨[k64 n],[],[],[]⟩
abbrev y9c:List (List Nat):=[[0],[0,3],[0,3,4],[0,3,4,8],[0,3,4],[0,3,4],[2]]
def y2l (n:Nat)(x:(List Xa))(v1:Unit)(q1:Yaa):Pt P_ Ty_ [] (Bo (Yaa) (Yaa) Empty):=.ite (decide (q1.2<(x.length:Int))) (.bnd (idx x q1.2) λy1=>.call (k64 n) y1 λ(y2:Int)=>.leaf (.go ((i64.wrap (q1.1+y2)),(i64.wrap (q1.2+(1:Int)))))) (.leaf (.out (q1.1,q1.2)))
def y2k (n:Nat)(x:(List Xa))(v1:Unit):z16 P_ Ty_ []:=z1f (X:=Yaa) (Y:=Yaa) (Z:=Empty) (y9b n) (z18 [1,1,0,1,0,0] (fnC P_ 67 y9c)) (λq1=>.no) 0 false ⟨[(0,.im 1),(3,.any),(4,.any)],[]⟩ ⟨[(0,.im 1),(3,.any),(4,.any),(8,.any)],[]⟩ ⟨[],[]⟩ (λq1=>([(0,.im 1 x),(3,I_ q1.1),(4,I_ q1.2)],[])) (λp=>([(0,.im 1 x),(3,I_ p.1),(4,I_ p.2),(8,B_ false)],[])) (λp=>nomatch p) n (y2l n x v1)
def y9d (n:Nat)(x:(List Xa)):Pt P_ Ty_ [] Int:=.loop (V:=Unit) (y2k n x) () ((0:Int),(0:Int)) λ(v1:Unit) (y3:Yaa)=>.leaf y3.1
def k57 (n:Nat):Con P_ Ty_:=zg (X:=(List Xa)) (R:=Int) (pro:=[]) (y9b n) 67 y9c (λx=>.two .no (.two .no (.two (.two .no (.two (.loop Unit (y2k n x) false ⟨[(0,.im 1),(3,.any),(4,.any)],[]⟩) .no)) .no))) [.im 1] [] [] ⟨[(2,.any)],[]⟩ [] true (λx=>[.im 1 x]) (λx=>[]) (λy=>([(2,I_ y)],[])) (λy=>I_ y) (λy=>[]) (y9d n)
def zwj (n:Nat):Cx P_ Ty_:=⟨[k55 n,k56 n,k57 n],[],[],[]⟩
abbrev zwk:List (List Nat):=[[0],[0,9],[2],[0,3],[0,3,13],[0,3,21],[2],[0,3],[0,4],[0,4,25],[0,4,5],[0,4,40],[2],[0,4],[43],[2],[2]]
def y1u (n:Nat)(x:(List Xa))(v1:Unit)(q1:Int):Pt P_ Ty_ [] (Bo Int Int Unit):=.ite (decide (q1<(x.length:Int))) (.bnd (idx x q1) λy1=>.call (k55 n) y1 λ(y2:Bool)=>.ite (!y2) (.leaf (.ret ())) (.leaf (.go (i64.wrap (q1+(1:Int)))))) (.leaf (.out q1))
def y1s (n:Nat)(x:(List Xa))(v1:Unit):z16 P_ Ty_ []:=z1f (X:=Int) (Y:=Int) (Z:=Unit) (zwj n) (z18 [1,1,0,1,0,0] (fnC P_ 48 zwk)) (λq1=>.no) 0 true ⟨[(0,.im 1),(3,.any)],[]⟩ ⟨[(0,.im 1),(3,.any),(13,.any)],[]⟩ ⟨[(2,.any)],[]⟩ (λq1=>([(0,.im 1 x),(3,I_ q1)],[])) (λp=>([(0,.im 1 x),(3,I_ p),(13,B_ false)],[])) (λp=>([(2,I_ (100:Int))],[])) n (y1u n x v1)
def y1v (n:Nat)(x:(List Xa))(v2:Unit)(q2:Int):Pt P_ Ty_ [] (Bo Int Int Unit):=.ite (decide (q2<(x.length:Int))) (.bnd (idx x q2) λy4=>.call (k56 n) (x,y4.q_) λ(y5:Yag)=>.ite (y5.1 != q2) (.leaf (.ret ())) (.leaf (.go (i64.wrap (q2+(1:Int)))))) (.leaf (.out q2))
def y1t (n:Nat)(x:(List Xa))(v2:Unit):z16 P_ Ty_ []:=z1f (X:=Int) (Y:=Int) (Z:=Unit) (zwj n) (z18 [1,1,1,0,1,0,0] (fnC P_ 48 zwk)) (λq2=>.no) 2 true ⟨[(0,.im 1),(4,.any)],[]⟩ ⟨[(0,.im 1),(4,.any),(25,.any)],[]⟩ ⟨[(2,.any)],[]⟩ (λq2=>([(0,.im 1 x),(4,I_ q2)],[])) (λp=>([(0,.im 1 x),(4,I_ p),(25,B_ false)],[])) (λp=>([(2,I_ (101:Int))],[])) n (y1v n x v2)
def y8n (n:Nat)(x:(List Xa)):Pt P_ Ty_ [] Int:=.ite (decide ((x.length:Int) > (64:Int))) (.leaf (2:Int)) (.loopR (V:=Unit) (y1s n x) () (0:Int) (λ(v1:Unit) (y3:Int)=>.loopR (V:=Unit) (y1t n x) () (0:Int) (λ(v2:Unit) (y6:Int)=>.call (k57 n) x λ(y7:Int)=>.ite (decide (y7 > (65536:Int))) (.leaf (102:Int)) (.leaf (0:Int))) λ(v2:Unit) (z2:Unit)=>.leaf (101:Int)) λ(v1:Unit) (z1:Unit)=>.leaf (100:Int))
def k38 (n:Nat):Con P_ Ty_:=zg (X:=(List Xa)) (R:=Int) (pro:=[]) (zwj n) 48 zwk (λx=>.two .no (.two .no (.two (.two .no (.two (.loop Unit (y1s n x) true ⟨[(0,.im 1),(3,.any)],[]⟩) .no)) (.two (.two .no (.two (.loop Unit (y1t n x) true ⟨[(0,.im 1),(4,.any)],[]⟩) .no)) .no)))) [.im 1] [] [] ⟨[(2,.any)],[]⟩ [] true (λx=>[.im 1 x]) (λx=>[]) (λy=>([(2,I_ y)],[])) (λy=>I_ y) (λy=>[]) (y8n n)
def ymj (n:Nat):Cx P_ Ty_:=⟨[],[],[],[]⟩
abbrev ymk:List (List Nat):=[[1,2],[1,2,7],[4],[4]]
def y8o (n:Nat)(x:Ycl):Pt P_ Ty_ [] Bool:=.ite (x.1.j_==3) (.ite (decide (x.1.o_>=(0:Int))) (.leaf (decide (x.1.o_<(x.2.length:Int)))) (.leaf false)) (.ite (x.1.j_==1) (.leaf (x.1.o_==0)) (.ite (x.1.j_==2) (.leaf (x.1.o_==0)) (.leaf false)))
def k39 (n:Nat):Con P_ Ty_:=zg (X:=Ycl) (R:=Bool) (pro:=[]) (ymj n) 49 ymk (λx=>.no) [.ag [.any,.any],.im 1] [] [] ⟨[(4,.any)],[]⟩ [] true (λx=>[.ag [I_ x.1.j_,I_ x.1.o_],.im 1 x.2]) (λx=>[]) (λy=>([(4,B_ y)],[])) (λy=>B_ y) (λy=>[]) (y8o n)
def ynh (n:Nat):Cx P_ Ty_:=⟨[],[],[],[]⟩
abbrev yni:List (List Nat):=[[0,2],[2,3],[2,3,4],[2,3,4,5],[2,4,5,6],[2,4,5,6,25],[2,4,6],[2,4],[2,4,5,6,34],[2,4],[2,4],[2,4,5],[2,4],[2]]
def y3b (x:Int)(p:Ycu):EH Ty_:=([(2,.pt 2 [] 0 0),(4,.pt 4 [] 0 0)],[(2,.lit 5 [[B_ false,.sc (.int .u64 (0:Int)),I_ (0:Int),B_ false,B_ false]]),(4,.lit 5 [[B_ (((u64.wrap x).fdiv (2 ^ min (31:Int).toNat u64.bits))==1),.sc (.int .u64 p.1),I_ p.2.1,B_ p.2.2.1,B_ p.q3]])])
def y9t (n:Nat)(x:Int):Pt P_ Ty_ [] (Yah):=.join (S:=Ycu) (y3b x) (.ite ((i64.wrap (u64.wrap (BitVec.ofInt u64.bits ((u64.wrap x).fdiv (2 ^ min (23:Int).toNat u64.bits)) &&& BitVec.ofInt u64.bits (255:Int)).toNat))==255) (.leaf (.inl ((0:Int),(0:Int),((u64.wrap (BitVec.ofInt u64.bits (u64.wrap x) &&& BitVec.ofInt u64.bits (8388607:Int)).toNat)==0),((u64.wrap (BitVec.ofInt u64.bits (u64.wrap x) &&& BitVec.ofInt u64.bits (8388607:Int)).toNat) != (0:Int))))) (.ite ((i64.wrap (u64.wrap (BitVec.ofInt u64.bits ((u64.wrap x).fdiv (2 ^ min (23:Int).toNat u64.bits)) &&& BitVec.ofInt u64.bits (255:Int)).toNat))==0) (.leaf (.inl ((u64.wrap (BitVec.ofInt u64.bits (u64.wrap x) &&& BitVec.ofInt u64.bits (8388607:Int)).toNat),(-149:Int),false,false))) (.leaf (.inl ((u64.wrap ((8388608:Int)+(u64.wrap (BitVec.ofInt u64.bits (u64.wrap x) &&& BitVec.ofInt u64.bits (8388607:Int)).toNat))),(i64.wrap ((i64.wrap (u64.wrap (BitVec.ofInt u64.bits ((u64.wrap x).fdiv (2 ^ min (23:Int).toNat u64.bits)) &&& BitVec.ofInt u64.bits (255:Int)).toNat)) - (150:Int))),false,false))))) λs1=>.leaf ((((u64.wrap x).fdiv (2 ^ min (31:Int).toNat u64.bits))==1),s1.1,s1.2.1,s1.2.2.1,s1.q3)
def k69 (n:Nat):Con P_ Ty_:=zg (X:=Int) (R:=Yah) (pro:=[]) (ynh n) 97 yni (λx=>.two .no (.two .no (.two .no (.two .no (.two .no (.join (Ycu) (y3b x) ⟨[(2,.ref 2),(4,.ref 4)],[(2,.any),(4,.any)]⟩ .no .no)))))) [.any] [] [] ⟨[(2,.ref 100000)],[(100000,.any)]⟩ [] true (λx=>[I_ x]) (λx=>[]) (λy=>([(2,.pt 100000 [] 0 0)],[(100000,.lit 5 [[B_ y.1,.sc (.int .u64 y.2.1),I_ y.2.2.1,B_ y.p3,B_ y.q4]])])) (λy=>.ag [B_ y.1,.sc (.int .u64 y.2.1),I_ y.2.2.1,B_ y.p3,B_ y.q4]) (λy=>[]) (y9t n)
def yn9 (n:Nat):Cx P_ Ty_:=⟨[k69 n],[],[],[]⟩
abbrev yna:List (List Nat):=[[0],[0,5],[2],[2]]
def y9p (n:Nat)(x:Int):Pt P_ Ty_ [] Int:=.call (k69 n) x λ(y1:Yah)=>.ite y1.q4 (.leaf (2143289344:Int)) (.leaf x)
def k65 (n:Nat):Con P_ Ty_:=zg (X:=Int) (R:=Int) (pro:=[]) (yn9 n) 82 yna (λx=>.no) [.any] [] [] ⟨[(2,.any)],[]⟩ [] true (λx=>[I_ x]) (λx=>[]) (λy=>([(2,I_ y)],[])) (λy=>I_ y) (λy=>[]) (y9p n)
def ymz (n:Nat):Cx P_ Ty_:=⟨[k65 n],[],[],[]⟩
abbrev yn0:List (List Nat):=[[0],[2]]
def y9e (n:Nat)(x:Int):Pt P_ Ty_ [] Bool:=.call (k65 n) (i64.wrap x) λ(y1:Int)=>.leaf (y1==(i64.wrap x))
def k58 (n:Nat):Con P_ Ty_:=zg (X:=Int) (R:=Bool) (pro:=[]) (ymz n) 68 yn0 (λx=>.no) [.any] [] [] ⟨[(2,.any)],[]⟩ [] true (λx=>[.sc (.int .u32 x)]) (λx=>[]) (λy=>([(2,B_ y)],[])) (λy=>B_ y) (λy=>[]) (y9e n)
def yml (n:Nat):Cx P_ Ty_:=⟨[k39 n,k58 n],[],[],[]⟩
abbrev ymm:List (List Nat):=[[1,2],[2,9],[4],[2,13],[4],[4]]
def y8p (n:Nat)(x:Ycm):Pt P_ Ty_ [] Bool:=.call (k39 n) (x.1.s_,x.2) λ(y1:Bool)=>.ite (!y1) (.leaf false) (.ite (x.1.s_.j_==2) (.ite (x.1.m_==0) (.ite (decide (x.1.u_>=(0:Int))) (.leaf (decide (x.1.u_<=(2147483647:Int)))) (.leaf false)) (.leaf false)) (.ite (x.1.u_==0) (.call (k58 n) x.1.m_ λ(y2:Bool)=>.leaf y2) (.leaf false)))
def k40 (n:Nat):Con P_ Ty_:=zg (X:=Ycm) (R:=Bool) (pro:=[]) (yml n) 50 ymm (λx=>.no) [.ag [.any,.any,.any,.any,.any],.im 1] [] [] ⟨[(4,.any)],[]⟩ [] true (λx=>[.ag [I_ x.1.s_.j_,I_ x.1.s_.o_,B_ x.1.T_,.sc (.int .u32 x.1.m_),I_ x.1.u_],.im 1 x.2]) (λx=>[]) (λy=>([(4,B_ y)],[])) (λy=>B_ y) (λy=>[]) (y8p n)
def ym5 (n:Nat):Cx P_ Ty_:=⟨[],[],[],[]⟩
abbrev ym6:List (List Nat):=[[0],[4],[4,5],[2,3],[4,7],[2,3],[4,9],[2,3],[4,11],[4,11],[4,11],[4,11],[4,11],[4,11],[4,11],[2,3],[4,19],[4,19],[4,19],[4,19],[2,3],[4,24],[2,3],[4,26],[2,3],[4,28],[2,3],[4,30],[2,3],[4,32],[4,32],[2,3],[4,35],[4,35],[2,3],[4,38],[4,38],[4,38],[4,38],[4,38],[2,3],[4,44],[2,3],[4,46],[4,46],[2,3],[4,49],[2,3],[4,51],[2,3],[4,53],[2,3],[4,55],[2,3],[4,57],[4,57],[2,3],[60],[2,3],[2,3]]
def y0s (x:Int)(p:Bool):EH Ty_:=([(4,I_ x),(11,B_ p)],[])
def y0t (x:Int)(p:Bool):EH Ty_:=([(4,I_ x),(19,B_ p)],[])
def y0u (x:Int)(p:Bool):EH Ty_:=([(4,I_ x),(32,B_ p)],[])
def y0v (x:Int)(p:Bool):EH Ty_:=([(4,I_ x),(35,B_ p)],[])
def y0w (x:Int)(p:Bool):EH Ty_:=([(4,I_ x),(38,B_ p)],[])
def y0x (x:Int)(p:Bool):EH Ty_:=([(4,I_ x),(46,B_ p)],[])
def y0y (x:Int)(p:Bool):EH Ty_:=([(4,I_ x),(57,B_ p)],[])
def y87 (n:Nat)(x:Int):Pt P_ Ty_ [] (Yal):=.ite (x==1) (.leaf ((⟨#[110,45,45,45,45]⟩:ByteArray),true)) (.ite (x==2) (.leaf ((⟨#[119,45,45,45,105]⟩:ByteArray),true)) (.ite (x==3) (.leaf ((⟨#[97,99,45,45,45]⟩:ByteArray),true)) (.join (S:=Bool) (y0s x) (.ite (x==4) (.leaf (.inl true)) (.ite (x==5) (.leaf (.inl true)) (.ite (x==6) (.leaf (.inl true)) (.ite (x==7) (.leaf (.inl true)) (.ite (x==8) (.leaf (.inl true)) (.ite (x==9) (.leaf (.inl true)) (.leaf (.inl (x==10))))))))) λs1=>.ite s1 (.leaf ((⟨#[100,120,120,45,45]⟩:ByteArray),true)) (.join (S:=Bool) (y0t x) (.ite (x==11) (.leaf (.inl true)) (.ite (x==12) (.leaf (.inl true)) (.ite (x==13) (.leaf (.inl true)) (.leaf (.inl (x==14)))))) λs2=>.ite s2 (.leaf ((⟨#[100,120,45,45,45]⟩:ByteArray),true)) (.ite (x==15) (.leaf ((⟨#[100,120,120,120,45]⟩:ByteArray),true)) (.ite (x==16) (.leaf ((⟨#[110,110,119,45,45]⟩:ByteArray),true)) (.ite (x==17) (.leaf ((⟨#[110,119,45,45,45]⟩:ByteArray),true)) (.ite (x==18) (.leaf ((⟨#[119,110,45,45,45]⟩:ByteArray),true)) (.join (S:=Bool) (y0u x) (.ite (x==19) (.leaf (.inl true)) (.leaf (.inl (x==20)))) λs3=>.ite s3 (.leaf ((⟨#[110,118,45,45,45]⟩:ByteArray),true)) (.join (S:=Bool) (y0v x) (.ite (x==21) (.leaf (.inl true)) (.leaf (.inl (x==25)))) λs4=>.ite s4 (.leaf ((⟨#[119,119,45,45,45]⟩:ByteArray),true)) (.join (S:=Bool) (y0w x) (.ite (x==22) (.leaf (.inl true)) (.ite (x==23) (.leaf (.inl true)) (.ite (x==24) (.leaf (.inl true)) (.ite (x==27) (.leaf (.inl true)) (.leaf (.inl (x==28))))))) λs5=>.ite s5 (.leaf ((⟨#[119,119,119,45,45]⟩:ByteArray),true)) (.ite (x==26) (.leaf ((⟨#[119,119,119,119,45]⟩:ByteArray),true)) (.join (S:=Bool) (y0x x) (.ite (x==29) (.leaf (.inl true)) (.leaf (.inl (x==30)))) λs6=>.ite s6 (.leaf ((⟨#[118,45,45,45,112]⟩:ByteArray),true)) (.ite (x==31) (.leaf ((⟨#[45,118,45,45,112]⟩:ByteArray),true)) (.ite (x==32) (.leaf ((⟨#[97,45,45,45,115]⟩:ByteArray),true)) (.ite (x==33) (.leaf ((⟨#[45,97,45,45,115]⟩:ByteArray),true)) (.ite (x==34) (.leaf ((⟨#[45,119,45,45,45]⟩:ByteArray),true)) (.join (S:=Bool) (y0y x) (.ite (x==35) (.leaf (.inl true)) (.leaf (.inl (x==37)))) λs7=>.ite s7 (.leaf ((⟨#[45,45,45,45,45]⟩:ByteArray),true)) (.ite (x==36) (.leaf ((⟨#[45,45,45,45,113]⟩:ByteArray),true)) (.leaf ((⟨#[]⟩:ByteArray),false)))))))))))))))))))))
def k27 (n:Nat):Con P_ Ty_:=zg (X:=Int) (R:=Yal) (pro:=[]) (ym5 n) 56 ym6 (λx=>.two .no (.two (.two .no (.two (.two .no (.two .no (.two .no (.two .no (.two .no (.two .no (.join Bool (y0s x) ⟨[(4,.any),(11,.any)],[]⟩ .no (.two .no (.join Bool (y0t x) ⟨[(4,.any),(19,.any)],[]⟩ .no (.two .no (.two .no (.two .no (.two .no (.two .no (.two .no (.two .no (.two .no (.two .no (.join Bool (y0u x) ⟨[(4,.any),(32,.any)],[]⟩ .no (.two .no (.join Bool (y0v x) ⟨[(4,.any),(35,.any)],[]⟩ .no (.two .no (.join Bool (y0w x) ⟨[(4,.any),(38,.any)],[]⟩ .no (.two .no (.two .no (.two .no (.join Bool (y0x x) ⟨[(4,.any),(46,.any)],[]⟩ .no (.two .no (.two .no (.two .no (.two .no (.two .no (.two .no (.two .no (.two .no (.two .no (.join Bool (y0y x) ⟨[(4,.any),(57,.any)],[]⟩ .no .no))))))))))))))))))))))))))))))))))))) .no)) .no)) [.any] [] [] ⟨[(2,.any),(3,.any)],[]⟩ [] true (λx=>[I_ x]) (λx=>[]) (λy=>([(2,.sc (.string y.1)),(3,B_ y.2)],[])) (λy=>.tu [.sc (.string y.1),B_ y.2]) (λy=>[]) (y87 n)
def ynj (n:Nat):Cx P_ Ty_:=⟨[],[],[],[]⟩
abbrev ynk:List (List Nat):=[[1,2,4],[1,2,4,14],[4,5],[4,5]]
def y3c (x:Xe×Int)(p:Bool):EH Ty_:=([(1,I_ x.2),(2,.pt 2 [] 0 0),(4,.pt 4 [] 0 0),(14,B_ p)],[(2,.lit 4 [[.im 1 x.1.g_,.im 2 x.1.c_,.im 3 x.1.e_,.im 4 x.1.d_]]),(4,.lit 2 [[I_ (0:Int),I_ (0:Int)]])])
def y9u (n:Nat)(x:Xe×Int):Pt P_ Ty_ [] (Ybk):=.join (S:=Bool) (y3c x) (.ite (decide (x.2<(0:Int))) (.leaf (.inl true)) (.leaf (.inl (decide (x.2>=(x.1.c_.length:Int)))))) λs1=>.ite s1 (.leaf (false,(0:Int),(0:Int))) (.bnd (idx x.1.c_ x.2) λy1=>.leaf (true,y1.j_,y1.o_))
def k70 (n:Nat):Con P_ Ty_:=zg (X:=Xe×Int) (R:=Ybk) (pro:=[]) (ynj n) 98 ynk (λx=>.two .no (.two (.join Bool (y3c x) ⟨[(1,.any),(2,.ref 2),(4,.ref 4),(14,.any)],[(2,.any),(4,.any)]⟩ .no .no) .no)) [.ag [.im 1,.im 2,.im 3,.im 4],.any] [] [] ⟨[(4,.ref 100000),(5,.any)],[(100000,.any)]⟩ [] true (λx=>[.ag [.im 1 x.1.g_,.im 2 x.1.c_,.im 3 x.1.e_,.im 4 x.1.d_],I_ x.2]) (λx=>[]) (λy=>([(4,.pt 100000 [] 0 0),(5,B_ y.1)],[(100000,.lit 2 [[I_ y.2.1,I_ y.2.2]])])) (λy=>.tu [.ag [I_ y.2.1,I_ y.2.2],B_ y.1]) (λy=>[]) (y9u n)
def ynb (n:Nat):Cx P_ Ty_:=⟨[k70 n],[],[],[]⟩
abbrev ync:List (List Nat):=[[1,2,4,7],[1,2,4,7,14],[8],[1,7,9,10],[1,7,9,24],[8],[1,7,9,11],[1,7,9,11,12],[7,9,11,12,31],[7,9,11,12,31,32],[8],[7,9,11,12,31,35],[8],[7,9,11,12,31,40],[8],[7,9,11,12,31,43],[8],[7,9,11,31,49],[8],[7,9,11,57],[8],[8]]
def y9q (n:Nat)(x:Ycn):Pt P_ Ty_ [] Bool:=.ite (x.2.1==45) (.leaf (x.2.2.1==0)) (.call (k70 n) (x.1,x.2.2.1) λ(y1:Ybk)=>.ite (!y1.1) (.leaf false) (.ite (x.2.1==110) (.leaf (y1.2.1==1)) (.ite (x.2.1==119) (.leaf (y1.2.1==2)) (.ite (x.2.1==118) (.leaf (y1.2.1==3)) (.ite (x.2.1==100) (.ite (y1.2.1==1) (.leaf true) (.leaf (y1.2.1==3))) (.ite (x.2.1==120) (.ite (y1.2.1==1) (.leaf true) (.leaf (y1.2.1==x.q3.j_&&(y1.2.2==x.q3.o_&&true)))) (.ite (x.2.1==99) (.ite (y1.2.1==x.q3.j_&&(y1.2.2==x.q3.o_&&true)) (.leaf true) (.ite (y1.2.1==1) (.leaf (x.q3.j_==3)) (.leaf false))) (.leaf true))))))))
def k66 (n:Nat):Con P_ Ty_:=zg (X:=Ycn) (R:=Bool) (pro:=[]) (ynb n) 83 ync (λx=>.no) [.ag [.im 1,.im 2,.im 3,.im 4],.any,.any,.ag [.any,.any]] [] [] ⟨[(8,.any)],[]⟩ [] true (λx=>[.ag [.im 1 x.1.g_,.im 2 x.1.c_,.im 3 x.1.e_,.im 4 x.1.d_],.sc (.int .u8 x.2.1),I_ x.2.2.1,.ag [I_ x.q3.j_,I_ x.q3.o_]]) (λx=>[]) (λy=>([(8,B_ y)],[])) (λy=>B_ y) (λy=>[]) (y9q n)
def ynd (n:Nat):Cx P_ Ty_:=⟨[],[],[],[]⟩
abbrev yne:List (List Nat):=[[1,2,3],[6]]
def y9r (n:Nat)(x:Ybf):Pt P_ Ty_ [] Bool:=.ite (x.2.1==0) (.leaf true) (.ite (x.2.1==1) (.bnd (idx x.1.g_ x.2.2) λy1=>.leaf (y1.j_==2)) (.leaf false))
def k67 (n:Nat):Con P_ Ty_:=zg (X:=Ybf) (R:=Bool) (pro:=[]) (ynd n) 84 yne (λx=>.no) [.ag [.im 1,.im 2,.im 3,.im 4],.any,.any] [] [] ⟨[(6,.any)],[]⟩ [] true (λx=>[.ag [.im 1 x.1.g_,.im 2 x.1.c_,.im 3 x.1.e_,.im 4 x.1.d_],I_ x.2.1,I_ x.2.2]) (λx=>[]) (λy=>([(6,B_ y)],[])) (λy=>B_ y) (λy=>[]) (y9r n)
def yn1 (n:Nat):Cx P_ Ty_:=⟨[k27 n,k58 n,k66 n,k67 n],[],[],[]⟩
abbrev yn2:List (List Nat):=[[2,3],[2,3,5,6],[2,3,5,32],[4],[2,3,5,7],[2,3,5,7,36],[2,3,5,7,44],[4],[2,3,5,7],[2,3,5,7,53],[4],[2,3,5,7,81],[4],[2,3,5,8],[2,3,5,8,90],[2,3,5,8],[2,3,8,98],[2,3,8,98,99],[4],[2,3,8,98,109],[4],[2,3,8,98,117],[4],[2,3,141],[4],[4]]
def y2m (x:Yai)(p:Yal):EH Ty_:=([(2,.pt 2 [] 0 0),(3,.pt 3 [] 0 0),(5,.sc (.string p.1)),(32,B_ p.2)],[(2,.lit 4 [[.im 1 x.1.g_,.im 2 x.1.c_,.im 3 x.1.e_,.im 4 x.1.d_]]),(3,.lit 7 [[I_ x.2.a_,I_ x.2.D_,I_ x.2.A_,I_ x.2.B_,I_ x.2.C_,I_ x.2.N_,.sc (.int .u32 x.2.m_)]])])
def y2n (x:Yai)(p:Yaz):EH Ty_:=([(2,.pt 2 [] 0 0),(3,.pt 3 [] 0 0),(5,.sc (.string p.1)),(7,.pt 7 [] 0 0)],[(2,.lit 4 [[.im 1 x.1.g_,.im 2 x.1.c_,.im 3 x.1.e_,.im 4 x.1.d_]]),(3,.lit 7 [[I_ x.2.a_,I_ x.2.D_,I_ x.2.A_,I_ x.2.B_,I_ x.2.C_,I_ x.2.N_,.sc (.int .u32 x.2.m_)]]),(7,.lit 2 [[I_ p.2.1,I_ p.2.2]])])
def y2o (x:Yai)(p:Ybw):EH Ty_:=([(2,.pt 2 [] 0 0),(3,.pt 3 [] 0 0),(5,.sc (.string p.1)),(7,.pt 7 [] 0 0),(81,B_ p.2.1)],[(2,.lit 4 [[.im 1 x.1.g_,.im 2 x.1.c_,.im 3 x.1.e_,.im 4 x.1.d_]]),(3,.lit 7 [[I_ x.2.a_,I_ x.2.D_,I_ x.2.A_,I_ x.2.B_,I_ x.2.C_,I_ x.2.N_,.sc (.int .u32 x.2.m_)]]),(7,.lit 2 [[I_ p.2.2.1,I_ p.q3]])])
def y2p (x:Yai)(p:Ybw):EH Ty_:=([(2,.pt 2 [] 0 0),(3,.pt 3 [] 0 0),(5,.sc (.string p.1)),(8,.pt 8 [] 0 0),(90,B_ p.2.1)],[(2,.lit 4 [[.im 1 x.1.g_,.im 2 x.1.c_,.im 3 x.1.e_,.im 4 x.1.d_]]),(3,.lit 7 [[I_ x.2.a_,I_ x.2.D_,I_ x.2.A_,I_ x.2.B_,I_ x.2.C_,I_ x.2.N_,.sc (.int .u32 x.2.m_)]]),(8,.lit 2 [[I_ p.2.2.1,I_ p.q3]])])
def y2q (x:Yai)(p:Yaz):EH Ty_:=([(2,.pt 2 [] 0 0),(3,.pt 3 [] 0 0),(5,.sc (.string p.1)),(8,.pt 8 [] 0 0)],[(2,.lit 4 [[.im 1 x.1.g_,.im 2 x.1.c_,.im 3 x.1.e_,.im 4 x.1.d_]]),(3,.lit 7 [[I_ x.2.a_,I_ x.2.D_,I_ x.2.A_,I_ x.2.B_,I_ x.2.C_,I_ x.2.N_,.sc (.int .u32 x.2.m_)]]),(8,.lit 2 [[I_ p.2.1,I_ p.2.2]])])
def y9f (n:Nat)(x:Yai):Pt P_ Ty_ [] Bool:=.call (k27 n) x.2.a_ λ(y1:Yal)=>.join (S:=Yal) (y2m x) (.ite (!y1.2) (.leaf (.inl (y1.1,true))) (.ite (x.2.a_ != (1:Int)) (.ite (x.2.m_ != (0:Int)) (.leaf (.inl (y1.1,true))) (.call (k58 n) x.2.m_ λ(y2:Bool)=>.leaf (.inl (y1.1,(!y2))))) (.call (k58 n) x.2.m_ λ(y3:Bool)=>.leaf (.inl (y1.1,(!y3)))))) λs1=>.ite s1.2 (.leaf false) (.join (S:=Yaz) (y2n x) (.need (0<=(0:Int)/\(0:Int)<(s1.1.size:Int)) (.ite ((zc s1.1 (0:Int)) != (45:Int)) (.need (0<=(0:Int)/\(0:Int)<(s1.1.size:Int)) (.call (k66 n) (x.1,(zc s1.1 (0:Int)),x.2.D_,(⟨(0:Int),(0:Int)⟩:Xb)) λ(y4:Bool)=>.ite (!y4) (.leaf (.inr false)) (.bnd (idx x.1.c_ x.2.D_) λy5=>.leaf (.inl (s1.1,y5.j_,y5.o_))))) (.ite (x.2.D_ != (0:Int)) (.leaf (.inr false)) (.leaf (.inl (s1.1,(0:Int),(0:Int))))))) λs2=>.join (S:=Ybw) (y2o x) (.need (0<=(1:Int)/\(1:Int)<(s2.1.size:Int)) (.call (k66 n) (x.1,(zc s2.1 (1:Int)),x.2.A_,(⟨s2.2.1,s2.2.2⟩:Xb)) λ(y6:Bool)=>.ite (!y6) (.leaf (.inl (s2.1,true,s2.2.1,s2.2.2))) (.need (0<=(2:Int)/\(2:Int)<(s2.1.size:Int)) (.call (k66 n) (x.1,(zc s2.1 (2:Int)),x.2.B_,(⟨s2.2.1,s2.2.2⟩:Xb)) λ(y7:Bool)=>.ite (!y7) (.leaf (.inl (s2.1,true,s2.2.1,s2.2.2))) (.need (0<=(3:Int)/\(3:Int)<(s2.1.size:Int)) (.call (k66 n) (x.1,(zc s2.1 (3:Int)),x.2.C_,(⟨s2.2.1,s2.2.2⟩:Xb)) λ(y8:Bool)=>.leaf (.inl (s2.1,(!y8),s2.2.1,s2.2.2)))))))) λs3=>.ite s3.2.1 (.leaf false) (.join (S:=Yaz) (y2q x) (.join (S:=Ybw) (y2p x) (.need (0<=(0:Int)/\(0:Int)<(s3.1.size:Int)) (.ite ((zc s3.1 (0:Int))==45) (.need (0<=(1:Int)/\(1:Int)<(s3.1.size:Int)) (.leaf (.inl (s3.1,((zc s3.1 (1:Int)) != (45:Int)),s3.2.2.1,s3.q3)))) (.leaf (.inl (s3.1,false,s3.2.2.1,s3.q3))))) λs4=>.ite s4.2.1 (.bnd (idx x.1.c_ x.2.A_) λy9=>.leaf (.inl (s4.1,y9.j_,y9.o_))) (.leaf (.inl (s4.1,s4.2.2.1,s4.q3)))) λs5=>.need (0<=(4:Int)/\(4:Int)<(s5.1.size:Int)) (.ite ((zc s5.1 (4:Int))==105) (.ite (decide (x.2.N_>=(0:Int))) (.leaf (decide (x.2.N_<=(2147483647:Int)))) (.leaf false)) (.ite ((zc s5.1 (4:Int))==112) (.call (k67 n) (x.1,x.2.N_,s5.2.2) λ(y10:Bool)=>.leaf y10) (.ite ((zc s5.1 (4:Int))==115) (.ite (decide (x.2.N_>=(0:Int))) (.ite (decide (x.2.N_<(x.1.e_.length:Int))) (.bnd (idx x.1.e_ x.2.N_) λy11=>.leaf (y11.s_.j_==s5.2.1&&(y11.s_.o_==s5.2.2&&true))) (.leaf false)) (.leaf false)) (.ite ((zc s5.1 (4:Int))==113) (.ite (decide (x.2.N_>=(0:Int))) (.leaf (decide (x.2.N_<(x.1.g_.length:Int)))) (.leaf false)) (.leaf (x.2.N_==0))))))))
def k59 (n:Nat):Con P_ Ty_:=zg (X:=Yai) (R:=Bool) (pro:=[]) (yn1 n) 69 yn2 (λx=>.two .no (.two .no (.two (.join (Yal) (y2m x) ⟨[(2,.ref 2),(3,.ref 3),(5,.any),(32,.any)],[(2,.any),(3,.any)]⟩ .no .no) (.two .no (.join (Yaz) (y2n x) ⟨[(2,.ref 2),(3,.ref 3),(5,.any),(7,.ref 7)],[(2,.any),(3,.any),(7,.any)]⟩ .no (.two (.join (Ybw) (y2o x) ⟨[(2,.ref 2),(3,.ref 3),(5,.any),(7,.ref 7),(81,.any)],[(2,.any),(3,.any),(7,.any)]⟩ .no .no) (.two .no (.join (Yaz) (y2q x) ⟨[(2,.ref 2),(3,.ref 3),(5,.any),(8,.ref 8)],[(2,.any),(3,.any),(8,.any)]⟩ (.join (Ybw) (y2p x) ⟨[(2,.ref 2),(3,.ref 3),(5,.any),(8,.ref 8),(90,.any)],[(2,.any),(3,.any),(8,.any)]⟩ .no .no) .no)))))))) [.ag [.im 1,.im 2,.im 3,.im 4],.ag [.any,.any,.any,.any,.any,.any,.any]] [] [] ⟨[(4,.any)],[]⟩ [] true (λx=>[.ag [.im 1 x.1.g_,.im 2 x.1.c_,.im 3 x.1.e_,.im 4 x.1.d_],.ag [I_ x.2.a_,I_ x.2.D_,I_ x.2.A_,I_ x.2.B_,I_ x.2.C_,I_ x.2.N_,.sc (.int .u32 x.2.m_)]]) (λx=>[]) (λy=>([(4,B_ y)],[])) (λy=>B_ y) (λy=>[]) (y9f n)
def ym1 (n:Nat):Cx P_ Ty_:=⟨[],[],[],[]⟩
abbrev ym2:List (List Nat):=[[0],[2]]
def y81 (n:Nat)(x:Int):Pt P_ Ty_ [] Bool:=.ite (decide (x>=(3:Int))) (.leaf (decide (x<=(15:Int)))) (.leaf false)
def k14 (n:Nat):Con P_ Ty_:=zg (X:=Int) (R:=Bool) (pro:=[]) (ym1 n) 85 ym2 (λx=>.no) [.any] [] [] ⟨[(2,.any)],[]⟩ [] true (λx=>[I_ x]) (λx=>[]) (λy=>([(2,B_ y)],[])) (λy=>B_ y) (λy=>[]) (y81 n)
def yn3 (n:Nat):Cx P_ Ty_:=⟨[k14 n],[],[],[]⟩
abbrev yn4:List (List Nat):=[[2,3],[2,3,5],[2,3,5,6],[2,3,5,6],[2,3,5,6],[2,3,5,6],[2,5],[2,3,5,21],[2,3,5,21],[2,5],[2,5,47],[4],[4]]
def y2r (x:Yai)(p:Bool):EH Ty_:=([(2,.pt 2 [] 0 0),(3,.pt 3 [] 0 0),(5,I_ (-1:Int)),(6,B_ p)],[(2,.lit 4 [[.im 1 x.1.g_,.im 2 x.1.c_,.im 3 x.1.e_,.im 4 x.1.d_]]),(3,.lit 7 [[I_ x.2.a_,I_ x.2.D_,I_ x.2.A_,I_ x.2.B_,I_ x.2.C_,I_ x.2.N_,.sc (.int .u32 x.2.m_)]])])
def y2s (x:Yai)(p:Bool):EH Ty_:=([(2,.pt 2 [] 0 0),(3,.pt 3 [] 0 0),(5,I_ (-1:Int)),(21,B_ p)],[(2,.lit 4 [[.im 1 x.1.g_,.im 2 x.1.c_,.im 3 x.1.e_,.im 4 x.1.d_]]),(3,.lit 7 [[I_ x.2.a_,I_ x.2.D_,I_ x.2.A_,I_ x.2.B_,I_ x.2.C_,I_ x.2.N_,.sc (.int .u32 x.2.m_)]])])
def y2t (x:Yai)(p:Int):EH Ty_:=([(2,.pt 2 [] 0 0),(5,I_ p)],[(2,.lit 4 [[.im 1 x.1.g_,.im 2 x.1.c_,.im 3 x.1.e_,.im 4 x.1.d_]])])
def y2u (x:Yai)(p:Yag):EH Ty_:=([(2,.pt 2 [] 0 0),(5,I_ p.1),(47,B_ p.2)],[(2,.lit 4 [[.im 1 x.1.g_,.im 2 x.1.c_,.im 3 x.1.e_,.im 4 x.1.d_]])])
def y9g (n:Nat)(x:Yai):Pt P_ Ty_ [] Int:=.join (S:=Int) (y2t x) (.join (S:=Bool) (y2r x) (.call (k14 n) x.2.a_ λ(y1:Bool)=>.ite y1 (.leaf (.inl true)) (.ite (x.2.a_==29) (.leaf (.inl true)) (.ite (x.2.a_==30) (.leaf (.inl true)) (.leaf (.inl (x.2.a_==32)))))) λs1=>.ite s1 (.leaf (.inl x.2.D_)) (.join (S:=Bool) (y2s x) (.ite (x.2.a_==31) (.leaf (.inl true)) (.leaf (.inl (x.2.a_==33)))) λs2=>.ite s2 (.leaf (.inl x.2.A_)) (.leaf (.inl (-1:Int))))) λs3=>.join (S:=Yag) (y2u x) (.ite (decide (s3<(0:Int))) (.leaf (.inl (s3,true))) (.ite (decide (s3>=(x.1.c_.length:Int))) (.leaf (.inl (s3,true))) (.bnd (idx x.1.c_ s3) λy2=>.leaf (.inl (s3,(y2.j_ != (3:Int))))))) λs4=>.ite s4.2 (.leaf (-1:Int)) (.bnd (idx x.1.c_ s4.1) λy3=>.leaf y3.o_)
def k60 (n:Nat):Con P_ Ty_:=zg (X:=Yai) (R:=Int) (pro:=[]) (yn3 n) 70 yn4 (λx=>.two .no (.two .no (.join Int (y2t x) ⟨[(2,.ref 2),(5,.any)],[(2,.any)]⟩ (.two (.join Bool (y2r x) ⟨[(2,.ref 2),(3,.ref 3),(5,.any),(6,.any)],[(2,.any),(3,.any)]⟩ .no (.two .no (.join Bool (y2s x) ⟨[(2,.ref 2),(3,.ref 3),(5,.any),(21,.any)],[(2,.any),(3,.any)]⟩ .no .no))) .no) (.two (.join (Yag) (y2u x) ⟨[(2,.ref 2),(5,.any),(47,.any)],[(2,.any)]⟩ .no .no) .no)))) [.ag [.im 1,.im 2,.im 3,.im 4],.ag [.any,.any,.any,.any,.any,.any,.any]] [] [] ⟨[(4,.any)],[]⟩ [] true (λx=>[.ag [.im 1 x.1.g_,.im 2 x.1.c_,.im 3 x.1.e_,.im 4 x.1.d_],.ag [I_ x.2.a_,I_ x.2.D_,I_ x.2.A_,I_ x.2.B_,I_ x.2.C_,I_ x.2.N_,.sc (.int .u32 x.2.m_)]]) (λx=>[]) (λy=>([(4,I_ y)],[])) (λy=>I_ y) (λy=>[]) (y9g n)
def y7v (n:Nat):Cx P_ Ty_:=⟨[k27 n],[(20,false,6),(38,false,6),(39,false,6)],[],[]⟩
abbrev y7w:List (List Nat):=[[1],[1,3],[1,3,4,5],[3,4,5,6],[3,4,5,6,7],[3,4,5,6,7,25],[3,4,5,6,7,32],[3,4,5,6,7],[3,4,5,6,7],[2]]
def zys (x:Xd)(v1:Yal)(q1:Yab)(p:Bool):EH Ty_:=([(3,.sw 600001 []),(4,.sc (.string v1.1)),(5,B_ v1.2),(6,.sw 20 []),(7,I_ q1.1),(25,B_ p)],[(600001,.typ false 6 q1.2),(20,.typ false 6 ([x.A_,x.B_,x.C_]:List Int))])
def zyt (n:Nat)(x:Xd)(v1:Yal)(q1:Yab):Pt P_ Ty_ [] (Bo (Yab) (Yab) Empty):=.join (S:=Bool) (zys x v1 q1) (.ite v1.2 (.leaf (.inl (decide (q1.1<(3:Int))))) (.leaf (.inl false))) λs1=>.ite s1 (.need (0<=(i64.wrap (q1.1+(1:Int)))/\(i64.wrap (q1.1+(1:Int)))<(v1.1.size:Int)) (.ite ((zc v1.1 (i64.wrap (q1.1+(1:Int)))) != (45:Int)) (.need (0<=q1.1/\q1.1<(([x.A_,x.B_,x.C_]:List Int).length:Int)) (.bnd (([x.A_,x.B_,x.C_]:List Int)[q1.1.toNat]?) λy2=>.need ((q1.2.length+([y2]:List Int).length) * 8<=140737488355328) (.leaf (.go ((i64.wrap (q1.1+(1:Int))),(q1.2++([y2]:List Int))))))) (.leaf (.go ((i64.wrap (q1.1+(1:Int))),q1.2))))) (.leaf (.out (q1.1,q1.2)))
def zyr (n:Nat)(x:Xd)(v1:Yal):z16 P_ Ty_ []:=z1f (X:=Yab) (Y:=Yab) (Z:=Empty) (y7v n) (z18 [1,1,1,1,0,1,0,0] (fnC P_ 71 y7w)) (λq1=>.two (.join Bool (zys x v1 q1) ⟨[(3,.ref 600001),(4,.any),(5,.any),(6,.ref 20),(7,.any),(25,.any)],[(600001,.any),(20,.any)]⟩ .no .no) .no) 0 false ⟨[(3,.own 600001 false 6),(4,.any),(5,.any),(6,.ref 20),(7,.any)],[(600001,.any),(20,.any)]⟩ ⟨[(3,.ref 600001),(4,.any),(5,.any),(6,.ref 20),(7,.any),(25,.any)],[(600001,.any),(20,.any)]⟩ ⟨[],[]⟩ (λq1=>([(3,.sw 600001 []),(4,.sc (.string v1.1)),(5,B_ v1.2),(6,.sw 20 []),(7,I_ q1.1)],[(600001,.typ false 6 q1.2),(20,.typ false 6 ([x.A_,x.B_,x.C_]:List Int))])) (λp=>([(3,.sw 600001 []),(4,.sc (.string v1.1)),(5,B_ v1.2),(6,.sw 20 []),(7,I_ p.1),(25,B_ false)],[(600001,.typ false 6 p.2),(20,.typ false 6 ([x.A_,x.B_,x.C_]:List Int))])) (λp=>nomatch p) n (zyt n x v1)
def y7x (n:Nat)(x:Xd):Pt P_ Ty_ [] (List Int):=.call (k27 n) x.a_ λ(y1:Yal)=>.loop (V:=Yal) (zyr n x) (y1.1,y1.2) ((0:Int),([]:List Int)) λ(v1:Yal) (y3:Yab)=>.leaf y3.2
def k10 (n:Nat):Con P_ Ty_:=zg (X:=Xd) (R:=(List Int)) (pro:=[]) (y7v n) 71 y7w (λx=>.two .no (.two .no (.two .no (.two .no (.two (.two .no (.two (.loop (Yal) (zyr n x) false ⟨[(3,.own 600001 false 6),(4,.any),(5,.any),(6,.ref 20),(7,.any)],[(600001,.any),(20,.any)]⟩) .no)) .no))))) [.ag [.any,.any,.any,.any,.any,.any,.any]] [] [100000] ⟨[(2,.ref 100000)],[(100000,.any)]⟩ [100000] true (λx=>[.ag [I_ x.a_,I_ x.D_,I_ x.A_,I_ x.B_,I_ x.C_,I_ x.N_,.sc (.int .u32 x.m_)]]) (λx=>[]) (λy=>([(2,.sw 100000 [])],[(100000,.typ false 6 y)])) (λy=>.sw 100000 []) (λy=>[(100000,.typ false 6 y)]) (y7x n)
def y8q (n:Nat):Cx P_ Ty_:=⟨[k59 n,k60 n,k10 n],[],[],[]⟩
abbrev y8r:List (List Nat):=[[2,3,4,5],[2,3,4,5,9],[2,3,5,9,49],[8],[2,3,5,9,10],[2,3,5,9,10,11],[2,3,5,9,10,11,55],[2,3,5,9,10,11,65],[8],[2,3,5,9,10,11],[3,9,67],[3,9,67,68],[3,9,67,68],[8],[3,9,67,74],[8],[9,83],[8],[8]]
def y1x (x:Yba)(p:Bool):EH Ty_:=([(2,.im 5 x.2.2.1),(3,.im 10 x.q3),(4,.pt 4 [] 0 0),(5,.pt 5 [] 0 0),(9,B_ p)],[(4,.lit 4 [[.im 1 x.1.g_,.im 2 x.1.c_,.im 3 x.1.e_,.im 4 x.1.d_]]),(5,.lit 7 [[I_ x.2.1.a_,I_ x.2.1.D_,I_ x.2.1.A_,I_ x.2.1.B_,I_ x.2.1.C_,I_ x.2.1.N_,.sc (.int .u32 x.2.1.m_)]])])
def y1y (x:Yba)(p:Ybx):EH Ty_:=([(2,.im 5 x.2.2.1),(3,.im 10 x.q3),(5,.pt 5 [] 0 0),(9,B_ p.1),(49,B_ p.2)],[(5,.lit 7 [[I_ x.2.1.a_,I_ x.2.1.D_,I_ x.2.1.A_,I_ x.2.1.B_,I_ x.2.1.C_,I_ x.2.1.N_,.sc (.int .u32 x.2.1.m_)]])])
def y1z (x:Yba)(p:Ybx):EH Ty_:=([(3,.im 10 x.q3),(9,B_ p.1),(67,I_ x.2.1.a_),(68,B_ p.2)],[])
def y2a (n:Nat)(x:Yba)(v1:Ybl)(q1:Int):Pt P_ Ty_ [] (Bo Int Int Unit):=.ite (decide (q1<(v1.2.length:Int))) (.need (0<=q1/\q1<(v1.2.length:Int)) (.bnd (v1.2[q1.toNat]?) λy6=>.bnd (idx x.2.2.1 y6) λy7=>.ite (!y7) (.leaf (.ret ())) (.leaf (.go (i64.wrap (q1+(1:Int))))))) (.leaf (.out q1))
def y1w (n:Nat)(x:Yba)(v1:Ybl):z16 P_ Ty_ []:=z1f (X:=Int) (Y:=Int) (Z:=Unit) (y8q n) (z18 [1,1,1,1,0,1,0,0] (fnC P_ 51 y8r)) (λq1=>.no) 0 true ⟨[(2,.im 5),(3,.im 10),(5,.ref 5),(9,.any),(10,.ref 51),(11,.any)],[(5,.any),(51,.any)]⟩ ⟨[(2,.im 5),(3,.im 10),(5,.ref 5),(9,.any),(10,.ref 51),(11,.any),(55,.any)],[(5,.any),(51,.any)]⟩ ⟨[(8,.any)],[]⟩ (λq1=>([(2,.im 5 x.2.2.1),(3,.im 10 x.q3),(5,.pt 5 [] 0 0),(9,B_ v1.1),(10,.sw 51 []),(11,I_ q1)],[(5,.lit 7 [[I_ x.2.1.a_,I_ x.2.1.D_,I_ x.2.1.A_,I_ x.2.1.B_,I_ x.2.1.C_,I_ x.2.1.N_,.sc (.int .u32 x.2.1.m_)]]),(51,.typ false 6 v1.2)])) (λp=>([(2,.im 5 x.2.2.1),(3,.im 10 x.q3),(5,.pt 5 [] 0 0),(9,B_ v1.1),(10,.sw 51 []),(11,I_ p),(55,B_ false)],[(5,.lit 7 [[I_ x.2.1.a_,I_ x.2.1.D_,I_ x.2.1.A_,I_ x.2.1.B_,I_ x.2.1.C_,I_ x.2.1.N_,.sc (.int .u32 x.2.1.m_)]]),(51,.typ false 6 v1.2)])) (λp=>([(8,B_ false)],[])) n (y2a n x v1)
def y8s (n:Nat)(x:Yba):Pt P_ Ty_ [] Bool:=.join (S:=Bool) (y1x x) (.ite (decide ((x.q3.length:Int) > (0:Int))) (.bnd (idx x.q3 (i64.wrap ((x.q3.length:Int) - (1:Int)))) λy1=>.leaf (.inl (y1.a_==36))) (.leaf (.inl false))) λs1=>.join (S:=Ybx) (y1y x) (.call (k59 n) (x.1,x.2.1) λ(y2:Bool)=>.ite (!y2) (.leaf (.inl (s1,true))) (.ite s1 (.ite (x.2.1.a_ != (37:Int)) (.call (k60 n) (x.1,x.2.1) λ(y3:Int)=>.bnd (idx x.q3 (i64.wrap ((x.q3.length:Int) - (1:Int)))) λy4=>.leaf (.inl (s1,(y3 != y4.o_)))) (.leaf (.inl (s1,false)))) (.leaf (.inl (s1,false))))) λs2=>.ite s2.2 (.leaf false) (.call (k10 n) x.2.1 λ(y5:(List Int))=>.loopR (V:=Ybl) (y1w n x) (s2.1,y5) (0:Int) (λ(v1:Ybl) (y8:Int)=>.join (S:=Ybx) (y1z x) (.ite (x.2.1.a_==34) (.leaf (.inl (v1.1,true))) (.leaf (.inl (v1.1,(x.2.1.a_==36))))) λs3=>.ite s3.2 (.leaf (decide ((x.q3.length:Int)<(64:Int)))) (.ite (x.2.1.a_==35) (.ite (decide ((x.q3.length:Int) > (0:Int))) (.leaf (!s3.1)) (.leaf false)) (.ite (x.2.1.a_==37) (.leaf s3.1) (.leaf true)))) λ(v1:Ybl) (z1:Unit)=>.leaf false)
def k41 (n:Nat):Con P_ Ty_:=zg (X:=Yba) (R:=Bool) (pro:=[]) (y8q n) 51 y8r (λx=>.two .no (.join Bool (y1x x) ⟨[(2,.im 5),(3,.im 10),(4,.ref 4),(5,.ref 5),(9,.any)],[(4,.any),(5,.any)]⟩ .no (.two (.join (Ybx) (y1y x) ⟨[(2,.im 5),(3,.im 10),(5,.ref 5),(9,.any),(49,.any)],[(5,.any)]⟩ .no .no) (.two .no (.two (.two .no (.two (.loop (Ybl) (y1w n x) true ⟨[(2,.im 5),(3,.im 10),(5,.ref 5),(9,.any),(10,.ref 51),(11,.any)],[(5,.any),(51,.any)]⟩) .no)) (.two (.two .no (.two (.join (Ybx) (y1z x) ⟨[(3,.im 10),(9,.any),(67,.any),(68,.any)],[]⟩ .no .no) .no)) .no)))))) [.ag [.im 1,.im 2,.im 3,.im 4],.ag [.any,.any,.any,.any,.any,.any,.any],.im 5,.im 10] [] [] ⟨[(8,.any)],[]⟩ [] true (λx=>[.ag [.im 1 x.1.g_,.im 2 x.1.c_,.im 3 x.1.e_,.im 4 x.1.d_],.ag [I_ x.2.1.a_,I_ x.2.1.D_,I_ x.2.1.A_,I_ x.2.1.B_,I_ x.2.1.C_,I_ x.2.1.N_,.sc (.int .u32 x.2.1.m_)],.im 5 x.2.2.1,.im 10 x.q3]) (λx=>[]) (λy=>([(8,B_ y)],[])) (λy=>B_ y) (λy=>[]) (y8s n)
def ymn (n:Nat):Cx P_ Ty_:=⟨[],[(6,false,5)],[],[]⟩
abbrev ymo:List (List Nat):=[[0],[0,3],[2]]
def y8t (n:Nat)(x:(List Bool)):Pt P_ Ty_ [] (List Bool):=.need (x.length * 1<=140737488355328) (.leaf x)
def k42 (n:Nat):Con P_ Ty_:=zg (X:=(List Bool)) (R:=(List Bool)) (pro:=[]) (ymn n) 52 ymo (λx=>.no) [.im 5] [] [100000] ⟨[(2,.ref 100000)],[(100000,.any)]⟩ [100000] true (λx=>[.im 5 x]) (λx=>[]) (λy=>([(2,.sw 100000 [])],[(100000,.typ false 5 y)])) (λy=>.sw 100000 []) (λy=>[(100000,.typ false 5 y)]) (y8t n)
def ylx (n:Nat):Cx P_ Ty_:=⟨[k27 n],[],[],[]⟩
abbrev yly:List (List Nat):=[[1],[3,4],[2]]
def y7z (n:Nat)(x:Xd):Pt P_ Ty_ [] Bool:=.call (k27 n) x.a_ λ(y1:Yal)=>.ite y1.2 (.need (0<=(0:Int)/\(0:Int)<(y1.1.size:Int)) (.leaf ((zc y1.1 (0:Int)) != (45:Int)))) (.leaf false)
def k12 (n:Nat):Con P_ Ty_:=zg (X:=Xd) (R:=Bool) (pro:=[]) (ylx n) 32 yly (λx=>.no) [.ag [.any,.any,.any,.any,.any,.any,.any]] [] [] ⟨[(2,.any)],[]⟩ [] true (λx=>[.ag [I_ x.a_,I_ x.D_,I_ x.A_,I_ x.B_,I_ x.C_,I_ x.N_,.sc (.int .u32 x.m_)]]) (λx=>[]) (λy=>([(2,B_ y)],[])) (λy=>B_ y) (λy=>[]) (y7z n)
def zjo (n:Nat):Cx P_ Ty_:=⟨[k38 n,k39 n,k40 n,k41 n,k42 n,k12 n],[(75,false,5),(76,false,5),(113,true,10),(114,true,10)],[113],[]⟩
abbrev zjp:List (List Nat):=[[1],[1,4],[1,4,15],[2,3],[1,19],[2,3],[1,30],[2,3],[1,5],[1,5,39],[1,5,50],[2,3],[1,5],[1,6],[1,6,55],[1,6,66],[2,3],[1,6],[1,7],[1,7,8],[1,7,8,71],[1,7,8],[1,7,8],[1,7,9],[1,7,9,10],[1,7,9,10,81],[1,7,9,10,11],[1,7,9,10,11,94],[2,3],[1,7,9,10,11,96],[1,7,9,10],[1,7,9,10,11,115],[1,7,9,10],[1,7,9,10],[1,7,9,10,11,132],[1,7,9,10],[1,7,9,10,11,141],[1,7,9,10],[1,7,9,10],[1,150],[2,3],[2,3]]
def zzu (x:Xe)(p:Bool):EH Ty_:=([(1,.pt 1 [] 0 0),(19,B_ p)],[(1,.lit 4 [[.im 1 x.g_,.im 2 x.c_,.im 3 x.e_,.im 4 x.d_]])])
def zzv (x:Xe)(v4:Unit)(q4:Ybb)(p:Ycv):EH Ty_:=([(1,.pt 1 [] 0 0),(7,.sw 600002 []),(9,.sw 600003 []),(10,I_ q4.1),(11,.pt 11 [] 0 0),(96,B_ p.1)],[(1,.lit 4 [[.im 1 x.g_,.im 2 x.c_,.im 3 x.e_,.im 4 x.d_]]),(600002,.typ false 5 q4.2.1),(600003,.typ true 10 q4.2.2),(11,.lit 7 [[I_ p.2.1,I_ p.2.2.1,I_ p.p3,I_ p.p4,I_ p.p5,I_ p.p6,.sc (.int .u32 p.q7)]])])
def zzw (n:Nat)(x:Xe)(v1:Unit)(q1:Int):Pt P_ Ty_ [] (Bo Int Int Unit):=.ite (decide (q1<(x.c_.length:Int))) (.bnd (idx x.c_ q1) λy2=>.call (k39 n) (y2,x.g_) λ(y3:Bool)=>.ite (!y3) (.leaf (.ret ())) (.leaf (.go (i64.wrap (q1+(1:Int)))))) (.leaf (.out q1))
def zzq (n:Nat)(x:Xe)(v1:Unit):z16 P_ Ty_ []:=z1f (X:=Int) (Y:=Int) (Z:=Unit) (zjo n) (z18 [1,1,1,0,1,0,0] (fnC P_ 26 zjp)) (λq1=>.no) 1 true ⟨[(1,.ref 1),(5,.any)],[(1,.any)]⟩ ⟨[(1,.ref 1),(5,.any),(39,.any)],[(1,.any)]⟩ ⟨[(2,.any),(3,.any)],[]⟩ (λq1=>([(1,.pt 1 [] 0 0),(5,I_ q1)],[(1,.lit 4 [[.im 1 x.g_,.im 2 x.c_,.im 3 x.e_,.im 4 x.d_]])])) (λp=>([(1,.pt 1 [] 0 0),(5,I_ p),(39,B_ false)],[(1,.lit 4 [[.im 1 x.g_,.im 2 x.c_,.im 3 x.e_,.im 4 x.d_]])])) (λp=>([(2,I_ (160:Int)),(3,I_ (-1:Int))],[])) n (zzw n x v1)
def zzx (n:Nat)(x:Xe)(v2:Unit)(q2:Int):Pt P_ Ty_ [] (Bo Int Int Unit):=.ite (decide (q2<(x.e_.length:Int))) (.bnd (idx x.e_ q2) λy5=>.call (k40 n) (y5,x.g_) λ(y6:Bool)=>.ite (!y6) (.leaf (.ret ())) (.leaf (.go (i64.wrap (q2+(1:Int)))))) (.leaf (.out q2))
def zzr (n:Nat)(x:Xe)(v2:Unit):z16 P_ Ty_ []:=z1f (X:=Int) (Y:=Int) (Z:=Unit) (zjo n) (z18 [1,1,1,1,0,1,0,0] (fnC P_ 26 zjp)) (λq2=>.no) 3 true ⟨[(1,.ref 1),(6,.any)],[(1,.any)]⟩ ⟨[(1,.ref 1),(6,.any),(55,.any)],[(1,.any)]⟩ ⟨[(2,.any),(3,.any)],[]⟩ (λq2=>([(1,.pt 1 [] 0 0),(6,I_ q2)],[(1,.lit 4 [[.im 1 x.g_,.im 2 x.c_,.im 3 x.e_,.im 4 x.d_]])])) (λp=>([(1,.pt 1 [] 0 0),(6,I_ p),(55,B_ false)],[(1,.lit 4 [[.im 1 x.g_,.im 2 x.c_,.im 3 x.e_,.im 4 x.d_]])])) (λp=>([(2,I_ (160:Int)),(3,I_ (-1:Int))],[])) n (zzx n x v2)
def zzy (n:Nat)(x:Xe)(v3:Unit)(q3:Yac):Pt P_ Ty_ [] (Bo (Yac) (Yac) Empty):=.ite (decide (q3.1<(x.c_.length:Int))) (.need ((q3.2.length+([false]:List Bool).length) * 1<=140737488355328) (.leaf (.go ((i64.wrap (q3.1+(1:Int))),(q3.2++([false]:List Bool)))))) (.leaf (.out (q3.1,q3.2)))
def zzs (n:Nat)(x:Xe)(v3:Unit):z16 P_ Ty_ []:=z1f (X:=Yac) (Y:=Yac) (Z:=Empty) (zjo n) (z18 [1,1,1,1,1,1,0,1,0,0] (fnC P_ 26 zjp)) (λq3=>.no) 5 false ⟨[(1,.ref 1),(7,.own 600001 false 5),(8,.any)],[(1,.any),(600001,.any)]⟩ ⟨[(1,.ref 1),(7,.ref 600001),(8,.any),(71,.any)],[(1,.any),(600001,.any)]⟩ ⟨[],[]⟩ (λq3=>([(1,.pt 1 [] 0 0),(7,.sw 600001 []),(8,I_ q3.1)],[(1,.lit 4 [[.im 1 x.g_,.im 2 x.c_,.im 3 x.e_,.im 4 x.d_]]),(600001,.typ false 5 q3.2)])) (λp=>([(1,.pt 1 [] 0 0),(7,.sw 600001 []),(8,I_ p.1),(71,B_ false)],[(1,.lit 4 [[.im 1 x.g_,.im 2 x.c_,.im 3 x.e_,.im 4 x.d_]]),(600001,.typ false 5 p.2)])) (λp=>nomatch p) n (zzy n x v3)
def zzz (n:Nat)(x:Xe)(v4:Unit)(q4:Ybb):Pt P_ Ty_ [] (Bo (Ybb) (Ybb) Int):=.ite (decide (q4.1<(x.d_.length:Int))) (.bnd (idx x.d_ q4.1) λy9=>.call (k41 n) (x,y9,q4.2.1,q4.2.2) λ(y10:Bool)=>.ite (!y10) (.leaf (.ret q4.1)) (.join (S:=Ycv) (zzv x v4 q4) (.ite (y9.a_==34) (.leaf (.inl (true,y9.a_,y9.D_,y9.A_,y9.B_,y9.C_,y9.N_,y9.m_))) (.leaf (.inl ((y9.a_==36),y9.a_,y9.D_,y9.A_,y9.B_,y9.C_,y9.N_,y9.m_)))) λs2=>.ite s2.1 (.call (k42 n) q4.2.1 λ(y11:(List Bool))=>.need ((q4.2.2.length+([(⟨s2.2.1,s2.p6,y11⟩:Xh)]:List Xh).length) * 40<=140737488355328) (.leaf (.go ((i64.wrap (q4.1+(1:Int))),q4.2.1,(q4.2.2++([(⟨s2.2.1,s2.p6,y11⟩:Xh)]:List Xh)))))) (.ite (s2.2.1==35) (.need (0<=(i64.wrap ((q4.2.2.length:Int) - (1:Int)))/\(i64.wrap ((q4.2.2.length:Int) - (1:Int)))<(q4.2.2.length:Int)) (.bnd (q4.2.2[(i64.wrap ((q4.2.2.length:Int) - (1:Int))).toNat]?) λy12=>.bnd (q4.2.2[(i64.wrap ((q4.2.2.length:Int) - (1:Int))).toNat]?) λy13=>.call (k42 n) y13.G_ λ(y14:(List Bool))=>.need (0<=(i64.wrap ((q4.2.2.length:Int) - (1:Int)))/\(i64.wrap ((q4.2.2.length:Int) - (1:Int)))<=(q4.2.2.length:Int)) (.need ((i64.wrap ((q4.2.2.length:Int) - (1:Int))).toNat<=q4.2.2.length) (.leaf (.go ((i64.wrap (q4.1+(1:Int))),y14,(q4.2.2.take ((i64.wrap ((q4.2.2.length:Int) - (1:Int))).toNat)))))))) (.ite (s2.2.1==37) (.need (0<=(i64.wrap ((q4.2.2.length:Int) - (1:Int)))/\(i64.wrap ((q4.2.2.length:Int) - (1:Int)))<=(q4.2.2.length:Int)) (.need ((i64.wrap ((q4.2.2.length:Int) - (1:Int))).toNat<=q4.2.2.length) (.leaf (.go ((i64.wrap (q4.1+(1:Int))),q4.2.1,(q4.2.2.take ((i64.wrap ((q4.2.2.length:Int) - (1:Int))).toNat))))))) (.call (k12 n) (⟨s2.2.1,s2.2.2.1,s2.p3,s2.p4,s2.p5,s2.p6,s2.q7⟩:Xd) λ(y15:Bool)=>.ite y15 (.need (0<=s2.2.2.1/\s2.2.2.1<(q4.2.1.length:Int)) (.bnd (q4.2.1[s2.2.2.1.toNat]?) λy16=>.leaf (.go ((i64.wrap (q4.1+(1:Int))),(q4.2.1.set s2.2.2.1.toNat true),q4.2.2)))) (.leaf (.go ((i64.wrap (q4.1+(1:Int))),q4.2.1,q4.2.2)))))))) (.leaf (.out (q4.1,q4.2.1,q4.2.2)))
def zzt (n:Nat)(x:Xe)(v4:Unit):z16 P_ Ty_ []:=z1f (X:=Ybb) (Y:=Ybb) (Z:=Int) (zjo n) (z18 [1,1,1,1,1,1,1,1,0,1,0,0] (fnC P_ 26 zjp)) (λq4=>.two .no (.two (.two (.two .no (.two .no (.two (.join (Ycv) (zzv x v4 q4) ⟨[(1,.ref 1),(7,.ref 600002),(9,.ref 600003),(10,.any),(11,.ref 11),(96,.any)],[(1,.any),(600002,.any),(600003,.any),(11,.any)]⟩ .no .no) .no))) .no) .no)) 7 true ⟨[(1,.ref 1),(7,.ref 600002),(9,.own 600003 true 10),(10,.any)],[(1,.any),(600002,.any),(600003,.any)]⟩ ⟨[(1,.ref 1),(7,.ref 600002),(9,.ref 600003),(10,.any),(81,.any)],[(1,.any),(600002,.any),(600003,.any)]⟩ ⟨[(2,.any),(3,.any)],[]⟩ (λq4=>([(1,.pt 1 [] 0 0),(7,.sw 600002 []),(9,.sw 600003 []),(10,I_ q4.1)],[(1,.lit 4 [[.im 1 x.g_,.im 2 x.c_,.im 3 x.e_,.im 4 x.d_]]),(600002,.typ false 5 q4.2.1),(600003,.typ true 10 q4.2.2)])) (λp=>([(1,.pt 1 [] 0 0),(7,.sw 600002 []),(9,.sw 600003 []),(10,I_ p.1),(81,B_ false)],[(1,.lit 4 [[.im 1 x.g_,.im 2 x.c_,.im 3 x.e_,.im 4 x.d_]]),(600002,.typ false 5 p.2.1),(600003,.typ true 10 p.2.2)])) (λp=>([(2,I_ (160:Int)),(3,I_ p)],[])) n (zzz n x v4)
def y85 (n:Nat)(x:Xe):Pt P_ Ty_ [] (Yaa):=.call (k38 n) x.g_ λ(y1:Int)=>.ite (y1 != (0:Int)) (.leaf (y1,(-1:Int))) (.join (S:=Bool) (zzu x) (.ite (decide ((x.c_.length:Int) > (16384:Int))) (.leaf (.inl true)) (.leaf (.inl (decide ((x.d_.length:Int) > (32768:Int)))))) λs1=>.ite s1 (.leaf ((181:Int),(-1:Int))) (.ite (decide ((x.e_.length:Int) > (4096:Int))) (.leaf ((180:Int),(-1:Int))) (.loopR (V:=Unit) (zzq n x) () (0:Int) (λ(v1:Unit) (y4:Int)=>.loopR (V:=Unit) (zzr n x) () (0:Int) (λ(v2:Unit) (y7:Int)=>.loop (V:=Unit) (zzs n x) () ((0:Int),([]:List Bool)) λ(v3:Unit) (y8:Yac)=>.loopR (V:=Unit) (zzt n x) () ((0:Int),y8.2,([]:List Xh)) (λ(v4:Unit) (y17:Ybb)=>.ite (decide ((y17.2.2.length:Int) > (0:Int))) (.leaf ((160:Int),(x.d_.length:Int))) (.leaf ((0:Int),(0:Int)))) λ(v4:Unit) (z3:Int)=>.leaf ((160:Int),z3)) λ(v2:Unit) (z2:Unit)=>.leaf ((160:Int),(-1:Int))) λ(v1:Unit) (z1:Unit)=>.leaf ((160:Int),(-1:Int)))))
def k21 (n:Nat):Con P_ Ty_:=zg (X:=Xe) (R:=Yaa) (pro:=[]) (zjo n) 26 zjp (λx=>.two .no (.two .no (.two (.two (.two .no (.two .no (.join Bool (zzu x) ⟨[(1,.ref 1),(19,.any)],[(1,.any)]⟩ .no .no))) .no) (.two (.two .no (.two (.loop Unit (zzq n x) true ⟨[(1,.ref 1),(5,.any)],[(1,.any)]⟩) .no)) (.two (.two .no (.two (.loop Unit (zzr n x) true ⟨[(1,.ref 1),(6,.any)],[(1,.any)]⟩) .no)) (.two .no (.two (.two .no (.two (.loop Unit (zzs n x) false ⟨[(1,.ref 1),(7,.own 600001 false 5),(8,.any)],[(1,.any),(600001,.any)]⟩) .no)) (.two .no (.two (.two .no (.two (.loop Unit (zzt n x) true ⟨[(1,.ref 1),(7,.ref 600002),(9,.own 600003 true 10),(10,.any)],[(1,.any),(600002,.any),(600003,.any)]⟩) .no)) .no))))))))) [.ag [.im 1,.im 2,.im 3,.im 4]] [] [] ⟨[(2,.any),(3,.any)],[]⟩ [] true (λx=>[.ag [.im 1 x.g_,.im 2 x.c_,.im 3 x.e_,.im 4 x.d_]]) (λx=>[]) (λy=>([(2,I_ y.1),(3,I_ y.2)],[])) (λy=>.tu [I_ y.1,I_ y.2]) (λy=>[]) (y85 n)
def yis (n:Nat):Cx P_ Ty_:=⟨[k21 n],[],[],[]⟩
abbrev yit:List (List Nat):=[[1],[3],[2]]
def y0a (n:Nat)(x:Xe):Pt P_ Ty_ [] Bool:=.call (k21 n) x λ(y1:Yaa)=>.leaf (y1.1==0)
def y6n (n:Nat):Con P_ Ty_:=zg (X:=Xe) (R:=Bool) (pro:=[]) (yis n) 10 yit (λx=>.no) [.ag [.im 1,.im 2,.im 3,.im 4]] [] [] ⟨[(2,.any)],[]⟩ [] true (λx=>[.ag [.im 1 x.g_,.im 2 x.c_,.im 3 x.e_,.im 4 x.d_]]) (λx=>[]) (λy=>([(2,B_ y)],[])) (λy=>B_ y) (λy=>[]) (y0a n)
def zp6 (n:Nat):Cx P_ Ty_:=⟨[k12 n],[(15,false,5),(16,false,5)],[],[]⟩
abbrev zp7:List (List Nat):=[[1],[1,3],[1,3,4],[1,3,4,11],[1,3,4],[1,3,4],[1,3,5],[1,3,5,21],[1,3,5,6],[1,3,5,6,31],[1,3,5,6,36],[2],[1,3,5],[1,3,5],[2]]
def zs2 (n:Nat)(x:Xe)(v1:Unit)(q1:Yac):Pt P_ Ty_ [] (Bo (Yac) (Yac) Empty):=.ite (decide (q1.1<(x.c_.length:Int))) (.need ((q1.2.length+([false]:List Bool).length) * 1<=140737488355328) (.leaf (.go ((i64.wrap (q1.1+(1:Int))),(q1.2++([false]:List Bool)))))) (.leaf (.out (q1.1,q1.2)))
def zs0 (n:Nat)(x:Xe)(v1:Unit):z16 P_ Ty_ []:=z1f (X:=Yac) (Y:=Yac) (Z:=Empty) (zp6 n) (z18 [1,1,0,1,0,0] (fnC P_ 15 zp7)) (λq1=>.no) 0 false ⟨[(1,.ref 1),(3,.own 600001 false 5),(4,.any)],[(1,.any),(600001,.any)]⟩ ⟨[(1,.ref 1),(3,.ref 600001),(4,.any),(11,.any)],[(1,.any),(600001,.any)]⟩ ⟨[],[]⟩ (λq1=>([(1,.pt 1 [] 0 0),(3,.sw 600001 []),(4,I_ q1.1)],[(1,.lit 4 [[.im 1 x.g_,.im 2 x.c_,.im 3 x.e_,.im 4 x.d_]]),(600001,.typ false 5 q1.2)])) (λp=>([(1,.pt 1 [] 0 0),(3,.sw 600001 []),(4,I_ p.1),(11,B_ false)],[(1,.lit 4 [[.im 1 x.g_,.im 2 x.c_,.im 3 x.e_,.im 4 x.d_]]),(600001,.typ false 5 p.2)])) (λp=>nomatch p) n (zs2 n x v1)
def zs3 (n:Nat)(x:Xe)(v2:Unit)(q2:Yac):Pt P_ Ty_ [] (Bo (Yac) (Yac) Unit):=.ite (decide (q2.1<(x.d_.length:Int))) (.bnd (idx x.d_ q2.1) λy2=>.call (k12 n) y2 λ(y3:Bool)=>.ite (!y3) (.leaf (.go ((i64.wrap (q2.1+(1:Int))),q2.2))) (.need (0<=y2.D_/\y2.D_<(q2.2.length:Int)) (.bnd (q2.2[y2.D_.toNat]?) λy4=>.ite y4 (.leaf (.ret ())) (.need (0<=y2.D_/\y2.D_<(q2.2.length:Int)) (.bnd (q2.2[y2.D_.toNat]?) λy5=>.leaf (.go ((i64.wrap (q2.1+(1:Int))),(q2.2.set y2.D_.toNat true)))))))) (.leaf (.out (q2.1,q2.2)))
def zs1 (n:Nat)(x:Xe)(v2:Unit):z16 P_ Ty_ []:=z1f (X:=Yac) (Y:=Yac) (Z:=Unit) (zp6 n) (z18 [1,1,1,0,1,0,0] (fnC P_ 15 zp7)) (λq2=>.no) 2 true ⟨[(1,.ref 1),(3,.ref 600001),(5,.any)],[(1,.any),(600001,.any)]⟩ ⟨[(1,.ref 1),(3,.ref 600001),(5,.any),(21,.any)],[(1,.any),(600001,.any)]⟩ ⟨[(2,.any)],[]⟩ (λq2=>([(1,.pt 1 [] 0 0),(3,.sw 600001 []),(5,I_ q2.1)],[(1,.lit 4 [[.im 1 x.g_,.im 2 x.c_,.im 3 x.e_,.im 4 x.d_]]),(600001,.typ false 5 q2.2)])) (λp=>([(1,.pt 1 [] 0 0),(3,.sw 600001 []),(5,I_ p.1),(21,B_ false)],[(1,.lit 4 [[.im 1 x.g_,.im 2 x.c_,.im 3 x.e_,.im 4 x.d_]]),(600001,.typ false 5 p.2)])) (λp=>([(2,B_ false)],[])) n (zs3 n x v2)
def zz0 (n:Nat)(x:Xe):Pt P_ Ty_ [] Bool:=.loop (V:=Unit) (zs0 n x) () ((0:Int),([]:List Bool)) λ(v1:Unit) (y1:Yac)=>.loopR (V:=Unit) (zs1 n x) () ((0:Int),y1.2) (λ(v2:Unit) (y6:Yac)=>.leaf true) λ(v2:Unit) (z1:Unit)=>.leaf false
def y6e (n:Nat):Con P_ Ty_:=zg (X:=Xe) (R:=Bool) (pro:=[]) (zp6 n) 15 zp7 (λx=>.two .no (.two .no (.two (.two .no (.two (.loop Unit (zs0 n x) false ⟨[(1,.ref 1),(3,.own 600001 false 5),(4,.any)],[(1,.any),(600001,.any)]⟩) .no)) (.two (.two .no (.two (.loop Unit (zs1 n x) true ⟨[(1,.ref 1),(3,.ref 600001),(5,.any)],[(1,.any),(600001,.any)]⟩) .no)) .no)))) [.ag [.im 1,.im 2,.im 3,.im 4]] [] [] ⟨[(2,.any)],[]⟩ [] true (λx=>[.ag [.im 1 x.g_,.im 2 x.c_,.im 3 x.e_,.im 4 x.d_]]) (λx=>[]) (λy=>([(2,B_ y)],[])) (λy=>B_ y) (λy=>[]) (zz0 n)
def yiw (n:Nat):Cx P_ Ty_:=⟨[],[(9,false,4),(11,false,1),(16,false,2)],[],[]⟩
abbrev yix:List (List Nat):=[[0],[0,1],[0,1,2],[0]]
def yiy (n:Nat)(x:Unit):Pt P_ Ty_ [] Unit:=.leaf ()
def y6p (n:Nat):Con P_ Ty_:=zg (X:=Unit) (R:=Unit) (pro:=[]) (yiw n) 27 yix (λx=>.no) [] [] [100000] ⟨[(0,.ref 100000)],[(100000,.any)]⟩ [100000] true (λx=>[]) (λx=>[]) (λy=>([(0,.pt 100000 [] 0 0)],[(100000,.lit 4 [[.ow false 1 ([(⟨(⟨#[119]⟩:ByteArray),(1:Int),(2:Int)⟩:Xa)]:List Xa),.ow false 2 ([(⟨(3:Int),(0:Int)⟩:Xb),(⟨(3:Int),(0:Int)⟩:Xb),(⟨(3:Int),(0:Int)⟩:Xb),(⟨(3:Int),(0:Int)⟩:Xb)]:List Xb),.zs,.ow false 4 ([(⟨(29:Int),(0:Int),(0:Int),(0:Int),(0:Int),(0:Int),(0:Int)⟩:Xd),(⟨(29:Int),(1:Int),(0:Int),(0:Int),(0:Int),(0:Int),(0:Int)⟩:Xd),(⟨(4:Int),(2:Int),(0:Int),(1:Int),(0:Int),(0:Int),(0:Int)⟩:Xd),(⟨(3:Int),(3:Int),(2:Int),(0:Int),(0:Int),(0:Int),(0:Int)⟩:Xd),(⟨(31:Int),(0:Int),(3:Int),(0:Int),(0:Int),(0:Int),(0:Int)⟩:Xd)]:List Xd)]])])) (λy=>.ag [.sw 100000 [(0,0)],.sw 100000 [(0,1)],.zs,.sw 100000 [(0,3)]]) (λy=>[(100000,.lit 4 [[.ow false 1 ([(⟨(⟨#[119]⟩:ByteArray),(1:Int),(2:Int)⟩:Xa)]:List Xa),.ow false 2 ([(⟨(3:Int),(0:Int)⟩:Xb),(⟨(3:Int),(0:Int)⟩:Xb),(⟨(3:Int),(0:Int)⟩:Xb),(⟨(3:Int),(0:Int)⟩:Xb)]:List Xb),.zs,.ow false 4 ([(⟨(29:Int),(0:Int),(0:Int),(0:Int),(0:Int),(0:Int),(0:Int)⟩:Xd),(⟨(29:Int),(1:Int),(0:Int),(0:Int),(0:Int),(0:Int),(0:Int)⟩:Xd),(⟨(4:Int),(2:Int),(0:Int),(1:Int),(0:Int),(0:Int),(0:Int)⟩:Xd),(⟨(3:Int),(3:Int),(2:Int),(0:Int),(0:Int),(0:Int),(0:Int)⟩:Xd),(⟨(31:Int),(0:Int),(3:Int),(0:Int),(0:Int),(0:Int),(0:Int)⟩:Xd)]:List Xd)]])]) (yiy n)
def yfg (n:Nat):Cx P_ Ty_:=⟨[],[],[],[]⟩
abbrev yfh:List (List Nat):=[[2,3],[2,3,7],[4],[4]]
def yfi (n:Nat)(x:Xe×Xb):Pt P_ Ty_ [] Int:=.ite (x.2.j_==3) (.bnd (idx x.1.g_ x.2.o_) λy1=>.leaf y1.r_) (.leaf (1:Int))
def zi7 (n:Nat):Con P_ Ty_:=zg (X:=Xe×Xb) (R:=Int) (pro:=[]) (yfg n) 73 yfh (λx=>.no) [.ag [.im 1,.im 2,.im 3,.im 4],.ag [.any,.any]] [] [] ⟨[(4,.any)],[]⟩ [] true (λx=>[.ag [.im 1 x.1.g_,.im 2 x.1.c_,.im 3 x.1.e_,.im 4 x.1.d_],.ag [I_ x.2.j_,I_ x.2.o_]]) (λx=>[]) (λy=>([(4,I_ y)],[])) (λy=>I_ y) (λy=>[]) (yfi n)
def yfn (n:Nat):Cx P_ Ty_:=⟨[],[],[],[]⟩
abbrev yfo:List (List Nat):=[[0],[2]]
def yfp (n:Nat)(x:Int):Pt P_ Ty_ [] Bool:=.leaf (decide ((x.tmod (2147483648:Int)) > (2139095040:Int)))
def yjf (n:Nat):Con P_ Ty_:=zg (X:=Int) (R:=Bool) (pro:=[]) (yfn n) 99 yfo (λx=>.no) [.any] [] [] ⟨[(2,.any)],[]⟩ [] true (λx=>[I_ x]) (λx=>[]) (λy=>([(2,B_ y)],[])) (λy=>B_ y) (λy=>[]) (yfp n)
def yfk (n:Nat):Cx P_ Ty_:=⟨[yjf n],[],[],[]⟩
abbrev yfl:List (List Nat):=[[0],[0,4],[2],[2]]
def yfm (n:Nat)(x:Int):Pt P_ Ty_ [] Int:=.call (yjf n) x λ(y1:Bool)=>.ite y1 (.leaf (2143289344:Int)) (.leaf x)
def zl3 (n:Nat):Con P_ Ty_:=zg (X:=Int) (R:=Int) (pro:=[]) (yfk n) 86 yfl (λx=>.no) [.any] [] [] ⟨[(2,.any)],[]⟩ [] true (λx=>[I_ x]) (λx=>[]) (λy=>([(2,I_ y)],[])) (λy=>I_ y) (λy=>[]) (yfm n)
def zyy (n:Nat):Cx P_ Ty_:=⟨[zl3 n],[(22,false,6),(23,false,6)],[],[]⟩
abbrev zyz:List (List Nat):=[[0,1],[0,1,13],[4,5],[0,1,6],[0,1,6,7],[0,1,6,7,16],[0,1,6,7],[0,1,6,7],[4,5]]
def zrz (x:Yaa)(p:Bool):EH Ty_:=([(0,I_ x.1),(1,I_ x.2),(13,B_ p)],[])
def yb8 (n:Nat)(x:Yaa)(v1:Unit)(q1:Yab):Pt P_ Ty_ [] (Bo (Yab) (Yab) Empty):=.ite (decide (q1.1<x.1)) (.call (zl3 n) x.2 λ(y1:Int)=>.need ((q1.2.length+([y1]:List Int).length) * 8<=140737488355328) (.leaf (.go ((i64.wrap (q1.1+(1:Int))),(q1.2++([y1]:List Int)))))) (.leaf (.out (q1.1,q1.2)))
def zry (n:Nat)(x:Yaa)(v1:Unit):z16 P_ Ty_ []:=z1f (X:=Yab) (Y:=Yab) (Z:=Empty) (zyy n) (z18 [1,1,1,0,1,0,0] (fnC P_ 72 zyz)) (λq1=>.no) 0 false ⟨[(0,.any),(1,.any),(6,.own 600001 false 6),(7,.any)],[(600001,.any)]⟩ ⟨[(0,.any),(1,.any),(6,.ref 600001),(7,.any),(16,.any)],[(600001,.any)]⟩ ⟨[],[]⟩ (λq1=>([(0,I_ x.1),(1,I_ x.2),(6,.sw 600001 []),(7,I_ q1.1)],[(600001,.typ false 6 q1.2)])) (λp=>([(0,I_ x.1),(1,I_ x.2),(6,.sw 600001 []),(7,I_ p.1),(16,B_ false)],[(600001,.typ false 6 p.2)])) (λp=>nomatch p) n (yb8 n x v1)
def yfj (n:Nat)(x:Yaa):Pt P_ Ty_ [] (Yab):=.join (S:=Bool) (zrz x) (.ite (decide (x.1<(0:Int))) (.leaf (.inl true)) (.leaf (.inl (decide (x.1 > (65536:Int)))))) λs1=>.ite s1 (.leaf ((1:Int),([]:List Int))) (.loop (V:=Unit) (zry n x) () ((0:Int),([]:List Int)) λ(v1:Unit) (y2:Yab)=>.leaf ((0:Int),y2.2))
def zl2 (n:Nat):Con P_ Ty_:=zg (X:=Yaa) (R:=Yab) (pro:=[]) (zyy n) 72 zyz (λx=>.two .no (.two (.join Bool (zrz x) ⟨[(0,.any),(1,.any),(13,.any)],[]⟩ .no .no) (.two .no (.two (.two .no (.two (.loop Unit (zry n x) false ⟨[(0,.any),(1,.any),(6,.own 600001 false 6),(7,.any)],[(600001,.any)]⟩) .no)) .no)))) [.any,.any] [] [100000] ⟨[(4,.own 100000 false 6),(5,.any)],[(100000,.any)]⟩ [100000] true (λx=>[I_ x.1,I_ x.2]) (λx=>[]) (λy=>([(4,.sw 100000 []),(5,I_ y.1)],[(100000,.typ false 6 y.2)])) (λy=>.tu [.sw 100000 [],I_ y.1]) (λy=>[(100000,.typ false 6 y.2)]) (yfj n)
def yfd (n:Nat):Cx P_ Ty_:=⟨[zi7 n,zl2 n],[],[],[]⟩
abbrev yfe:List (List Nat):=[[2,3,4],[2,3,4,10],[4],[4,5],[4]]
def yff (n:Nat)(x:Xe×Xc):Pt P_ Ty_ [] (Yau):=.ite (x.2.s_.j_==2) (.leaf (([]:List Int),x.2.u_)) (.call (zi7 n) (x.1,x.2.s_) λ(y1:Int)=>.call (zl2 n) (y1,(i64.wrap x.2.m_)) λ(y2:Yab)=>.leaf (y2.2,(0:Int)))
def zwo (n:Nat):Con P_ Ty_:=zg (X:=Xe×Xc) (R:=Yau) (pro:=[]) (yfd n) 53 yfe (λx=>.no) [.ag [.im 1,.im 2,.im 3,.im 4],.ag [.any,.any,.any,.any,.any]] [] [] ⟨[(4,.ref 100000)],[(100000,.fix [.im 6,.no])]⟩ [] false (λx=>[.ag [.im 1 x.1.g_,.im 2 x.1.c_,.im 3 x.1.e_,.im 4 x.1.d_],.ag [I_ x.2.s_.j_,I_ x.2.s_.o_,B_ x.2.T_,.sc (.int .u32 x.2.m_),I_ x.2.u_]]) (λx=>[]) (λy=>([(4,.pt 100000 [] 0 0)],[(100000,.lit 2 [[.im 6 y.1,I_ y.2]])])) (λy=>.ag [.im 6 y.1,I_ y.2]) (λy=>[]) (yff n)
def zyw (n:Nat):Cx P_ Ty_:=⟨[k21 n,zwo n],[(35,false,14),(36,false,14)],[],[]⟩
abbrev zyx:List (List Nat):=[[1,2],[1,2,4],[1,2,4,14],[2,3],[1,2,6],[1,2,6,7],[1,2,6,7,23],[1,2,6,7],[1,2,6,7],[2,3]]
def yb7 (n:Nat)(x:Xe)(v1:Unit)(q1:Yav):Pt P_ Ty_ [] (Bo (Yav) (Yav) Empty):=.ite (decide (q1.1<(x.e_.length:Int))) (.bnd (idx x.e_ q1.1) λy2=>.call (zwo n) (x,y2) λ(y3:Yau)=>.need ((q1.2.length+([(⟨y3.1,y3.2⟩:Xj)]:List Xj).length) * 32<=140737488355328) (.leaf (.go ((i64.wrap (q1.1+(1:Int))),(q1.2++([(⟨y3.1,y3.2⟩:Xj)]:List Xj)))))) (.leaf (.out (q1.1,q1.2)))
def zrx (n:Nat)(x:Xe)(v1:Unit):z16 P_ Ty_ []:=z1f (X:=Yav) (Y:=Yav) (Z:=Empty) (zyw n) (z18 [1,1,1,1,0,1,0,0] (fnC P_ 28 zyx)) (λq1=>.no) 0 false ⟨[(1,.ref 1),(2,.ref 2),(6,.ref 6),(7,.any)],[(1,.any),(2,.any),(6,.fix [.no,.no,.no,.no,.ow false 14])]⟩ ⟨[(1,.ref 1),(2,.ref 2),(6,.ref 6),(7,.any),(23,.any)],[(1,.any),(2,.any),(6,.any)]⟩ ⟨[],[]⟩ (λq1=>([(1,.pt 1 [] 0 0),(2,.pt 2 [] 0 0),(6,.pt 6 [] 0 0),(7,I_ q1.1)],[(1,.lit 4 [[.im 1 x.g_,.im 2 x.c_,.im 3 x.e_,.im 4 x.d_]]),(2,.lit 5 [[.zs,.zs,.zs,.zs,.zs]]),(6,.lit 5 [[.im 1 x.g_,.im 2 x.c_,.im 3 x.e_,.im 4 x.d_,.ow false 14 q1.2]])])) (λp=>([(1,.pt 1 [] 0 0),(2,.pt 2 [] 0 0),(6,.pt 6 [] 0 0),(7,I_ p.1),(23,B_ false)],[(1,.lit 4 [[.im 1 x.g_,.im 2 x.c_,.im 3 x.e_,.im 4 x.d_]]),(2,.lit 5 [[.zs,.zs,.zs,.zs,.zs]]),(6,.lit 5 [[.im 1 x.g_,.im 2 x.c_,.im 3 x.e_,.im 4 x.d_,.ow false 14 p.2]])])) (λp=>nomatch p) n (yb7 n x v1)
def yfc (n:Nat)(x:Xe):Pt P_ Ty_ [] (Yco):=.call (k21 n) x λ(y1:Yaa)=>.ite (y1.1 != (0:Int)) (.leaf (y1.1,([]:List Xa),([]:List Xb),([]:List Xc),([]:List Xd),([]:List Xj))) (.loop (V:=Unit) (zrx n x) () ((0:Int),([]:List Xj)) λ(v1:Unit) (y4:Yav)=>.leaf ((0:Int),x.g_,x.c_,x.e_,x.d_,y4.2))
def y6d (n:Nat):Con P_ Ty_:=zg (X:=Xe) (R:=Yco) (pro:=[]) (zyw n) 28 zyx (λx=>.two .no (.two .no (.two .no (.two .no (.two (.two .no (.two (.loop Unit (zrx n x) false ⟨[(1,.ref 1),(2,.ref 2),(6,.ref 6),(7,.any)],[(1,.any),(2,.any),(6,.fix [.no,.no,.no,.no,.ow false 14])]⟩) .no)) .no))))) [.ag [.im 1,.im 2,.im 3,.im 4]] [] [] ⟨[(2,.ref 100000),(3,.any)],[(100000,.fix [.im 1,.im 2,.im 3,.im 4,.im 14])]⟩ [] false (λx=>[.ag [.im 1 x.g_,.im 2 x.c_,.im 3 x.e_,.im 4 x.d_]]) (λx=>[]) (λy=>([(2,.pt 100000 [] 0 0),(3,I_ y.1)],[(100000,.lit 5 [[.im 1 y.2.1,.im 2 y.2.2.1,.im 3 y.p3,.im 4 y.p4,.im 14 y.q5]])])) (λy=>.tu [.ag [.im 1 y.2.1,.im 2 y.2.2.1,.im 3 y.p3,.im 4 y.p4,.im 14 y.q5],I_ y.1]) (λy=>[]) (yfc n)
def zz1 (n:Nat):Cx P_ Ty_:=⟨[k64 n],[],[],[]⟩
abbrev zz2:List (List Nat):=[[0,1],[0,1,10],[4],[0,1,5],[0,1,5,14],[0,1,5,27],[4],[0,1,5],[4]]
def ybc (n:Nat)(x:Ycp)(v1:Unit)(q1:Int):Pt P_ Ty_ [] (Bo Int Int Unit):=.ite (decide (q1<(x.1.length:Int))) (.bnd (idx x.2 q1) λy1=>.bnd (idx x.1 q1) λy2=>.call (k64 n) y2 λ(y3:Int)=>.ite ((y1.length:Int) != y3) (.leaf (.ret ())) (.leaf (.go (i64.wrap (q1+(1:Int)))))) (.leaf (.out q1))
def zs9 (n:Nat)(x:Ycp)(v1:Unit):z16 P_ Ty_ []:=z1f (X:=Int) (Y:=Int) (Z:=Unit) (zz1 n) (z18 [1,1,0,1,0,0] (fnC P_ 74 zz2)) (λq1=>.no) 0 true ⟨[(0,.im 1),(1,.im 12),(5,.any)],[]⟩ ⟨[(0,.im 1),(1,.im 12),(5,.any),(14,.any)],[]⟩ ⟨[(4,.any)],[]⟩ (λq1=>([(0,.im 1 x.1),(1,.im 12 x.2),(5,I_ q1)],[])) (λp=>([(0,.im 1 x.1),(1,.im 12 x.2),(5,I_ p),(14,B_ false)],[])) (λp=>([(4,B_ false)],[])) n (ybc n x v1)
def yfu (n:Nat)(x:Ycp):Pt P_ Ty_ [] Bool:=.ite ((x.2.length:Int) != (x.1.length:Int)) (.leaf false) (.loopR (V:=Unit) (zs9 n x) () (0:Int) (λ(v1:Unit) (y4:Int)=>.leaf true) λ(v1:Unit) (z1:Unit)=>.leaf false)
def y6g (n:Nat):Con P_ Ty_:=zg (X:=Ycp) (R:=Bool) (pro:=[]) (zz1 n) 74 zz2 (λx=>.two .no (.two .no (.two (.two .no (.two (.loop Unit (zs9 n x) true ⟨[(0,.im 1),(1,.im 12),(5,.any)],[]⟩) .no)) .no))) [.im 1,.im 12] [] [] ⟨[(4,.any)],[]⟩ [] true (λx=>[.im 1 x.1,.im 12 x.2]) (λx=>[]) (λy=>([(4,B_ y)],[])) (λy=>B_ y) (λy=>[]) (yfu n)
def yfy (n:Nat):Cx P_ Ty_:=⟨[zi7 n],[],[],[]⟩
abbrev yfz:List (List Nat):=[[2,3],[2,3,5],[2,3,5],[2,3,5],[2,3,5],[4],[2,3,31],[4],[2,3,35],[2,3,35],[2,3,35],[2,3,35],[4],[4]]
def zsf (x:Yai)(p:Bool):EH Ty_:=([(2,.pt 2 [] 0 0),(3,.pt 3 [] 0 0),(5,B_ p)],[(2,.lit 4 [[.im 1 x.1.g_,.im 2 x.1.c_,.im 3 x.1.e_,.im 4 x.1.d_]]),(3,.lit 7 [[I_ x.2.a_,I_ x.2.D_,I_ x.2.A_,I_ x.2.B_,I_ x.2.C_,I_ x.2.N_,.sc (.int .u32 x.2.m_)]])])
def zsg (x:Yai)(p:Bool):EH Ty_:=([(2,.pt 2 [] 0 0),(3,.pt 3 [] 0 0),(5,B_ p)],[(2,.lit 4 [[.im 1 x.1.g_,.im 2 x.1.c_,.im 3 x.1.e_,.im 4 x.1.d_]]),(3,.lit 7 [[I_ x.2.a_,I_ x.2.D_,I_ x.2.A_,I_ x.2.B_,I_ x.2.C_,I_ x.2.N_,.sc (.int .u32 x.2.m_)]])])
def zsh (x:Yai)(p:Bool):EH Ty_:=([(2,.pt 2 [] 0 0),(3,.pt 3 [] 0 0),(35,B_ p)],[(2,.lit 4 [[.im 1 x.1.g_,.im 2 x.1.c_,.im 3 x.1.e_,.im 4 x.1.d_]]),(3,.lit 7 [[I_ x.2.a_,I_ x.2.D_,I_ x.2.A_,I_ x.2.B_,I_ x.2.C_,I_ x.2.N_,.sc (.int .u32 x.2.m_)]])])
def yg0 (n:Nat)(x:Yai):Pt P_ Ty_ [] Int:=.join (S:=Bool) (zsg x) (.join (S:=Bool) (zsf x) (.ite (decide (x.2.a_>=(3:Int))) (.leaf (.inl (decide (x.2.a_<=(15:Int))))) (.leaf (.inl false))) λs1=>.ite s1 (.leaf (.inl true)) (.ite (x.2.a_==29) (.leaf (.inl true)) (.ite (x.2.a_==30) (.leaf (.inl true)) (.leaf (.inl (x.2.a_==32)))))) λs2=>.ite s2 (.bnd (idx x.1.c_ x.2.D_) λy1=>.call (zi7 n) (x.1,y1) λ(y2:Int)=>.leaf y2) (.ite (x.2.a_==16) (.leaf (62:Int)) (.join (S:=Bool) (zsh x) (.ite (x.2.a_==31) (.leaf (.inl true)) (.ite (x.2.a_==33) (.leaf (.inl true)) (.ite (x.2.a_==19) (.leaf (.inl true)) (.leaf (.inl (x.2.a_==20)))))) λs3=>.ite s3 (.bnd (idx x.1.c_ x.2.A_) λy3=>.call (zi7 n) (x.1,y3) λ(y4:Int)=>.leaf y4) (.leaf (1:Int))))
def yji (n:Nat):Con P_ Ty_:=zg (X:=Yai) (R:=Int) (pro:=[]) (yfy n) 75 yfz (λx=>.two .no (.two (.two (.join Bool (zsg x) ⟨[(2,.ref 2),(3,.ref 3),(5,.any)],[(2,.any),(3,.any)]⟩ (.join Bool (zsf x) ⟨[(2,.ref 2),(3,.ref 3),(5,.any)],[(2,.any),(3,.any)]⟩ .no .no) (.two .no (.two .no (.two .no (.join Bool (zsh x) ⟨[(2,.ref 2),(3,.ref 3),(35,.any)],[(2,.any),(3,.any)]⟩ .no .no))))) .no) .no)) [.ag [.im 1,.im 2,.im 3,.im 4],.ag [.any,.any,.any,.any,.any,.any,.any]] [] [] ⟨[(4,.any)],[]⟩ [] true (λx=>[.ag [.im 1 x.1.g_,.im 2 x.1.c_,.im 3 x.1.e_,.im 4 x.1.d_],.ag [I_ x.2.a_,I_ x.2.D_,I_ x.2.A_,I_ x.2.B_,I_ x.2.C_,I_ x.2.N_,.sc (.int .u32 x.2.m_)]]) (λx=>[]) (λy=>([(4,I_ y)],[])) (λy=>I_ y) (λy=>[]) (yg0 n)
def yhj (n:Nat):Cx P_ Ty_:=⟨[],[],[],[]⟩
abbrev yhk:List (List Nat):=[[0],[3],[3,4],[3,4],[3,4],[3,4],[3,4],[2],[3,10],[3,10],[3,10],[3,10],[3,10],[3,10],[3,10],[2],[18],[2],[2]]
def zt5 (x:Int)(p:Bool):EH Ty_:=([(3,I_ x),(4,B_ p)],[])
def zt6 (x:Int)(p:Bool):EH Ty_:=([(3,I_ x),(10,B_ p)],[])
def yhl (n:Nat)(x:Int):Pt P_ Ty_ [] Int:=.join (S:=Bool) (zt5 x) (.ite (x==3) (.leaf (.inl true)) (.ite (x==11) (.leaf (.inl true)) (.ite (x==12) (.leaf (.inl true)) (.ite (x==13) (.leaf (.inl true)) (.leaf (.inl (x==14))))))) λs1=>.ite s1 (.leaf (1:Int)) (.join (S:=Bool) (zt6 x) (.ite (x==4) (.leaf (.inl true)) (.ite (x==5) (.leaf (.inl true)) (.ite (x==6) (.leaf (.inl true)) (.ite (x==7) (.leaf (.inl true)) (.ite (x==8) (.leaf (.inl true)) (.ite (x==9) (.leaf (.inl true)) (.leaf (.inl (x==10))))))))) λs2=>.ite s2 (.leaf (2:Int)) (.ite (x==15) (.leaf (3:Int)) (.leaf (0:Int))))
def zwr (n:Nat):Con P_ Ty_:=zg (X:=Int) (R:=Int) (pro:=[]) (yhj n) 101 yhk (λx=>.two .no (.two (.two .no (.two (.join Bool (zt5 x) ⟨[(3,.any),(4,.any)],[]⟩ .no (.two .no (.join Bool (zt6 x) ⟨[(3,.any),(10,.any)],[]⟩ .no .no))) .no)) .no)) [.any] [] [] ⟨[(2,.any)],[]⟩ [] true (λx=>[I_ x]) (λx=>[]) (λy=>([(2,I_ y)],[])) (λy=>I_ y) (λy=>[]) (yhl n)
def yhm (n:Nat):Cx P_ Ty_:=⟨[],[],[],[]⟩
abbrev yhn:List (List Nat):=[[0,1],[0,1,7],[4],[4]]
def yho (n:Nat)(x:Yau):Pt P_ Ty_ [] Int:=.ite ((x.1.length:Int)==1) (.bnd (idx x.1 (0:Int)) λy1=>.leaf y1) (.bnd (idx x.1 x.2) λy2=>.leaf y2)
def yjr (n:Nat):Con P_ Ty_:=zg (X:=Yau) (R:=Int) (pro:=[]) (yhm n) 108 yhn (λx=>.no) [.im 6,.any] [] [] ⟨[(4,.any)],[]⟩ [] true (λx=>[.im 6 x.1,I_ x.2]) (λx=>[]) (λy=>([(4,I_ y)],[])) (λy=>I_ y) (λy=>[]) (yho n)
def zzo (n:Nat):Cx P_ Ty_:=⟨[],[],[],[]⟩
abbrev zzp:List (List Nat):=[[1,2],[1,2,5],[1,2],[1,2],[2]]
def ybp (n:Nat)(x:Xm)(v1:Unit)(q1:Yaa):Pt P_ Ty_ [] (Bo (Yaa) (Yaa) Empty):=.ite (decide (q1.1<(8388608:Int))) (.leaf (.go ((u64.wrap (q1.1 * (2:Int))),(i64.wrap (q1.2 - (1:Int)))))) (.leaf (.out (q1.1,q1.2)))
def ztb (n:Nat)(x:Xm)(v1:Unit):z16 P_ Ty_ []:=z1f (X:=Yaa) (Y:=Yaa) (Z:=Empty) (zzo n) (z18 [1,0,0,0] (fnC P_ 128 zzp)) (λq1=>.no) 0 false ⟨[(1,.ref 1),(2,.ref 2)],[(1,.any),(2,.any)]⟩ ⟨[(1,.ref 1),(2,.ref 2),(5,.any)],[(1,.any),(2,.any)]⟩ ⟨[],[]⟩ (λq1=>([(1,.pt 1 [] 0 0),(2,.pt 2 [] 0 0)],[(1,.lit 5 [[B_ x.O_,.sc (.int .u64 q1.1),I_ q1.2,B_ x.R_,B_ x.Q_]]),(2,.lit 5 [[B_ false,.sc (.int .u64 (0:Int)),I_ (0:Int),B_ false,B_ false]])])) (λp=>([(1,.pt 1 [] 0 0),(2,.pt 2 [] 0 0),(5,B_ false)],[(1,.lit 5 [[B_ x.O_,.sc (.int .u64 p.1),I_ p.2,B_ x.R_,B_ x.Q_]]),(2,.lit 5 [[B_ false,.sc (.int .u64 (0:Int)),I_ (0:Int),B_ false,B_ false]])])) (λp=>nomatch p) n (ybp n x v1)
def yht (n:Nat)(x:Xm):Pt P_ Ty_ [] (Yah):=.loop (V:=Unit) (ztb n x) () (x.M_,x.E_) λ(v1:Unit) (y1:Yaa)=>.leaf (x.O_,y1.1,y1.2,x.R_,x.Q_)
def zpq (n:Nat):Con P_ Ty_:=zg (X:=Xm) (R:=Yah) (pro:=[]) (zzo n) 128 zzp (λx=>.two .no (.two (.two (.loop Unit (ztb n x) false ⟨[(1,.ref 1),(2,.ref 2)],[(1,.any),(2,.any)]⟩) .no) .no)) [.ag [.any,.any,.any,.any,.any]] [] [] ⟨[(2,.ref 100000)],[(100000,.any)]⟩ [] true (λx=>[.ag [B_ x.O_,.sc (.int .u64 x.M_),I_ x.E_,B_ x.R_,B_ x.Q_]]) (λx=>[]) (λy=>([(2,.pt 100000 [] 0 0)],[(100000,.lit 5 [[B_ y.1,.sc (.int .u64 y.2.1),I_ y.2.2.1,B_ y.p3,B_ y.q4]])])) (λy=>.ag [B_ y.1,.sc (.int .u64 y.2.1),I_ y.2.2.1,B_ y.p3,B_ y.q4]) (λy=>[]) (yht n)
def ygg (n:Nat):Cx P_ Ty_:=⟨[],[],[],[]⟩
abbrev ygh:List (List Nat):=[[0],[3],[2],[2]]
def ygi (n:Nat)(x:Bool):Pt P_ Ty_ [] Int:=.ite x (.leaf (2147483648:Int)) (.leaf (0:Int))
def zi8 (n:Nat):Con P_ Ty_:=zg (X:=Bool) (R:=Int) (pro:=[]) (ygg n) 114 ygh (λx=>.no) [.any] [] [] ⟨[(2,.any)],[]⟩ [] true (λx=>[B_ x]) (λx=>[]) (λy=>([(2,.sc (.int .u64 y))],[])) (λy=>.sc (.int .u64 y)) (λy=>[]) (ygi n)
def ygm (n:Nat):Cx P_ Ty_:=⟨[zi8 n],[],[],[]⟩
abbrev ygn:List (List Nat):=[[0],[2]]
def ygo (n:Nat)(x:Bool):Pt P_ Ty_ [] Int:=.call (zi8 n) x λ(y1:Int)=>.leaf (i64.wrap y1)
def zec (n:Nat):Con P_ Ty_:=zg (X:=Bool) (R:=Int) (pro:=[]) (ygm n) 112 ygn (λx=>.no) [.any] [] [] ⟨[(2,.any)],[]⟩ [] true (λx=>[B_ x]) (λx=>[]) (λy=>([(2,I_ y)],[])) (λy=>I_ y) (λy=>[]) (ygo n)
def zz9 (n:Nat):Cx P_ Ty_:=⟨[],[],[],[]⟩
abbrev zza:List (List Nat):=[[0],[0,3],[0,3,5],[0,3],[0,3],[2]]
def ybk (n:Nat)(x:Int)(v1:Unit)(q1:Yaa):Pt P_ Ty_ [] (Bo (Yaa) (Yaa) Empty):=.ite (decide (q1.1 > (0:Int))) (.leaf (.go ((q1.1.fdiv (2 ^ min (1:Int).toNat u64.bits)),(i64.wrap (q1.2+(1:Int)))))) (.leaf (.out (q1.1,q1.2)))
def zso (n:Nat)(x:Int)(v1:Unit):z16 P_ Ty_ []:=z1f (X:=Yaa) (Y:=Yaa) (Z:=Empty) (zz9 n) (z18 [1,1,0,0,0] (fnC P_ 102 zza)) (λq1=>.no) 0 false ⟨[(0,.any),(3,.any)],[]⟩ ⟨[(0,.any),(3,.any),(5,.any)],[]⟩ ⟨[],[]⟩ (λq1=>([(0,.sc (.int .u64 q1.1)),(3,I_ q1.2)],[])) (λp=>([(0,.sc (.int .u64 p.1)),(3,I_ p.2),(5,B_ false)],[])) (λp=>nomatch p) n (ybk n x v1)
def yg6 (n:Nat)(x:Int):Pt P_ Ty_ [] Int:=.loop (V:=Unit) (zso n x) () (x,(0:Int)) λ(v1:Unit) (y1:Yaa)=>.leaf y1.2
def zwp (n:Nat):Con P_ Ty_:=zg (X:=Int) (R:=Int) (pro:=[]) (zz9 n) 102 zza (λx=>.two .no (.two .no (.two (.two (.loop Unit (zso n x) false ⟨[(0,.any),(3,.any)],[]⟩) .no) .no))) [.any] [] [] ⟨[(2,.any)],[]⟩ [] true (λx=>[.sc (.int .u64 x)]) (λx=>[]) (λy=>([(2,I_ y)],[])) (λy=>I_ y) (λy=>[]) (yg6 n)
def ygp (n:Nat):Cx P_ Ty_:=⟨[],[],[],[]⟩
abbrev ygq:List (List Nat):=[[0,1],[0,1,9],[4],[0,1,5],[0,1,5,6],[0,1,5,6,12],[0,1,5],[1,5,6],[5,6,7],[5,39],[5],[4]]
def zst (x:Yaa)(p:Yaa):EH Ty_:=([(1,I_ x.2),(5,.sc (.int .u64 p.1)),(6,.sc (.int .u64 p.2))],[])
def zsu (x:Yaa)(p:Yag):EH Ty_:=([(5,.sc (.int .u64 p.1)),(39,B_ p.2)],[])
def ygr (n:Nat)(x:Yaa):Pt P_ Ty_ [] Int:=.ite (decide (x.2 > (64:Int))) (.leaf (0:Int)) (.join (S:=Yaa) (zst x) (.ite (decide (x.2<(64:Int))) (.need (0<=(u64.wrap x.2)) (.need (0<=(u64.wrap x.2)) (.leaf (.inl ((x.1.fdiv (2 ^ min (u64.wrap x.2).toNat u64.bits)),(u64.wrap (BitVec.ofInt u64.bits x.1 &&& BitVec.ofInt u64.bits (u64.wrap ((u64.wrap ((1:Int) * 2 ^ min (u64.wrap x.2).toNat u64.bits)) - (1:Int)))).toNat)))))) (.leaf (.inl ((0:Int),x.1)))) λs1=>.need (0<=(u64.wrap (i64.wrap (x.2 - (1:Int))))) (.join (S:=Yag) (zsu x) (.ite (decide (s1.2 > (u64.wrap ((1:Int) * 2 ^ min (u64.wrap (i64.wrap (x.2 - (1:Int)))).toNat u64.bits)))) (.leaf (.inl (s1.1,true))) (.ite (s1.2==(u64.wrap ((1:Int) * 2 ^ min (u64.wrap (i64.wrap (x.2 - (1:Int)))).toNat u64.bits))) (.leaf (.inl (s1.1,((s1.1.tmod (2:Int))==1)))) (.leaf (.inl (s1.1,false))))) λs2=>.ite s2.2 (.leaf (u64.wrap (s2.1+(1:Int)))) (.leaf s2.1)))
def yjl (n:Nat):Con P_ Ty_:=zg (X:=Yaa) (R:=Int) (pro:=[]) (ygp n) 113 ygq (λx=>.two .no (.two .no (.two .no (.two .no (.join (Yaa) (zst x) ⟨[(1,.any),(5,.any),(6,.any)],[]⟩ .no (.two .no (.two (.join (Yag) (zsu x) ⟨[(5,.any),(39,.any)],[]⟩ .no .no) .no))))))) [.any,.any] [] [] ⟨[(4,.any)],[]⟩ [] true (λx=>[.sc (.int .u64 x.1),I_ x.2]) (λx=>[]) (λy=>([(4,.sc (.int .u64 y))],[])) (λy=>.sc (.int .u64 y)) (λy=>[]) (ygr n)
def ygd (n:Nat):Cx P_ Ty_:=⟨[zi8 n],[],[],[]⟩
abbrev yge:List (List Nat):=[[0],[2]]
def ygf (n:Nat)(x:Bool):Pt P_ Ty_ [] Int:=.call (zi8 n) x λ(y1:Int)=>.leaf (i64.wrap (u64.wrap (y1+(2139095040:Int))))
def zeb (n:Nat):Con P_ Ty_:=zg (X:=Bool) (R:=Int) (pro:=[]) (ygd n) 111 yge (λx=>.no) [.any] [] [] ⟨[(2,.any)],[]⟩ [] true (λx=>[B_ x]) (λx=>[]) (λy=>([(2,I_ y)],[])) (λy=>I_ y) (λy=>[]) (ygf n)
def ygj (n:Nat):Cx P_ Ty_:=⟨[zec n,zwp n,yjl n,zi8 n,zeb n],[],[],[]⟩
abbrev ygk:List (List Nat):=[[0,1,2],[0,1,2,12],[6],[0,1,2,7],[0,1,7,8],[0,1,7,8],[0,1,7,8,26],[0,7,9],[0,7,9],[0,7,9,36],[0,7,9],[0,7,9],[0,7,9,40],[6],[0,9,10],[0,9,10,49],[6],[6]]
def zsr (x:Ybk)(p:Yaa):EH Ty_:=([(0,B_ x.1),(7,I_ p.1),(9,.sc (.int .u64 p.2))],[])
def zss (x:Ybk)(p:Yaa):EH Ty_:=([(0,B_ x.1),(7,I_ p.1),(9,.sc (.int .u64 p.2))],[])
def ygl (n:Nat)(x:Ybk):Pt P_ Ty_ [] Int:=.ite (x.2.1==0) (.call (zec n) x.1 λ(y1:Int)=>.leaf y1) (.call (zwp n) x.2.1 λ(y2:Int)=>.join (S:=Yaa) (zsr x) (.ite (decide ((i64.wrap ((if (-149:Int) > (i64.wrap ((i64.wrap (x.2.2+y2)) - (24:Int))) then (-149:Int) else (i64.wrap ((i64.wrap (x.2.2+y2)) - (24:Int)))) - x.2.2))<=(0:Int))) (.need (0<=(u64.wrap (i64.wrap (0 - (i64.wrap ((if (-149:Int) > (i64.wrap ((i64.wrap (x.2.2+y2)) - (24:Int))) then (-149:Int) else (i64.wrap ((i64.wrap (x.2.2+y2)) - (24:Int)))) - x.2.2)))))) (.leaf (.inl ((if (-149:Int) > (i64.wrap ((i64.wrap (x.2.2+y2)) - (24:Int))) then (-149:Int) else (i64.wrap ((i64.wrap (x.2.2+y2)) - (24:Int)))),(u64.wrap (x.2.1 * 2 ^ min (u64.wrap (i64.wrap (0 - (i64.wrap ((if (-149:Int) > (i64.wrap ((i64.wrap (x.2.2+y2)) - (24:Int))) then (-149:Int) else (i64.wrap ((i64.wrap (x.2.2+y2)) - (24:Int)))) - x.2.2))))).toNat u64.bits)))))) (.call (yjl n) (x.2.1,(i64.wrap ((if (-149:Int) > (i64.wrap ((i64.wrap (x.2.2+y2)) - (24:Int))) then (-149:Int) else (i64.wrap ((i64.wrap (x.2.2+y2)) - (24:Int)))) - x.2.2))) λ(y3:Int)=>.leaf (.inl ((if (-149:Int) > (i64.wrap ((i64.wrap (x.2.2+y2)) - (24:Int))) then (-149:Int) else (i64.wrap ((i64.wrap (x.2.2+y2)) - (24:Int)))),y3)))) λs1=>.join (S:=Yaa) (zss x) (.ite (s1.2==16777216) (.leaf (.inl ((i64.wrap (s1.1+(1:Int))),(8388608:Int)))) (.leaf (.inl (s1.1,s1.2)))) λs2=>.ite (decide (s2.2<(8388608:Int))) (.call (zi8 n) x.1 λ(y4:Int)=>.leaf (i64.wrap (u64.wrap (y4+s2.2)))) (.ite (decide ((i64.wrap (s2.1+(150:Int)))>=(255:Int))) (.call (zeb n) x.1 λ(y5:Int)=>.leaf y5) (.call (zi8 n) x.1 λ(y6:Int)=>.leaf (i64.wrap (u64.wrap ((u64.wrap ((u64.wrap (y6+(u64.wrap ((u64.wrap (i64.wrap (s2.1+(150:Int)))) * 2 ^ min (23:Int).toNat u64.bits))))+s2.2)) - (8388608:Int)))))))
def z78 (n:Nat):Con P_ Ty_:=zg (X:=Ybk) (R:=Int) (pro:=[]) (ygj n) 104 ygk (λx=>.two .no (.two .no (.two .no (.two .no (.two .no (.join (Yaa) (zsr x) ⟨[(0,.any),(7,.any),(9,.any)],[]⟩ .no (.join (Yaa) (zss x) ⟨[(0,.any),(7,.any),(9,.any)],[]⟩ .no .no))))))) [.any,.any,.any] [] [] ⟨[(6,.any)],[]⟩ [] true (λx=>[B_ x.1,.sc (.int .u64 x.2.1),I_ x.2.2]) (λx=>[]) (λy=>([(6,I_ y)],[])) (λy=>I_ y) (λy=>[]) (ygl n)
def zzm (n:Nat):Cx P_ Ty_:=⟨[k69 n,zpq n,z78 n],[],[],[]⟩
abbrev zzn:List (List Nat):=[[0],[0,3],[0,3,11],[2],[0,3,14],[2],[0,3,24],[2],[0,3,27],[2],[3],[3,4],[4,5],[4,5,41],[4,5],[4,5],[4,5,6],[4,5,6,7],[4,5,6,7,47],[4,5,6,7,58],[4,5,6,7],[4,5,6,7],[4,5,6,8],[5,8,68],[5,8],[2]]
def zt8 (x:Int)(p:Ycw):EH Ty_:=([(0,I_ x),(3,.pt 3 [] 0 0),(14,B_ p.1)],[(3,.lit 5 [[B_ p.2.1,.sc (.int .u64 p.2.2.1),I_ p.p3,B_ p.p4,B_ p.q5]])])
def zt9 (x:Int)(p:Yaa):EH Ty_:=([(4,.sc (.int .u64 p.1)),(5,I_ p.2)],[])
def zta (x:Int)(p:Yaa):EH Ty_:=([(5,I_ p.1),(8,.sc (.int .u64 p.2))],[])
def ybo (n:Nat)(x:Int)(v1:Yaa)(q1:Yaa):Pt P_ Ty_ [] (Bo (Yaa) (Yaa) Empty):=.ite (decide (q1.2 > (0:Int))) (.ite (decide ((u64.wrap ((u64.wrap (q1.1+q1.2)) * (u64.wrap (q1.1+q1.2))))<=v1.1)) (.leaf (.go ((u64.wrap (q1.1+q1.2)),(u64.wrap (q1.2.tdiv (2:Int)))))) (.leaf (.go (q1.1,(u64.wrap (q1.2.tdiv (2:Int))))))) (.leaf (.out (q1.1,q1.2)))
def zt7 (n:Nat)(x:Int)(v1:Yaa):z16 P_ Ty_ []:=z1f (X:=Yaa) (Y:=Yaa) (Z:=Empty) (zzm n) (z18 [1,1,1,1,1,1,1,1,0,1,0,0] (fnC P_ 118 zzn)) (λq1=>.no) 1 false ⟨[(4,.any),(5,.any),(6,.any),(7,.any)],[]⟩ ⟨[(4,.any),(5,.any),(6,.any),(7,.any),(47,.any)],[]⟩ ⟨[],[]⟩ (λq1=>([(4,.sc (.int .u64 v1.1)),(5,I_ v1.2),(6,.sc (.int .u64 q1.1)),(7,.sc (.int .u64 q1.2))],[])) (λp=>([(4,.sc (.int .u64 v1.1)),(5,I_ v1.2),(6,.sc (.int .u64 p.1)),(7,.sc (.int .u64 p.2)),(47,B_ false)],[])) (λp=>nomatch p) n (ybo n x v1)
def yhs (n:Nat)(x:Int):Pt P_ Ty_ [] Int:=.call (k69 n) x λ(y1:Yah)=>.ite y1.q4 (.leaf (2143289344:Int)) (.join (S:=Ycw) (zt8 x) (.ite (!y1.p3) (.leaf (.inl ((y1.2.1==0),y1.1,y1.2.1,y1.2.2.1,y1.p3,y1.q4))) (.leaf (.inl (false,y1.1,y1.2.1,y1.2.2.1,y1.p3,y1.q4)))) λs1=>.ite s1.1 (.leaf x) (.ite s1.2.1 (.leaf (2143289344:Int)) (.ite s1.p4 (.leaf x) (.call (zpq n) (⟨s1.2.1,s1.2.2.1,s1.p3,s1.p4,s1.q5⟩:Xm) λ(y2:Yah)=>.join (S:=Yaa) (zt9 x) (.ite (((i64.wrap (y2.2.2.1 - (36:Int))).tmod (2:Int)) != (0:Int)) (.leaf (.inl ((u64.wrap ((u64.wrap (y2.2.1 * 2 ^ min (36:Int).toNat u64.bits)) * (2:Int))),(i64.wrap ((i64.wrap (y2.2.2.1 - (36:Int))) - (1:Int)))))) (.leaf (.inl ((u64.wrap (y2.2.1 * 2 ^ min (36:Int).toNat u64.bits)),(i64.wrap (y2.2.2.1 - (36:Int))))))) λs2=>.loop (V:=Yaa) (zt7 n x) (s2.1,s2.2) ((0:Int),(2147483648:Int)) λ(v1:Yaa) (y3:Yaa)=>.join (S:=Yaa) (zta x) (.ite (decide ((u64.wrap (y3.1 * y3.1))<v1.1)) (.leaf (.inl (v1.2,(u64.wrap ((u64.wrap (y3.1 * (2:Int)))+(1:Int)))))) (.leaf (.inl (v1.2,(u64.wrap (y3.1 * (2:Int))))))) λs3=>.call (z78 n) (false,s3.2,(i64.wrap ((i64.wrap (s3.1.tdiv (2:Int))) - (1:Int)))) λ(y4:Int)=>.leaf y4))))
def yjt (n:Nat):Con P_ Ty_:=zg (X:=Int) (R:=Int) (pro:=[]) (zzm n) 118 zzn (λx=>.two .no (.two .no (.two (.two (.two .no (.two .no (.join (Ycw) (zt8 x) ⟨[(0,.any),(3,.ref 3),(14,.any)],[(3,.any)]⟩ .no .no))) .no) (.two .no (.two .no (.two .no (.join (Yaa) (zt9 x) ⟨[(4,.any),(5,.any)],[]⟩ .no (.two .no (.two (.two .no (.two (.loop (Yaa) (zt7 n x) false ⟨[(4,.any),(5,.any),(6,.any),(7,.any)],[]⟩) .no)) (.two .no (.join (Yaa) (zta x) ⟨[(5,.any),(8,.any)],[]⟩ .no .no))))))))))) [.any] [] [] ⟨[(2,.any)],[]⟩ [] true (λx=>[I_ x]) (λx=>[]) (λy=>([(2,I_ y)],[])) (λy=>I_ y) (λy=>[]) (yhs n)
def yhu (n:Nat):Cx P_ Ty_:=⟨[k69 n],[],[],[]⟩
abbrev yhv:List (List Nat):=[[0],[0,5],[2],[2]]
def yhw (n:Nat)(x:Int):Pt P_ Ty_ [] Int:=.call (k69 n) x λ(y1:Yah)=>.ite y1.q4 (.leaf (2143289344:Int)) (.leaf (i64.wrap (BitVec.ofInt i64.bits x ^^^ BitVec.ofInt i64.bits (2147483648:Int)).toNat))
def zws (n:Nat):Con P_ Ty_:=zg (X:=Int) (R:=Int) (pro:=[]) (yhu n) 119 yhv (λx=>.no) [.any] [] [] ⟨[(2,.any)],[]⟩ [] true (λx=>[I_ x]) (λx=>[]) (λy=>([(2,I_ y)],[])) (λy=>I_ y) (λy=>[]) (yhw n)
def yhx (n:Nat):Cx P_ Ty_:=⟨[k69 n],[],[],[]⟩
abbrev yhy:List (List Nat):=[[0],[0,5],[2],[2]]
def yhz (n:Nat)(x:Int):Pt P_ Ty_ [] Int:=.call (k69 n) x λ(y1:Yah)=>.ite y1.q4 (.leaf (2143289344:Int)) (.leaf (i64.wrap (BitVec.ofInt i64.bits x &&& ~~~BitVec.ofInt i64.bits (2147483648:Int)).toNat))
def yju (n:Nat):Con P_ Ty_:=zg (X:=Int) (R:=Int) (pro:=[]) (yhx n) 120 yhy (λx=>.no) [.any] [] [] ⟨[(2,.any)],[]⟩ [] true (λx=>[I_ x]) (λx=>[]) (λy=>([(2,I_ y)],[])) (λy=>I_ y) (λy=>[]) (yhz n)
def yi0 (n:Nat):Cx P_ Ty_:=⟨[],[],[],[]⟩
abbrev yi1:List (List Nat):=[[0],[2]]
def yi2 (n:Nat)(x:Int):Pt P_ Ty_ [] Bool:=.leaf (decide ((x.tmod (2147483648:Int))<(2139095040:Int)))
def yjv (n:Nat):Con P_ Ty_:=zg (X:=Int) (R:=Bool) (pro:=[]) (yi0 n) 122 yi1 (λx=>.no) [.any] [] [] ⟨[(2,.any)],[]⟩ [] true (λx=>[I_ x]) (λx=>[]) (λy=>([(2,B_ y)],[])) (λy=>B_ y) (λy=>[]) (yi2 n)
def yi3 (n:Nat):Cx P_ Ty_:=⟨[],[],[],[]⟩
abbrev yi4:List (List Nat):=[[0],[3],[2],[2]]
def yi5 (n:Nat)(x:Bool):Pt P_ Ty_ [] Int:=.ite x (.leaf (1065353216:Int)) (.leaf (0:Int))
def y6m (n:Nat):Con P_ Ty_:=zg (X:=Bool) (R:=Int) (pro:=[]) (yi3 n) 121 yi4 (λx=>.no) [.any] [] [] ⟨[(2,.any)],[]⟩ [] true (λx=>[B_ x]) (λx=>[]) (λy=>([(2,I_ y)],[])) (λy=>I_ y) (λy=>[]) (yi5 n)
def yga (n:Nat):Cx P_ Ty_:=⟨[],[],[],[]⟩
abbrev ygb:List (List Nat):=[[2,3],[4]]
def ygc (n:Nat)(x:Xm×Xm):Pt P_ Ty_ [] Bool:=.ite x.1.Q_ (.leaf true) (.leaf x.2.Q_)
def z9l (n:Nat):Con P_ Ty_:=zg (X:=Xm×Xm) (R:=Bool) (pro:=[]) (yga n) 110 ygb (λx=>.no) [.ag [.any,.any,.any,.any,.any],.ag [.any,.any,.any,.any,.any]] [] [] ⟨[(4,.any)],[]⟩ [] true (λx=>[.ag [B_ x.1.O_,.sc (.int .u64 x.1.M_),I_ x.1.E_,B_ x.1.R_,B_ x.1.Q_],.ag [B_ x.2.O_,.sc (.int .u64 x.2.M_),I_ x.2.E_,B_ x.2.R_,B_ x.2.Q_]]) (λx=>[]) (λy=>([(4,B_ y)],[])) (λy=>B_ y) (λy=>[]) (ygc n)
def yh2 (n:Nat):Cx P_ Ty_:=⟨[zec n,z78 n],[],[],[]⟩
abbrev yh3:List (List Nat):=[[2,3],[2,3,5],[2,3,5],[2,3,5,7],[2,3,5,7,16],[2,3,6,7],[2,3,6],[2,3,6,7],[2,3,6,7],[3,6,7,32],[3,6,7],[3,6,7,36],[6,7],[6,7],[6,7,48],[4],[6,7,51],[4],[4]]
def zsz (x:Xm×Xm)(p:Yan):EH Ty_:=([(2,.pt 2 [] 0 0),(3,.pt 3 [] 0 0),(6,I_ p.1),(7,I_ p.2.1)],[(2,.lit 5 [[B_ x.1.O_,.sc (.int .u64 x.1.M_),I_ x.1.E_,B_ x.1.R_,B_ x.1.Q_]]),(3,.lit 5 [[B_ x.2.O_,.sc (.int .u64 p.2.2),I_ x.2.E_,B_ x.2.R_,B_ x.2.Q_]])])
def zt0 (x:Xm×Xm)(p:Yan):EH Ty_:=([(3,.pt 3 [] 0 0),(6,I_ p.1),(7,I_ p.2.1)],[(3,.lit 5 [[B_ x.2.O_,.sc (.int .u64 p.2.2),I_ x.2.E_,B_ x.2.R_,B_ x.2.Q_]])])
def zt1 (x:Xm×Xm)(p:Yaa):EH Ty_:=([(6,I_ p.1),(7,I_ p.2)],[])
def yh4 (n:Nat)(x:Xm×Xm):Pt P_ Ty_ [] Int:=.join (S:=Yan) (zsz x) (.ite (decide ((i64.wrap (x.1.E_ - x.2.E_))<=(36:Int))) (.need (0<=(u64.wrap (i64.wrap (x.1.E_ - x.2.E_)))) (.leaf (.inl ((i64.wrap (u64.wrap (x.1.M_ * 2 ^ min (u64.wrap (i64.wrap (x.1.E_ - x.2.E_))).toNat u64.bits))),x.2.E_,x.2.M_)))) (.leaf (.inl ((i64.wrap (u64.wrap (x.1.M_ * 2 ^ min (36:Int).toNat u64.bits))),(i64.wrap (x.1.E_ - (36:Int))),(1:Int))))) λs1=>.join (S:=Yan) (zt0 x) (.ite x.1.O_ (.leaf (.inl ((i64.wrap (0 - s1.1)),s1.2.1,s1.2.2))) (.leaf (.inl (s1.1,s1.2.1,s1.2.2)))) λs2=>.join (S:=Yaa) (zt1 x) (.ite x.2.O_ (.leaf (.inl ((i64.wrap (s2.1 - (i64.wrap s2.2.2))),s2.2.1))) (.leaf (.inl ((i64.wrap (s2.1+(i64.wrap s2.2.2))),s2.2.1)))) λs3=>.ite (s3.1==0) (.call (zec n) false λ(y1:Int)=>.leaf y1) (.ite (decide (s3.1<(0:Int))) (.call (z78 n) (true,(u64.wrap (i64.wrap (0 - s3.1))),s3.2) λ(y2:Int)=>.leaf y2) (.call (z78 n) (false,(u64.wrap s3.1),s3.2) λ(y3:Int)=>.leaf y3))
def yjo (n:Nat):Con P_ Ty_:=zg (X:=Xm×Xm) (R:=Int) (pro:=[]) (yh2 n) 115 yh3 (λx=>.two .no (.two .no (.two .no (.two .no (.join (Yan) (zsz x) ⟨[(2,.ref 2),(3,.ref 3),(6,.any),(7,.any)],[(2,.any),(3,.any)]⟩ .no (.join (Yan) (zt0 x) ⟨[(3,.ref 3),(6,.any),(7,.any)],[(3,.any)]⟩ .no (.join (Yaa) (zt1 x) ⟨[(6,.any),(7,.any)],[]⟩ .no .no))))))) [.ag [.any,.any,.any,.any,.any],.ag [.any,.any,.any,.any,.any]] [] [] ⟨[(4,.any)],[]⟩ [] true (λx=>[.ag [B_ x.1.O_,.sc (.int .u64 x.1.M_),I_ x.1.E_,B_ x.1.R_,B_ x.1.Q_],.ag [B_ x.2.O_,.sc (.int .u64 x.2.M_),I_ x.2.E_,B_ x.2.R_,B_ x.2.Q_]]) (λx=>[]) (λy=>([(4,I_ y)],[])) (λy=>I_ y) (λy=>[]) (yh4 n)
def ygz (n:Nat):Cx P_ Ty_:=⟨[k69 n,z9l n,zeb n,zec n,z78 n,yjo n],[],[],[]⟩
abbrev yh0:List (List Nat):=[[0,1],[1,5],[5,6],[5,6,11],[4],[5,6,30],[4],[5,6,36],[4],[5,6,42],[4],[5,6,58],[4],[5,6,69],[4],[5,6,84],[5,6],[4]]
def zsw (x:Yaa)(p:Yby):EH Ty_:=([(5,.pt 5 [] 0 0),(6,.pt 6 [] 0 0),(11,B_ p.1)],[(5,.lit 5 [[B_ p.2.1,.sc (.int .u64 p.2.2.1),I_ p.p3,B_ p.p4,B_ p.p5]]),(6,.lit 5 [[B_ p.p6,.sc (.int .u64 p.p7),I_ p.p8,B_ p.p9,B_ p.q10]])])
def zsx (x:Yaa)(p:Yby):EH Ty_:=([(5,.pt 5 [] 0 0),(6,.pt 6 [] 0 0),(42,B_ p.1)],[(5,.lit 5 [[B_ p.2.1,.sc (.int .u64 p.2.2.1),I_ p.p3,B_ p.p4,B_ p.p5]]),(6,.lit 5 [[B_ p.p6,.sc (.int .u64 p.p7),I_ p.p8,B_ p.p9,B_ p.q10]])])
def zsy (x:Yaa)(p:Ycx):EH Ty_:=([(5,.pt 5 [] 0 0),(6,.pt 6 [] 0 0)],[(5,.lit 5 [[B_ p.1,.sc (.int .u64 p.2.1),I_ p.2.2.1,B_ p.p3,B_ p.p4]]),(6,.lit 5 [[B_ p.p5,.sc (.int .u64 p.p6),I_ p.p7,B_ p.p8,B_ p.q9]])])
def yh1 (n:Nat)(x:Yaa):Pt P_ Ty_ [] Int:=.call (k69 n) x.1 λ(y1:Yah)=>.call (k69 n) x.2 λ(y2:Yah)=>.join (S:=Yby) (zsw x) (.call (z9l n) ((⟨y1.1,y1.2.1,y1.2.2.1,y1.p3,y1.q4⟩:Xm),(⟨y2.1,y2.2.1,y2.2.2.1,y2.p3,y2.q4⟩:Xm)) λ(y3:Bool)=>.ite y3 (.leaf (.inl (true,y1.1,y1.2.1,y1.2.2.1,y1.p3,y1.q4,y2.1,y2.2.1,y2.2.2.1,y2.p3,y2.q4))) (.ite y1.p3 (.ite y2.p3 (.leaf (.inl ((y1.1 != y2.1),y1.1,y1.2.1,y1.2.2.1,y1.p3,y1.q4,y2.1,y2.2.1,y2.2.2.1,y2.p3,y2.q4))) (.leaf (.inl (false,y1.1,y1.2.1,y1.2.2.1,y1.p3,y1.q4,y2.1,y2.2.1,y2.2.2.1,y2.p3,y2.q4)))) (.leaf (.inl (false,y1.1,y1.2.1,y1.2.2.1,y1.p3,y1.q4,y2.1,y2.2.1,y2.2.2.1,y2.p3,y2.q4))))) λs1=>.ite s1.1 (.leaf (2143289344:Int)) (.ite s1.p4 (.call (zeb n) s1.2.1 λ(y4:Int)=>.leaf y4) (.ite s1.p9 (.call (zeb n) s1.p6 λ(y5:Int)=>.leaf y5) (.join (S:=Yby) (zsx x) (.ite (s1.2.2.1==0) (.leaf (.inl ((s1.p7==0),s1.2.1,s1.2.2.1,s1.p3,s1.p4,s1.p5,s1.p6,s1.p7,s1.p8,s1.p9,s1.q10))) (.leaf (.inl (false,s1.2.1,s1.2.2.1,s1.p3,s1.p4,s1.p5,s1.p6,s1.p7,s1.p8,s1.p9,s1.q10)))) λs2=>.ite s2.1 (.ite s2.2.1 (.call (zec n) s2.p6 λ(y6:Int)=>.leaf y6) (.call (zec n) false λ(y7:Int)=>.leaf y7)) (.ite (s2.2.2.1==0) (.call (z78 n) (s2.p6,s2.p7,s2.p8) λ(y8:Int)=>.leaf y8) (.ite (s2.p7==0) (.call (z78 n) (s2.2.1,s2.2.2.1,s2.p3) λ(y9:Int)=>.leaf y9) (.join (S:=Ycx) (zsy x) (.ite (decide (s2.p3<s2.p8)) (.leaf (.inl (s2.p6,s2.p7,s2.p8,s2.p9,s2.q10,s2.2.1,s2.2.2.1,s2.p3,s2.p4,s2.p5))) (.leaf (.inl (s2.2.1,s2.2.2.1,s2.p3,s2.p4,s2.p5,s2.p6,s2.p7,s2.p8,s2.p9,s2.q10)))) λs3=>.call (yjo n) ((⟨s3.1,s3.2.1,s3.2.2.1,s3.p3,s3.p4⟩:Xm),(⟨s3.p5,s3.p6,s3.p7,s3.p8,s3.q9⟩:Xm)) λ(y10:Int)=>.leaf y10))))))
def zl4 (n:Nat):Con P_ Ty_:=zg (X:=Yaa) (R:=Int) (pro:=[]) (ygz n) 105 yh0 (λx=>.two .no (.two .no (.two .no (.two (.two (.join (Yby) (zsw x) ⟨[(5,.ref 5),(6,.ref 6),(11,.any)],[(5,.any),(6,.any)]⟩ .no (.two .no (.two .no (.two .no (.two .no (.two .no (.join (Yby) (zsx x) ⟨[(5,.ref 5),(6,.ref 6),(42,.any)],[(5,.any),(6,.any)]⟩ .no .no))))))) .no) (.join (Ycx) (zsy x) ⟨[(5,.ref 5),(6,.ref 6)],[(5,.any),(6,.any)]⟩ .no .no))))) [.any,.any] [] [] ⟨[(4,.any)],[]⟩ [] true (λx=>[I_ x.1,I_ x.2]) (λx=>[]) (λy=>([(4,I_ y)],[])) (λy=>I_ y) (λy=>[]) (yh1 n)
def yi6 (n:Nat):Cx P_ Ty_:=⟨[zws n,zl4 n],[],[],[]⟩
abbrev yi7:List (List Nat):=[[0,1],[4]]
def yi8 (n:Nat)(x:Yaa):Pt P_ Ty_ [] Int:=.call (zws n) x.2 λ(y1:Int)=>.call (zl4 n) (x.1,y1) λ(y2:Int)=>.leaf y2
def yjw (n:Nat):Con P_ Ty_:=zg (X:=Yaa) (R:=Int) (pro:=[]) (yi6 n) 123 yi7 (λx=>.no) [.any,.any] [] [] ⟨[(4,.any)],[]⟩ [] true (λx=>[I_ x.1,I_ x.2]) (λx=>[]) (λy=>([(4,I_ y)],[])) (λy=>I_ y) (λy=>[]) (yi8 n)
def yg7 (n:Nat):Cx P_ Ty_:=⟨[k69 n,z9l n,zeb n,z78 n],[],[],[]⟩
abbrev yg8:List (List Nat):=[[0,1],[1,5],[5,6],[5,6,7],[5,6,7,17],[4],[5,6,7,49],[4],[4]]
def zsp (x:Yaa)(p:Yao):EH Ty_:=([(5,.pt 5 [] 0 0),(6,.pt 6 [] 0 0),(7,B_ p.1),(17,B_ p.2.1)],[(5,.lit 5 [[B_ p.2.2.1,.sc (.int .u64 p.p3),I_ p.p4,B_ p.p5,B_ p.p6]]),(6,.lit 5 [[B_ p.p7,.sc (.int .u64 p.p8),I_ p.p9,B_ p.p10,B_ p.q11]])])
def zsq (x:Yaa)(p:Yao):EH Ty_:=([(5,.pt 5 [] 0 0),(6,.pt 6 [] 0 0),(7,B_ p.1),(49,B_ p.2.1)],[(5,.lit 5 [[B_ p.2.2.1,.sc (.int .u64 p.p3),I_ p.p4,B_ p.p5,B_ p.p6]]),(6,.lit 5 [[B_ p.p7,.sc (.int .u64 p.p8),I_ p.p9,B_ p.p10,B_ p.q11]])])
def yg9 (n:Nat)(x:Yaa):Pt P_ Ty_ [] Int:=.call (k69 n) x.1 λ(y1:Yah)=>.call (k69 n) x.2 λ(y2:Yah)=>.join (S:=Yao) (zsp x) (.call (z9l n) ((⟨y1.1,y1.2.1,y1.2.2.1,y1.p3,y1.q4⟩:Xm),(⟨y2.1,y2.2.1,y2.2.2.1,y2.p3,y2.q4⟩:Xm)) λ(y3:Bool)=>.ite y3 (.leaf (.inl ((y1.1 != y2.1),true,y1.1,y1.2.1,y1.2.2.1,y1.p3,y1.q4,y2.1,y2.2.1,y2.2.2.1,y2.p3,y2.q4))) (.ite y1.p3 (.ite (!y2.p3) (.ite (y2.2.1==0) (.leaf (.inl ((y1.1 != y2.1),true,y1.1,y1.2.1,y1.2.2.1,y1.p3,y1.q4,y2.1,y2.2.1,y2.2.2.1,y2.p3,y2.q4))) (.ite y2.p3 (.ite (!y1.p3) (.leaf (.inl ((y1.1 != y2.1),(y1.2.1==0),y1.1,y1.2.1,y1.2.2.1,y1.p3,y1.q4,y2.1,y2.2.1,y2.2.2.1,y2.p3,y2.q4))) (.leaf (.inl ((y1.1 != y2.1),false,y1.1,y1.2.1,y1.2.2.1,y1.p3,y1.q4,y2.1,y2.2.1,y2.2.2.1,y2.p3,y2.q4)))) (.leaf (.inl ((y1.1 != y2.1),false,y1.1,y1.2.1,y1.2.2.1,y1.p3,y1.q4,y2.1,y2.2.1,y2.2.2.1,y2.p3,y2.q4))))) (.ite y2.p3 (.ite (!y1.p3) (.leaf (.inl ((y1.1 != y2.1),(y1.2.1==0),y1.1,y1.2.1,y1.2.2.1,y1.p3,y1.q4,y2.1,y2.2.1,y2.2.2.1,y2.p3,y2.q4))) (.leaf (.inl ((y1.1 != y2.1),false,y1.1,y1.2.1,y1.2.2.1,y1.p3,y1.q4,y2.1,y2.2.1,y2.2.2.1,y2.p3,y2.q4)))) (.leaf (.inl ((y1.1 != y2.1),false,y1.1,y1.2.1,y1.2.2.1,y1.p3,y1.q4,y2.1,y2.2.1,y2.2.2.1,y2.p3,y2.q4))))) (.ite y2.p3 (.ite (!y1.p3) (.leaf (.inl ((y1.1 != y2.1),(y1.2.1==0),y1.1,y1.2.1,y1.2.2.1,y1.p3,y1.q4,y2.1,y2.2.1,y2.2.2.1,y2.p3,y2.q4))) (.leaf (.inl ((y1.1 != y2.1),false,y1.1,y1.2.1,y1.2.2.1,y1.p3,y1.q4,y2.1,y2.2.1,y2.2.2.1,y2.p3,y2.q4)))) (.leaf (.inl ((y1.1 != y2.1),false,y1.1,y1.2.1,y1.2.2.1,y1.p3,y1.q4,y2.1,y2.2.1,y2.2.2.1,y2.p3,y2.q4)))))) λs1=>.ite s1.2.1 (.leaf (2143289344:Int)) (.join (S:=Yao) (zsq x) (.ite s1.p5 (.leaf (.inl (s1.1,true,s1.2.2.1,s1.p3,s1.p4,s1.p5,s1.p6,s1.p7,s1.p8,s1.p9,s1.p10,s1.q11))) (.leaf (.inl (s1.1,s1.p10,s1.2.2.1,s1.p3,s1.p4,s1.p5,s1.p6,s1.p7,s1.p8,s1.p9,s1.p10,s1.q11)))) λs2=>.ite s2.2.1 (.call (zeb n) s2.1 λ(y4:Int)=>.leaf y4) (.call (z78 n) (s2.1,(u64.wrap (s2.p3 * s2.p8)),(i64.wrap (s2.p4+s2.p9))) λ(y5:Int)=>.leaf y5))
def zpp (n:Nat):Con P_ Ty_:=zg (X:=Yaa) (R:=Int) (pro:=[]) (yg7 n) 103 yg8 (λx=>.two .no (.two .no (.two .no (.two .no (.two (.two (.join (Yao) (zsp x) ⟨[(5,.ref 5),(6,.ref 6),(7,.any),(17,.any)],[(5,.any),(6,.any)]⟩ .no (.two .no (.join (Yao) (zsq x) ⟨[(5,.ref 5),(6,.ref 6),(7,.any),(49,.any)],[(5,.any),(6,.any)]⟩ .no .no))) .no) .no))))) [.any,.any] [] [] ⟨[(4,.any)],[]⟩ [] true (λx=>[I_ x.1,I_ x.2]) (λx=>[]) (λy=>([(4,I_ y)],[])) (λy=>I_ y) (λy=>[]) (yg9 n)
def yi9 (n:Nat):Cx P_ Ty_:=⟨[k69 n,z9l n,zeb n,zec n,zpq n,z78 n],[],[],[]⟩
abbrev yia:List (List Nat):=[[0,1],[1,5],[5,6],[5,6,7],[5,6,7,20],[4],[5,6,7,52],[4],[5,6,7,67],[4],[5,6,7],[5,6,7],[5,6,7,8],[5,6,7,8,9],[5,6,7,9,10],[5,6,7,9,10],[5,6,7,9,95],[5,6,7,9],[4]]
def ztc (x:Yaa)(p:Yao):EH Ty_:=([(5,.pt 5 [] 0 0),(6,.pt 6 [] 0 0),(7,B_ p.1),(20,B_ p.2.1)],[(5,.lit 5 [[B_ p.2.2.1,.sc (.int .u64 p.p3),I_ p.p4,B_ p.p5,B_ p.p6]]),(6,.lit 5 [[B_ p.p7,.sc (.int .u64 p.p8),I_ p.p9,B_ p.p10,B_ p.q11]])])
def ztd (x:Yaa)(p:Yao):EH Ty_:=([(5,.pt 5 [] 0 0),(6,.pt 6 [] 0 0),(7,B_ p.1),(52,B_ p.2.1)],[(5,.lit 5 [[B_ p.2.2.1,.sc (.int .u64 p.p3),I_ p.p4,B_ p.p5,B_ p.p6]]),(6,.lit 5 [[B_ p.p7,.sc (.int .u64 p.p8),I_ p.p9,B_ p.p10,B_ p.q11]])])
def zte (x:Yaa)(p:Yao):EH Ty_:=([(5,.pt 5 [] 0 0),(6,.pt 6 [] 0 0),(7,B_ p.1),(67,B_ p.2.1)],[(5,.lit 5 [[B_ p.2.2.1,.sc (.int .u64 p.p3),I_ p.p4,B_ p.p5,B_ p.p6]]),(6,.lit 5 [[B_ p.p7,.sc (.int .u64 p.p8),I_ p.p9,B_ p.p10,B_ p.q11]])])
def ztf (x:Yaa)(p:Ycy):EH Ty_:=([(5,.pt 5 [] 0 0),(6,.pt 6 [] 0 0),(7,B_ p.1),(9,.sc (.int .u64 p.2.1))],[(5,.lit 5 [[B_ p.2.2.1,.sc (.int .u64 p.p3),I_ p.p4,B_ p.p5,B_ p.p6]]),(6,.lit 5 [[B_ p.p7,.sc (.int .u64 p.p8),I_ p.p9,B_ p.p10,B_ p.q11]])])
def yib (n:Nat)(x:Yaa):Pt P_ Ty_ [] Int:=.call (k69 n) x.1 λ(y1:Yah)=>.call (k69 n) x.2 λ(y2:Yah)=>.join (S:=Yao) (ztc x) (.call (z9l n) ((⟨y1.1,y1.2.1,y1.2.2.1,y1.p3,y1.q4⟩:Xm),(⟨y2.1,y2.2.1,y2.2.2.1,y2.p3,y2.q4⟩:Xm)) λ(y3:Bool)=>.ite y3 (.leaf (.inl ((y1.1 != y2.1),true,y1.1,y1.2.1,y1.2.2.1,y1.p3,y1.q4,y2.1,y2.2.1,y2.2.2.1,y2.p3,y2.q4))) (.ite y1.p3 (.ite y2.p3 (.leaf (.inl ((y1.1 != y2.1),true,y1.1,y1.2.1,y1.2.2.1,y1.p3,y1.q4,y2.1,y2.2.1,y2.2.2.1,y2.p3,y2.q4))) (.ite (!y1.p3) (.ite (!y2.p3) (.ite (y1.2.1==0) (.leaf (.inl ((y1.1 != y2.1),(y2.2.1==0),y1.1,y1.2.1,y1.2.2.1,y1.p3,y1.q4,y2.1,y2.2.1,y2.2.2.1,y2.p3,y2.q4))) (.leaf (.inl ((y1.1 != y2.1),false,y1.1,y1.2.1,y1.2.2.1,y1.p3,y1.q4,y2.1,y2.2.1,y2.2.2.1,y2.p3,y2.q4)))) (.leaf (.inl ((y1.1 != y2.1),false,y1.1,y1.2.1,y1.2.2.1,y1.p3,y1.q4,y2.1,y2.2.1,y2.2.2.1,y2.p3,y2.q4)))) (.leaf (.inl ((y1.1 != y2.1),false,y1.1,y1.2.1,y1.2.2.1,y1.p3,y1.q4,y2.1,y2.2.1,y2.2.2.1,y2.p3,y2.q4))))) (.ite (!y1.p3) (.ite (!y2.p3) (.ite (y1.2.1==0) (.leaf (.inl ((y1.1 != y2.1),(y2.2.1==0),y1.1,y1.2.1,y1.2.2.1,y1.p3,y1.q4,y2.1,y2.2.1,y2.2.2.1,y2.p3,y2.q4))) (.leaf (.inl ((y1.1 != y2.1),false,y1.1,y1.2.1,y1.2.2.1,y1.p3,y1.q4,y2.1,y2.2.1,y2.2.2.1,y2.p3,y2.q4)))) (.leaf (.inl ((y1.1 != y2.1),false,y1.1,y1.2.1,y1.2.2.1,y1.p3,y1.q4,y2.1,y2.2.1,y2.2.2.1,y2.p3,y2.q4)))) (.leaf (.inl ((y1.1 != y2.1),false,y1.1,y1.2.1,y1.2.2.1,y1.p3,y1.q4,y2.1,y2.2.1,y2.2.2.1,y2.p3,y2.q4)))))) λs1=>.ite s1.2.1 (.leaf (2143289344:Int)) (.join (S:=Yao) (ztd x) (.ite s1.p5 (.leaf (.inl (s1.1,true,s1.2.2.1,s1.p3,s1.p4,s1.p5,s1.p6,s1.p7,s1.p8,s1.p9,s1.p10,s1.q11))) (.ite (!s1.p10) (.leaf (.inl (s1.1,(s1.p8==0),s1.2.2.1,s1.p3,s1.p4,s1.p5,s1.p6,s1.p7,s1.p8,s1.p9,s1.p10,s1.q11))) (.leaf (.inl (s1.1,false,s1.2.2.1,s1.p3,s1.p4,s1.p5,s1.p6,s1.p7,s1.p8,s1.p9,s1.p10,s1.q11))))) λs2=>.ite s2.2.1 (.call (zeb n) s2.1 λ(y4:Int)=>.leaf y4) (.join (S:=Yao) (zte x) (.ite s2.p10 (.leaf (.inl (s2.1,true,s2.2.2.1,s2.p3,s2.p4,s2.p5,s2.p6,s2.p7,s2.p8,s2.p9,s2.p10,s2.q11))) (.leaf (.inl (s2.1,(s2.p3==0),s2.2.2.1,s2.p3,s2.p4,s2.p5,s2.p6,s2.p7,s2.p8,s2.p9,s2.p10,s2.q11)))) λs3=>.ite s3.2.1 (.call (zec n) s3.1 λ(y5:Int)=>.leaf y5) (.call (zpq n) (⟨s3.2.2.1,s3.p3,s3.p4,s3.p5,s3.p6⟩:Xm) λ(y6:Yah)=>.call (zpq n) (⟨s3.p7,s3.p8,s3.p9,s3.p10,s3.q11⟩:Xm) λ(y7:Yah)=>.need (y7.2.1≠0) (.need (y7.2.1≠0) (.join (S:=Ycy) (ztf x) (.ite (decide (((u64.wrap (y6.2.1 * 2 ^ min (38:Int).toNat u64.bits)).tmod y7.2.1) > (0:Int))) (.leaf (.inl (s3.1,(u64.wrap ((u64.wrap ((u64.wrap ((u64.wrap (y6.2.1 * 2 ^ min (38:Int).toNat u64.bits)).tdiv y7.2.1)) * (2:Int)))+(1:Int))),y6.1,y6.2.1,y6.2.2.1,y6.p3,y6.q4,y7.1,y7.2.1,y7.2.2.1,y7.p3,y7.q4))) (.leaf (.inl (s3.1,(u64.wrap ((u64.wrap ((u64.wrap (y6.2.1 * 2 ^ min (38:Int).toNat u64.bits)).tdiv y7.2.1)) * (2:Int))),y6.1,y6.2.1,y6.2.2.1,y6.p3,y6.q4,y7.1,y7.2.1,y7.2.2.1,y7.p3,y7.q4)))) λs4=>.call (z78 n) (s4.1,s4.2.1,(i64.wrap ((i64.wrap (s4.p4 - s4.p9)) - (39:Int)))) λ(y8:Int)=>.leaf y8)))))
def yjx (n:Nat):Con P_ Ty_:=zg (X:=Yaa) (R:=Int) (pro:=[]) (yi9 n) 124 yia (λx=>.two .no (.two .no (.two .no (.two .no (.two (.two (.join (Yao) (ztc x) ⟨[(5,.ref 5),(6,.ref 6),(7,.any),(20,.any)],[(5,.any),(6,.any)]⟩ .no (.two .no (.join (Yao) (ztd x) ⟨[(5,.ref 5),(6,.ref 6),(7,.any),(52,.any)],[(5,.any),(6,.any)]⟩ .no (.two .no (.join (Yao) (zte x) ⟨[(5,.ref 5),(6,.ref 6),(7,.any),(67,.any)],[(5,.any),(6,.any)]⟩ .no .no))))) .no) (.two .no (.two .no (.two .no (.two .no (.two .no (.two .no (.join (Ycy) (ztf x) ⟨[(5,.ref 5),(6,.ref 6),(7,.any),(9,.any)],[(5,.any),(6,.any)]⟩ .no .no)))))))))))) [.any,.any] [] [] ⟨[(4,.any)],[]⟩ [] true (λx=>[I_ x.1,I_ x.2]) (λx=>[]) (λy=>([(4,I_ y)],[])) (λy=>I_ y) (λy=>[]) (yib n)
def yh9 (n:Nat):Cx P_ Ty_:=⟨[],[],[],[]⟩
abbrev yha:List (List Nat):=[[0],[0,3],[3,8],[2],[2]]
def yhb (n:Nat)(x:Int):Pt P_ Ty_ [] Int:=.ite ((x.fdiv (2 ^ min (31:Int).toNat i64.bits))==1) (.leaf (i64.wrap ((i64.wrap (0 - (i64.wrap (BitVec.ofInt i64.bits x &&& ~~~BitVec.ofInt i64.bits (2147483648:Int)).toNat))) - (1:Int)))) (.leaf (i64.wrap (BitVec.ofInt i64.bits x &&& ~~~BitVec.ofInt i64.bits (2147483648:Int)).toNat))
def zee (n:Nat):Con P_ Ty_:=zg (X:=Int) (R:=Int) (pro:=[]) (yh9 n) 116 yha (λx=>.no) [.any] [] [] ⟨[(2,.any)],[]⟩ [] true (λx=>[I_ x]) (λx=>[]) (λy=>([(2,I_ y)],[])) (λy=>I_ y) (λy=>[]) (yhb n)
def yh6 (n:Nat):Cx P_ Ty_:=⟨[k69 n,z9l n,zee n],[],[],[]⟩
abbrev yh7:List (List Nat):=[[0,1],[0,1,9],[4],[0,1,14],[4],[4]]
def yh8 (n:Nat)(x:Yaa):Pt P_ Ty_ [] Int:=.call (k69 n) x.1 λ(y1:Yah)=>.call (k69 n) x.2 λ(y2:Yah)=>.call (z9l n) ((⟨y1.1,y1.2.1,y1.2.2.1,y1.p3,y1.q4⟩:Xm),(⟨y2.1,y2.2.1,y2.2.2.1,y2.p3,y2.q4⟩:Xm)) λ(y3:Bool)=>.ite y3 (.leaf (2143289344:Int)) (.call (zee n) x.2 λ(y4:Int)=>.call (zee n) x.1 λ(y5:Int)=>.ite (decide (y4<y5)) (.leaf x.2) (.leaf x.1))
def zwq (n:Nat):Con P_ Ty_:=zg (X:=Yaa) (R:=Int) (pro:=[]) (yh6 n) 106 yh7 (λx=>.no) [.any,.any] [] [] ⟨[(4,.any)],[]⟩ [] true (λx=>[I_ x.1,I_ x.2]) (λx=>[]) (λy=>([(4,I_ y)],[])) (λy=>I_ y) (λy=>[]) (yh8 n)
def yic (n:Nat):Cx P_ Ty_:=⟨[k69 n,z9l n,zee n],[],[],[]⟩
abbrev yid:List (List Nat):=[[0,1],[0,1,9],[4],[0,1,14],[4],[4]]
def yie (n:Nat)(x:Yaa):Pt P_ Ty_ [] Int:=.call (k69 n) x.1 λ(y1:Yah)=>.call (k69 n) x.2 λ(y2:Yah)=>.call (z9l n) ((⟨y1.1,y1.2.1,y1.2.2.1,y1.p3,y1.q4⟩:Xm),(⟨y2.1,y2.2.1,y2.2.2.1,y2.p3,y2.q4⟩:Xm)) λ(y3:Bool)=>.ite y3 (.leaf (2143289344:Int)) (.call (zee n) x.2 λ(y4:Int)=>.call (zee n) x.1 λ(y5:Int)=>.ite (decide (y4 > y5)) (.leaf x.2) (.leaf x.1))
def yjy (n:Nat):Con P_ Ty_:=zg (X:=Yaa) (R:=Int) (pro:=[]) (yic n) 125 yid (λx=>.no) [.any,.any] [] [] ⟨[(4,.any)],[]⟩ [] true (λx=>[I_ x.1,I_ x.2]) (λx=>[]) (λy=>([(4,I_ y)],[])) (λy=>I_ y) (λy=>[]) (yie n)
def yii (n:Nat):Cx P_ Ty_:=⟨[],[],[],[]⟩
abbrev yij:List (List Nat):=[[0],[2]]
def yik (n:Nat)(x:Int):Pt P_ Ty_ [] Bool:=.leaf ((i64.wrap (BitVec.ofInt i64.bits x &&& ~~~BitVec.ofInt i64.bits (2147483648:Int)).toNat)==0)
def zpr (n:Nat):Con P_ Ty_:=zg (X:=Int) (R:=Bool) (pro:=[]) (yii n) 129 yij (λx=>.no) [.any] [] [] ⟨[(2,.any)],[]⟩ [] true (λx=>[I_ x]) (λx=>[]) (λy=>([(2,B_ y)],[])) (λy=>B_ y) (λy=>[]) (yik n)
def yif (n:Nat):Cx P_ Ty_:=⟨[k69 n,z9l n,zpr n,zee n],[],[],[]⟩
abbrev yig:List (List Nat):=[[0,1],[0,1,17],[4],[4]]
def ztg (x:Yaa)(p:Bool):EH Ty_:=([(0,I_ x.1),(1,I_ x.2),(17,B_ p)],[])
def yih (n:Nat)(x:Yaa):Pt P_ Ty_ [] Bool:=.join (S:=Bool) (ztg x) (.call (k69 n) x.1 λ(y1:Yah)=>.call (k69 n) x.2 λ(y2:Yah)=>.call (z9l n) ((⟨y1.1,y1.2.1,y1.2.2.1,y1.p3,y1.q4⟩:Xm),(⟨y2.1,y2.2.1,y2.2.2.1,y2.p3,y2.q4⟩:Xm)) λ(y3:Bool)=>.ite y3 (.leaf (.inl true)) (.call (zpr n) x.1 λ(y4:Bool)=>.ite y4 (.call (zpr n) x.2 λ(y5:Bool)=>.leaf (.inl y5)) (.leaf (.inl false)))) λs1=>.ite s1 (.leaf false) (.call (zee n) x.1 λ(y6:Int)=>.call (zee n) x.2 λ(y7:Int)=>.leaf (decide (y6<y7)))
def yjz (n:Nat):Con P_ Ty_:=zg (X:=Yaa) (R:=Bool) (pro:=[]) (yif n) 126 yig (λx=>.two .no (.two (.join Bool (ztg x) ⟨[(0,.any),(1,.any),(17,.any)],[]⟩ .no .no) .no)) [.any,.any] [] [] ⟨[(4,.any)],[]⟩ [] true (λx=>[I_ x.1,I_ x.2]) (λx=>[]) (λy=>([(4,B_ y)],[])) (λy=>B_ y) (λy=>[]) (yih n)
def yil (n:Nat):Cx P_ Ty_:=⟨[k69 n,zpr n,k65 n],[],[],[]⟩
abbrev yim:List (List Nat):=[[0,1,2],[1,2,13],[6],[6]]
def zth (x:Yan)(p:Bool):EH Ty_:=([(1,I_ x.2.1),(2,I_ x.2.2),(13,B_ p)],[])
def yin (n:Nat)(x:Yan):Pt P_ Ty_ [] Int:=.join (S:=Bool) (zth x) (.call (k69 n) x.1 λ(y1:Yah)=>.ite y1.q4 (.leaf (.inl true)) (.call (zpr n) x.1 λ(y2:Bool)=>.leaf (.inl y2))) λs1=>.ite s1 (.call (k65 n) x.2.2 λ(y3:Int)=>.leaf y3) (.call (k65 n) x.2.1 λ(y4:Int)=>.leaf y4)
def yk0 (n:Nat):Con P_ Ty_:=zg (X:=Yan) (R:=Int) (pro:=[]) (yil n) 127 yim (λx=>.two .no (.two (.join Bool (zth x) ⟨[(1,.any),(2,.any),(13,.any)],[]⟩ .no .no) .no)) [.any,.any,.any] [] [] ⟨[(6,.any)],[]⟩ [] true (λx=>[I_ x.1,I_ x.2.1,I_ x.2.2]) (λx=>[]) (λy=>([(6,I_ y)],[])) (λy=>I_ y) (λy=>[]) (yin n)
def yhp (n:Nat):Cx P_ Ty_:=⟨[zl3 n,yjt n,zws n,yju n,yjv n,y6m n,zl4 n,yjw n,zpp n,yjx n,zwq n,yjy n,yjz n,yk0 n],[],[],[]⟩
abbrev yhq:List (List Nat):=[[0,1,2,3],[1,2,3,9],[1,2,3,9,10],[8],[1,2,3,9,14],[8],[1,2,3,9,18],[8],[1,2,3,9,22],[8],[1,2,3,9,26],[8],[1,2,3,9,31],[8],[1,2,3,9,36],[8],[1,2,3,9,41],[8],[1,2,3,9,46],[8],[1,2,3,9,51],[8],[1,2,3,9,56],[8],[1,2,3,61],[8],[8]]
def yhr (n:Nat)(x:Ybc):Pt P_ Ty_ [] Int:=.ite (x.1==3) (.call (zl3 n) x.2.1 λ(y1:Int)=>.leaf y1) (.ite (x.1==11) (.call (yjt n) x.2.1 λ(y2:Int)=>.leaf y2) (.ite (x.1==12) (.call (zws n) x.2.1 λ(y3:Int)=>.leaf y3) (.ite (x.1==13) (.call (yju n) x.2.1 λ(y4:Int)=>.leaf y4) (.ite (x.1==14) (.call (yjv n) x.2.1 λ(y5:Bool)=>.call (y6m n) y5 λ(y6:Int)=>.leaf y6) (.ite (x.1==4) (.call (zl4 n) (x.2.1,x.2.2.1) λ(y7:Int)=>.leaf y7) (.ite (x.1==5) (.call (yjw n) (x.2.1,x.2.2.1) λ(y8:Int)=>.leaf y8) (.ite (x.1==6) (.call (zpp n) (x.2.1,x.2.2.1) λ(y9:Int)=>.leaf y9) (.ite (x.1==7) (.call (yjx n) (x.2.1,x.2.2.1) λ(y10:Int)=>.leaf y10) (.ite (x.1==8) (.call (zwq n) (x.2.1,x.2.2.1) λ(y11:Int)=>.leaf y11) (.ite (x.1==9) (.call (yjy n) (x.2.1,x.2.2.1) λ(y12:Int)=>.leaf y12) (.ite (x.1==10) (.call (yjz n) (x.2.1,x.2.2.1) λ(y13:Bool)=>.call (y6m n) y13 λ(y14:Int)=>.leaf y14) (.call (yk0 n) (x.2.1,x.2.2.1,x.q3) λ(y15:Int)=>.leaf y15))))))))))))
def yjs (n:Nat):Con P_ Ty_:=zg (X:=Ybc) (R:=Int) (pro:=[]) (yhp n) 109 yhq (λx=>.no) [.any,.any,.any,.any] [] [] ⟨[(8,.any)],[]⟩ [] true (λx=>[I_ x.1,I_ x.2.1,I_ x.2.2.1,I_ x.q3]) (λx=>[]) (λy=>([(8,I_ y)],[])) (λy=>I_ y) (λy=>[]) (yhr n)
def zfv (n:Nat):Cx P_ Ty_:=⟨[zwr n,yjr n,yjs n],[(100,false,6),(101,false,6)],[],[]⟩
abbrev zfw:List (List Nat):=[[0,1],[0,1,6],[0,1,6,23],[4,5],[0,1,6,7],[0,1,6,7,8],[0,1,6,7,8,30],[0,1,6,7,8,42],[0,1,6,7,8],[0,1,6,7,8],[0,1,6,7,9],[0,1,6,7,9,50],[0,1,6,7,9,71],[4,5],[0,1,6,7,9],[0,1,6,7,10],[0,1,6,7,10,11],[0,1,6,7,10,11,74],[0,1,6,7,10,11,12],[0,1,6,7,10,11,12,13],[0,1,6,7,10,11,12,13,80],[0,1,6,7,10,11,12,13],[0,1,6,7,10,11,12,13],[0,1,6,7,10,11],[0,1,6,7,10,11],[4,5]]
def ztn (x:Yaf)(p:Yag):EH Ty_:=([(0,I_ x.1),(1,.im 7 x.2),(6,I_ p.1),(23,B_ p.2)],[])
def zto (x:Yaf)(v1:Int)(q1:Yaa)(p:Bool):EH Ty_:=([(0,I_ x.1),(1,.im 7 x.2),(6,I_ v1),(7,I_ q1.1),(8,I_ q1.2),(42,B_ p)],[])
def ztp (x:Yaf)(v2:Yaa)(q2:Int)(p:Bool):EH Ty_:=([(0,I_ x.1),(1,.im 7 x.2),(6,I_ v2.1),(7,I_ v2.2),(9,I_ q2),(71,B_ p)],[])
def ybq (n:Nat)(x:Yaf)(v1:Int)(q1:Yaa):Pt P_ Ty_ [] (Bo (Yaa) (Yaa) Empty):=.ite (decide (q1.2<v1)) (.join (S:=Bool) (zto x v1 q1) (.ite (q1.1==1) (.leaf (.inl true)) (.bnd (idx x.2 q1.2) λy3=>.leaf (.inl ((y3.length:Int)==0)))) λs2=>.ite s2 (.bnd (idx x.2 q1.2) λy4=>.leaf (.go ((y4.length:Int),(i64.wrap (q1.2+(1:Int)))))) (.leaf (.go (q1.1,(i64.wrap (q1.2+(1:Int))))))) (.leaf (.out (q1.1,q1.2)))
def ztj (n:Nat)(x:Yaf)(v1:Int):z16 P_ Ty_ []:=z1f (X:=Yaa) (Y:=Yaa) (Z:=Empty) (zfv n) (z18 [1,1,1,1,0,1,0,0] (fnC P_ 100 zfw)) (λq1=>.two .no (.two (.two (.join Bool (zto x v1 q1) ⟨[(0,.any),(1,.im 7),(6,.any),(7,.any),(8,.any),(42,.any)],[]⟩ .no .no) .no) .no)) 0 false ⟨[(0,.any),(1,.im 7),(6,.any),(7,.any),(8,.any)],[]⟩ ⟨[(0,.any),(1,.im 7),(6,.any),(7,.any),(8,.any),(30,.any)],[]⟩ ⟨[],[]⟩ (λq1=>([(0,I_ x.1),(1,.im 7 x.2),(6,I_ v1),(7,I_ q1.1),(8,I_ q1.2)],[])) (λp=>([(0,I_ x.1),(1,.im 7 x.2),(6,I_ v1),(7,I_ p.1),(8,I_ p.2),(30,B_ false)],[])) (λp=>nomatch p) n (ybq n x v1)
def ybr (n:Nat)(x:Yaf)(v2:Yaa)(q2:Int):Pt P_ Ty_ [] (Bo Int Int Unit):=.ite (decide (q2<v2.1)) (.join (S:=Bool) (ztp x v2 q2) (.bnd (idx x.2 q2) λy6=>.ite ((y6.length:Int) != v2.2) (.ite (v2.2==0) (.leaf (.inl true)) (.bnd (idx x.2 q2) λy7=>.leaf (.inl ((y7.length:Int) != (1:Int))))) (.leaf (.inl false))) λs3=>.ite s3 (.leaf (.ret ())) (.leaf (.go (i64.wrap (q2+(1:Int)))))) (.leaf (.out q2))
def ztk (n:Nat)(x:Yaf)(v2:Yaa):z16 P_ Ty_ []:=z1f (X:=Int) (Y:=Int) (Z:=Unit) (zfv n) (z18 [1,1,1,1,1,0,1,0,0] (fnC P_ 100 zfw)) (λq2=>.two .no (.two (.two (.join Bool (ztp x v2 q2) ⟨[(0,.any),(1,.im 7),(6,.any),(7,.any),(9,.any),(71,.any)],[]⟩ .no .no) .no) .no)) 2 true ⟨[(0,.any),(1,.im 7),(6,.any),(7,.any),(9,.any)],[]⟩ ⟨[(0,.any),(1,.im 7),(6,.any),(7,.any),(9,.any),(50,.any)],[]⟩ ⟨[(4,.any),(5,.any)],[]⟩ (λq2=>([(0,I_ x.1),(1,.im 7 x.2),(6,I_ v2.1),(7,I_ v2.2),(9,I_ q2)],[])) (λp=>([(0,I_ x.1),(1,.im 7 x.2),(6,I_ v2.1),(7,I_ v2.2),(9,I_ p),(50,B_ false)],[])) (λp=>([(4,.zs),(5,I_ (50:Int))],[])) n (ybr n x v2)
def ybt (n:Nat)(x:Yaf)(v3:Yaa)(q3:Yab)(v4:Unit)(q4:Ybc):Pt P_ Ty_ [] (Bo (Ybc) (Ybc) Empty):=.ite (decide (q4.1<v3.1)) (.bnd (idx x.2 q4.1) λy9=>.call (yjr n) (y9,q3.1) λ(y10:Int)=>.ite (q4.1==(0:Nat)) (.leaf (.go ((i64.wrap (q4.1+(1:Int))),y10,q4.2.2.1,q4.q3))) (.ite (q4.1==(1:Nat)) (.leaf (.go ((i64.wrap (q4.1+(1:Int))),q4.2.1,y10,q4.q3))) (.ite (q4.1==(2:Nat)) (.leaf (.go ((i64.wrap (q4.1+(1:Int))),q4.2.1,q4.2.2.1,y10))) .no))) (.leaf (.out (q4.1,q4.2.1,q4.2.2.1,q4.q3)))
def ztm (n:Nat)(x:Yaf)(v3:Yaa)(q3:Yab)(v4:Unit):z16 P_ Ty_ []:=z1f (X:=Ybc) (Y:=Ybc) (Z:=Empty) (zfv n) (z18 [1,1,1,1,1,1,1,0,1,0,0,1,0,0,1,0,1,0,0] (fnC P_ 100 zfw)) (λq4=>.no) 6 false ⟨[(0,.any),(1,.im 7),(6,.any),(7,.any),(10,.ref 600001),(11,.any),(12,.ref 12),(13,.any)],[(600001,.any),(12,.any)]⟩ ⟨[(0,.any),(1,.im 7),(6,.any),(7,.any),(10,.ref 600001),(11,.any),(12,.ref 12),(13,.any),(80,.any)],[(600001,.any),(12,.any)]⟩ ⟨[],[]⟩ (λq4=>([(0,I_ x.1),(1,.im 7 x.2),(6,I_ v3.1),(7,I_ v3.2),(10,.sw 600001 []),(11,I_ q3.1),(12,.pt 12 [] 0 0),(13,I_ q4.1)],[(600001,.typ false 6 q3.2),(12,.lit 3 [[I_ q4.2.1,I_ q4.2.2.1,I_ q4.q3]])])) (λp=>([(0,I_ x.1),(1,.im 7 x.2),(6,I_ v3.1),(7,I_ v3.2),(10,.sw 600001 []),(11,I_ q3.1),(12,.pt 12 [] 0 0),(13,I_ p.1),(80,B_ false)],[(600001,.typ false 6 q3.2),(12,.lit 3 [[I_ p.2.1,I_ p.2.2.1,I_ p.q3]])])) (λp=>nomatch p) n (ybt n x v3 q3 v4)
def ybs (n:Nat)(x:Yaf)(v3:Yaa)(q3:Yab):Pt P_ Ty_ [] (Bo (Yab) (Yab) Empty):=.ite (decide (q3.1<v3.2)) (.loop (V:=Unit) (ztm n x v3 q3) () ((0:Int),(0:Int),(0:Int),(0:Int)) λ(v4:Unit) (y11:Ybc)=>.call (yjs n) (x.1,y11.2.1,y11.2.2.1,y11.q3) λ(y12:Int)=>.need ((q3.2.length+([y12]:List Int).length) * 8<=140737488355328) (.leaf (.go ((i64.wrap (q3.1+(1:Int))),(q3.2++([y12]:List Int)))))) (.leaf (.out (q3.1,q3.2)))
def ztl (n:Nat)(x:Yaf)(v3:Yaa):z16 P_ Ty_ []:=z1f (X:=Yab) (Y:=Yab) (Z:=Empty) (zfv n) (z18 [1,1,1,1,1,1,1,0,1,0,0] (fnC P_ 100 zfw)) (λq3=>.two .no (.two (.two (.two .no (.two (.two .no (.two (.loop Unit (ztm n x v3 q3) false ⟨[(0,.any),(1,.im 7),(6,.any),(7,.any),(10,.ref 600001),(11,.any),(12,.ref 12),(13,.any)],[(600001,.any),(12,.any)]⟩) .no)) .no)) .no) .no)) 4 false ⟨[(0,.any),(1,.im 7),(6,.any),(7,.any),(10,.own 600001 false 6),(11,.any)],[(600001,.any)]⟩ ⟨[(0,.any),(1,.im 7),(6,.any),(7,.any),(10,.ref 600001),(11,.any),(74,.any)],[(600001,.any)]⟩ ⟨[],[]⟩ (λq3=>([(0,I_ x.1),(1,.im 7 x.2),(6,I_ v3.1),(7,I_ v3.2),(10,.sw 600001 []),(11,I_ q3.1)],[(600001,.typ false 6 q3.2)])) (λp=>([(0,I_ x.1),(1,.im 7 x.2),(6,I_ v3.1),(7,I_ v3.2),(10,.sw 600001 []),(11,I_ p.1),(74,B_ false)],[(600001,.typ false 6 p.2)])) (λp=>nomatch p) n (ybs n x v3)
def yir (n:Nat)(x:Yaf):Pt P_ Ty_ [] (Yab):=.call (zwr n) x.1 λ(y1:Int)=>.join (S:=Yag) (ztn x) (.ite (y1==0) (.leaf (.inl (y1,true))) (.leaf (.inl (y1,((x.2.length:Int) != y1))))) λs1=>.ite s1.2 (.leaf ((1:Int),([]:List Int))) (.bnd (idx x.2 (0:Int)) λy2=>.loop (V:=Int) (ztj n x) s1.1 ((y2.length:Int),(0:Int)) λ(v1:Int) (y5:Yaa)=>.loopR (V:=Yaa) (ztk n x) (v1,y5.1) (0:Int) (λ(v2:Yaa) (y8:Int)=>.loop (V:=Yaa) (ztl n x) (v2.1,v2.2) ((0:Int),([]:List Int)) λ(v3:Yaa) (y13:Yab)=>.leaf ((0:Int),y13.2)) λ(v2:Yaa) (z1:Unit)=>.leaf ((50:Int),([]:List Int)))
def yk2 (n:Nat):Con P_ Ty_:=zg (X:=Yaf) (R:=Yab) (pro:=[]) (zfv n) 100 zfw (λx=>.two .no (.two .no (.two (.join (Yag) (ztn x) ⟨[(0,.any),(1,.im 7),(6,.any),(23,.any)],[]⟩ .no .no) (.two .no (.two (.two .no (.two (.loop Int (ztj n x) false ⟨[(0,.any),(1,.im 7),(6,.any),(7,.any),(8,.any)],[]⟩) .no)) (.two (.two .no (.two (.loop (Yaa) (ztk n x) true ⟨[(0,.any),(1,.im 7),(6,.any),(7,.any),(9,.any)],[]⟩) .no)) (.two .no (.two (.two .no (.two (.loop (Yaa) (ztl n x) false ⟨[(0,.any),(1,.im 7),(6,.any),(7,.any),(10,.own 600001 false 6),(11,.any)],[(600001,.any)]⟩) .no)) .no)))))))) [.any,.im 7] [] [100000] ⟨[(4,.own 100000 false 6),(5,.any)],[(100000,.any)]⟩ [100000] true (λx=>[I_ x.1,.im 7 x.2]) (λx=>[]) (λy=>([(4,.sw 100000 []),(5,I_ y.1)],[(100000,.typ false 6 y.2)])) (λy=>.tu [.sw 100000 [],I_ y.1]) (λy=>[(100000,.typ false 6 y.2)]) (yir n)
def yio (n:Nat):Cx P_ Ty_:=⟨[zwr n,yk2 n,zi7 n,zl2 n],[(46,false,7)],[],[]⟩
abbrev yip:List (List Nat):=[[2,3,4],[2,3,4,5],[2,3,4,5,18],[4],[2,3,4,5,6],[2,4,5,7],[2,4,5,7,60],[4,7],[4]]
def zti (x:Ybm)(p:(List Int)):EH Ty_:=([(4,.pt 4 [] 0 0),(7,.sw 600001 [])],[(4,.lit 2 [[.zs,I_ (0:Int)]]),(600001,.typ false 6 p)])
def yiq (n:Nat)(x:Ybm):Pt P_ Ty_ [] (Yau):=.bnd (idx x.1.C_.c_ x.2.D_) λy1=>.ite (y1.j_==2) (.bnd (idx x.1.c_ x.2.A_) λy2=>.leaf (y2.y_,y2.u_)) (.bnd (idx x.1.c_ x.2.A_) λy3=>.bnd (idx x.1.c_ x.2.B_) λy4=>.bnd (idx x.1.c_ x.2.C_) λy5=>.call (zwr n) x.2.a_ λ(y6:Int)=>.need (0<=y6/\y6<=(([y3.y_,y4.y_,y5.y_]:List (List Int)).length:Int)) (.need (0+y6.toNat<=([y3.y_,y4.y_,y5.y_]:List (List Int)).length) (.call (yk2 n) (x.2.a_,((([y3.y_,y4.y_,y5.y_]:List (List Int)).drop 0).take y6.toNat)) λ(y7:Yab)=>.join (S:=(List Int)) (zti x) (.ite ((y7.2.length:Int)==1) (.call (zi7 n) (x.1.C_,y1) λ(y8:Int)=>.need (0<=(0:Int)/\(0:Int)<(y7.2.length:Int)) (.bnd (y7.2[(0:Int).toNat]?) λy9=>.call (zl2 n) (y8,y9) λ(y10:Yab)=>.leaf (.inl y10.2))) (.leaf (.inl y7.2))) λs1=>.leaf (s1,(0:Int)))))
def yk1 (n:Nat):Con P_ Ty_:=zg (X:=Ybm) (R:=Yau) (pro:=[]) (yio n) 87 yip (λx=>.two .no (.two .no (.two .no (.two .no (.two .no (.join (List Int) (zti x) ⟨[(4,.ref 4),(7,.ref 600001)],[(4,.any),(600001,.any)]⟩ .no .no)))))) [.ag [.im 1,.im 2,.im 3,.im 4,.im 14,.im 14,.im 7,.im 12,.im 12,.any],.ag [.any,.any,.any,.any,.any,.any,.any]] [] [] ⟨[(4,.ref 100000)],[(100000,.fix [.im 6,.no])]⟩ [] false (λx=>[.ag [.im 1 x.1.C_.g_,.im 2 x.1.C_.c_,.im 3 x.1.C_.e_,.im 4 x.1.C_.d_,.im 14 x.1.c_,.im 14 x.1.e_,.im 7 x.1.H_,.im 12 x.1.z_,.im 12 x.1.F_,I_ x.1.L_],.ag [I_ x.2.a_,I_ x.2.D_,I_ x.2.A_,I_ x.2.B_,I_ x.2.C_,I_ x.2.N_,.sc (.int .u32 x.2.m_)]]) (λx=>[]) (λy=>([(4,.pt 100000 [] 0 0)],[(100000,.lit 2 [[.im 6 y.1,I_ y.2]])])) (λy=>.ag [.im 6 y.1,I_ y.2]) (λy=>[]) (yiq n)
def zz7 (n:Nat):Cx P_ Ty_:=⟨[k65 n,zwp n,zpp n],[],[],[]⟩
abbrev zz8:List (List Nat):=[[0,1],[0,1,8],[4],[0,1,5],[0,1,5,6],[0,1,5,6,16],[0,1,5,6],[0,1,5,6,27],[0,1,5,6],[0,1,5,6],[4]]
def ybj (n:Nat)(x:Yaa)(v1:Unit)(q1:Yaa):Pt P_ Ty_ [] (Bo (Yaa) (Yaa) Empty):=.ite (decide (q1.2>=(0:Int))) (.call (zpp n) (q1.1,q1.1) λ(y3:Int)=>.need (0<=(u64.wrap q1.2)) (.ite ((i64.wrap (BitVec.ofInt i64.bits (x.2.fdiv (2 ^ min (u64.wrap q1.2).toNat i64.bits)) &&& BitVec.ofInt i64.bits (1:Int)).toNat)==1) (.call (zpp n) (y3,x.1) λ(y4:Int)=>.leaf (.go (y4,(i64.wrap (q1.2 - (1:Int)))))) (.leaf (.go (y3,(i64.wrap (q1.2 - (1:Int)))))))) (.leaf (.out (q1.1,q1.2)))
def zsn (n:Nat)(x:Yaa)(v1:Unit):z16 P_ Ty_ []:=z1f (X:=Yaa) (Y:=Yaa) (Z:=Empty) (zz7 n) (z18 [1,1,1,0,1,0,0] (fnC P_ 88 zz8)) (λq1=>.no) 0 false ⟨[(0,.any),(1,.any),(5,.any),(6,.any)],[]⟩ ⟨[(0,.any),(1,.any),(5,.any),(6,.any),(16,.any)],[]⟩ ⟨[],[]⟩ (λq1=>([(0,I_ x.1),(1,I_ x.2),(5,I_ q1.1),(6,I_ q1.2)],[])) (λp=>([(0,I_ x.1),(1,I_ x.2),(5,I_ p.1),(6,I_ p.2),(16,B_ false)],[])) (λp=>nomatch p) n (ybj n x v1)
def yg5 (n:Nat)(x:Yaa):Pt P_ Ty_ [] Int:=.ite (decide (x.2<(1:Int))) (.leaf (1065353216:Int)) (.call (k65 n) x.1 λ(y1:Int)=>.call (zwp n) (u64.wrap x.2) λ(y2:Int)=>.loop (V:=Unit) (zsn n x) () (y1,(i64.wrap (y2 - (2:Int)))) λ(v1:Unit) (y5:Yaa)=>.leaf y5.1)
def yjk (n:Nat):Con P_ Ty_:=zg (X:=Yaa) (R:=Int) (pro:=[]) (zz7 n) 88 zz8 (λx=>.two .no (.two .no (.two .no (.two (.two .no (.two (.loop Unit (zsn n x) false ⟨[(0,.any),(1,.any),(5,.any),(6,.any)],[]⟩) .no)) .no)))) [.any,.any] [] [] ⟨[(4,.any)],[]⟩ [] true (λx=>[I_ x.1,I_ x.2]) (λx=>[]) (λy=>([(4,I_ y)],[])) (λy=>I_ y) (λy=>[]) (yg5 n)
def ygs (n:Nat):Cx P_ Ty_:=⟨[z78 n],[],[],[]⟩
abbrev ygt:List (List Nat):=[[0],[0,4],[2],[2]]
def ygu (n:Nat)(x:Int):Pt P_ Ty_ [] Int:=.ite (decide (x<(0:Int))) (.call (z78 n) (true,(u64.wrap ((u64.wrap (i64.wrap (0 - (i64.wrap (x+(1:Int))))))+(1:Int))),(0:Int)) λ(y1:Int)=>.leaf y1) (.call (z78 n) (false,(u64.wrap x),(0:Int)) λ(y2:Int)=>.leaf y2)
def yjm (n:Nat):Con P_ Ty_:=zg (X:=Int) (R:=Int) (pro:=[]) (ygs n) 89 ygt (λx=>.no) [.any] [] [] ⟨[(2,.any)],[]⟩ [] true (λx=>[I_ x]) (λx=>[]) (λy=>([(2,I_ y)],[])) (λy=>I_ y) (λy=>[]) (ygu n)
def ygv (n:Nat):Cx P_ Ty_:=⟨[],[],[],[]⟩
abbrev ygw:List (List Nat):=[[0],[3],[2],[2]]
def ygx (n:Nat)(x:Bool):Pt P_ Ty_ [] Int:=.ite x (.leaf (1:Int)) (.leaf (0:Int))
def zed (n:Nat):Con P_ Ty_:=zg (X:=Bool) (R:=Int) (pro:=[]) (ygv n) 90 ygw (λx=>.no) [.any] [] [] ⟨[(2,.any)],[]⟩ [] true (λx=>[B_ x]) (λx=>[]) (λy=>([(2,I_ y)],[])) (λy=>I_ y) (λy=>[]) (ygx n)
end
end Loom
