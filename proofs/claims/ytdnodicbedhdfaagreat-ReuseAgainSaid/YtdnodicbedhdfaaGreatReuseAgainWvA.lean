/- What the functions that ReuseAgain reaches answer,and that they do (part 1 of 2). -/
import Derived.Test.YtdnodicbedhdfaaGreatLoomD
import Derived.Test.YtdnodicbedhdfaaGreatChecked
import Derived.KernelRfl
import Derived.WalkKit
import Derived.WalkSpells
import Derived.WalkLawsBesides
import Derived.Lib.Bytealg
import Derived.Defers
import Derived.Recover
set_option linter.unusedVariables false
set_option linter.unusedSimpArgs false
set_option linter.unusedSectionVars false
open Go.IntKind (i64 u64 u32)
open List (length_map range replicate)
namespace Loom
open Go Go.RowKit
set_option maxRecDepth 100000
noncomputable section
abbrev P_:=Go.Proofs.Tryz.prog
abbrev I_ {E}(x:Int):TV E:=.sc (.int .i64 x)
abbrev B_ {E}(x:Bool):TV E:=.sc (.bool x)
structure Xa where
 q_:ByteArray
 j_:Int
 r_:Int
structure Xb where
 j_:Int
 n_:Int
structure Xc where
 s_:Xb
 O_:Bool
 m_:Int
 u_:Int
structure Xd where
 c_:Int
 D_:Int
 A_:Int
 B_:Int
 C_:Int
 N_:Int
 m_:Int
structure Xe where
 f_:(List Xa)
 a_:(List Xb)
 e_:(List Xc)
 d_:(List Xd)
structure Xf where
 i_:Xd
 t_:Xb
structure Xg where
 k_:Xf
 v_:Int
structure Xh where
 z_:(List (List Int))
 F_:(List (List Int))
structure Xi where
 c_:Int
 n_:Int
 G_:(List Bool)
structure Xj where
 y_:(List Int)
 u_:Int
structure Xk where
 C_:Xe
 e_:(List Xj)
structure Xl where
 C_:Xe
 a_:(List Xj)
 e_:(List Xj)
 H_:(List (List Int))
 z_:(List (List Int))
 F_:(List (List Int))
 L_:Int
structure Xm where
 Q_:Bool
 M_:Int
 E_:Int
 S_:Bool
 R_:Bool
abbrev _root_.Prod.p10 {A0 A1 A2 A3 A4 A5 A6 A7 A8 A9 A10 A11:Type}(x:A0×A1×A2×A3×A4×A5×A6×A7×A8×A9×A10×A11):A10:=x.2.2.2.2.2.2.2.2.2.2.1
abbrev _root_.Prod.p11 {A0 A1 A2 A3 A4 A5 A6 A7 A8 A9 A10 A11 A12:Type}(x:A0×A1×A2×A3×A4×A5×A6×A7×A8×A9×A10×A11×A12):A11:=x.2.2.2.2.2.2.2.2.2.2.2.1
abbrev _root_.Prod.p12 {A0 A1 A2 A3 A4 A5 A6 A7 A8 A9 A10 A11 A12 A13:Type}(x:A0×A1×A2×A3×A4×A5×A6×A7×A8×A9×A10×A11×A12×A13):A12:=x.2.2.2.2.2.2.2.2.2.2.2.2.1
abbrev _root_.Prod.p13 {A0 A1 A2 A3 A4 A5 A6 A7 A8 A9 A10 A11 A12 A13 A14:Type}(x:A0×A1×A2×A3×A4×A5×A6×A7×A8×A9×A10×A11×A12×A13×A14):A13:=x.2.2.2.2.2.2.2.2.2.2.2.2.2.1
abbrev _root_.Prod.p3 {A0 A1 A2 A3 A4:Type}(x:A0×A1×A2×A3×A4):A3:=x.2.2.2.1
abbrev _root_.Prod.p4 {A0 A1 A2 A3 A4 A5:Type}(x:A0×A1×A2×A3×A4×A5):A4:=x.2.2.2.2.1
abbrev _root_.Prod.p5 {A0 A1 A2 A3 A4 A5 A6:Type}(x:A0×A1×A2×A3×A4×A5×A6):A5:=x.2.2.2.2.2.1
abbrev _root_.Prod.p6 {A0 A1 A2 A3 A4 A5 A6 A7:Type}(x:A0×A1×A2×A3×A4×A5×A6×A7):A6:=x.2.2.2.2.2.2.1
abbrev _root_.Prod.p7 {A0 A1 A2 A3 A4 A5 A6 A7 A8:Type}(x:A0×A1×A2×A3×A4×A5×A6×A7×A8):A7:=x.2.2.2.2.2.2.2.1
abbrev _root_.Prod.p8 {A0 A1 A2 A3 A4 A5 A6 A7 A8 A9:Type}(x:A0×A1×A2×A3×A4×A5×A6×A7×A8×A9):A8:=x.2.2.2.2.2.2.2.2.1
abbrev _root_.Prod.p9 {A0 A1 A2 A3 A4 A5 A6 A7 A8 A9 A10:Type}(x:A0×A1×A2×A3×A4×A5×A6×A7×A8×A9×A10):A9:=x.2.2.2.2.2.2.2.2.2.1
abbrev _root_.Prod.q10 {A0 A1 A2 A3 A4 A5 A6 A7 A8 A9 A10:Type}(x:A0×A1×A2×A3×A4×A5×A6×A7×A8×A9×A10):A10:=x.2.2.2.2.2.2.2.2.2.2
abbrev _root_.Prod.q11 {A0 A1 A2 A3 A4 A5 A6 A7 A8 A9 A10 A11:Type}(x:A0×A1×A2×A3×A4×A5×A6×A7×A8×A9×A10×A11):A11:=x.2.2.2.2.2.2.2.2.2.2.2
abbrev _root_.Prod.q14 {A0 A1 A2 A3 A4 A5 A6 A7 A8 A9 A10 A11 A12 A13 A14:Type}(x:A0×A1×A2×A3×A4×A5×A6×A7×A8×A9×A10×A11×A12×A13×A14):A14:=x.2.2.2.2.2.2.2.2.2.2.2.2.2.2
abbrev _root_.Prod.q3 {A0 A1 A2 A3:Type}(x:A0×A1×A2×A3):A3:=x.2.2.2
abbrev _root_.Prod.q4 {A0 A1 A2 A3 A4:Type}(x:A0×A1×A2×A3×A4):A4:=x.2.2.2.2
abbrev _root_.Prod.q5 {A0 A1 A2 A3 A4 A5:Type}(x:A0×A1×A2×A3×A4×A5):A5:=x.2.2.2.2.2
abbrev _root_.Prod.q6 {A0 A1 A2 A3 A4 A5 A6:Type}(x:A0×A1×A2×A3×A4×A5×A6):A6:=x.2.2.2.2.2.2
abbrev _root_.Prod.q7 {A0 A1 A2 A3 A4 A5 A6 A7:Type}(x:A0×A1×A2×A3×A4×A5×A6×A7):A7:=x.2.2.2.2.2.2.2
abbrev _root_.Prod.q8 {A0 A1 A2 A3 A4 A5 A6 A7 A8:Type}(x:A0×A1×A2×A3×A4×A5×A6×A7×A8):A8:=x.2.2.2.2.2.2.2.2
abbrev _root_.Prod.q9 {A0 A1 A2 A3 A4 A5 A6 A7 A8 A9:Type}(x:A0×A1×A2×A3×A4×A5×A6×A7×A8×A9):A9:=x.2.2.2.2.2.2.2.2.2
def El_:Nat->Type
 | 0=>Int
 | 1=>Xa
 | 2=>Xb
 | 3=>Xc
 | 4=>Xd
 | 5=>Bool
 | 6=>Int
 | 7=>(List Int)
 | 8=>Xg
 | 9=>(List Xg)
 | 10=>Int
 | 11=>(List Int)
 | 12=>Xh
 | 13=>Xi
 | 14=>Xj
 | 15=>Xe
 | _+16=>Empty
def c0 (_:Bool)(x:Int):List AV:=[.sc (.int .u8 x)]
def d0 (_:Bool)(x:Int):List (TV El_):=[.sc (.int .u8 x)]
def c1 (_:Bool)(x:Xa):List AV:=[.sc (.string x.q_),.sc (.int .i64 x.j_),.sc (.int .i64 x.r_)]
def d1 (_:Bool)(x:Xa):List (TV El_):=[.sc (.string x.q_),.sc (.int .i64 x.j_),.sc (.int .i64 x.r_)]
def c2 (_:Bool)(x:Xb):List AV:=[.sc (.int .i64 x.j_),.sc (.int .i64 x.n_)]
def d2 (_:Bool)(x:Xb):List (TV El_):=[.sc (.int .i64 x.j_),.sc (.int .i64 x.n_)]
def c3 (_:Bool)(x:Xc):List AV:=[.sc (.int .i64 x.s_.j_),.sc (.int .i64 x.s_.n_),.sc (.bool x.O_),.sc (.int .u32 x.m_),.sc (.int .i64 x.u_)]
def d3 (_:Bool)(x:Xc):List (TV El_):=[.sc (.int .i64 x.s_.j_),.sc (.int .i64 x.s_.n_),.sc (.bool x.O_),.sc (.int .u32 x.m_),.sc (.int .i64 x.u_)]
def c4 (_:Bool)(x:Xd):List AV:=[.sc (.int .i64 x.c_),.sc (.int .i64 x.D_),.sc (.int .i64 x.A_),.sc (.int .i64 x.B_),.sc (.int .i64 x.C_),.sc (.int .i64 x.N_),.sc (.int .u32 x.m_)]
def d4 (_:Bool)(x:Xd):List (TV El_):=[.sc (.int .i64 x.c_),.sc (.int .i64 x.D_),.sc (.int .i64 x.A_),.sc (.int .i64 x.B_),.sc (.int .i64 x.C_),.sc (.int .i64 x.N_),.sc (.int .u32 x.m_)]
def c5 (_:Bool)(x:Bool):List AV:=[.sc (.bool x)]
def d5 (_:Bool)(x:Bool):List (TV El_):=[.sc (.bool x)]
def c6 (_:Bool)(x:Int):List AV:=[.sc (.int .i64 x)]
def d6 (_:Bool)(x:Int):List (TV El_):=[.sc (.int .i64 x)]
def c7:Bool->(List Int)->List AV
 | true,x=>[.ow 1 (x.map (c6 false))]
 | false,x=>[.im 1 (x.map (c6 false))]
def d7:Bool->(List Int)->List (TV El_)
 | true,x=>[.ow false 6 x]
 | false,x=>[.im 6 x]
def c8 (_:Bool)(x:Xg):List AV:=[.sc (.int .i64 x.k_.i_.c_),.sc (.int .i64 x.k_.i_.D_),.sc (.int .i64 x.k_.i_.A_),.sc (.int .i64 x.k_.i_.B_),.sc (.int .i64 x.k_.i_.C_),.sc (.int .i64 x.k_.i_.N_),.sc (.int .u32 x.k_.i_.m_),.sc (.int .i64 x.k_.t_.j_),.sc (.int .i64 x.k_.t_.n_),.sc (.int .i64 x.v_)]
def d8 (_:Bool)(x:Xg):List (TV El_):=[.sc (.int .i64 x.k_.i_.c_),.sc (.int .i64 x.k_.i_.D_),.sc (.int .i64 x.k_.i_.A_),.sc (.int .i64 x.k_.i_.B_),.sc (.int .i64 x.k_.i_.C_),.sc (.int .i64 x.k_.i_.N_),.sc (.int .u32 x.k_.i_.m_),.sc (.int .i64 x.k_.t_.j_),.sc (.int .i64 x.k_.t_.n_),.sc (.int .i64 x.v_)]
def c9:Bool->(List Xg)->List AV
 | true,x=>[.ow 10000010 (x.map (c8 false))]
 | false,x=>[.un]
def d9:Bool->(List Xg)->List (TV El_)
 | true,x=>[.ow false 8 x]
 | false,x=>[.un]
def c10 (_:Bool)(x:Int):List AV:=[.sc (.int .u32 x)]
def d10 (_:Bool)(x:Int):List (TV El_):=[.sc (.int .u32 x)]
def c11:Bool->(List Int)->List AV
 | true,x=>[.ow 1 (x.map (c10 false))]
 | false,x=>[.im 1 (x.map (c10 false))]
def d11:Bool->(List Int)->List (TV El_)
 | true,x=>[.ow false 10 x]
 | false,x=>[.im 10 x]
def c12:Bool->Xh->List AV
 | true,x=>[.ow 1 (x.z_.map (c11 true)),.ow 1 (x.F_.map (c11 true))]
 | false,x=>[.im 1 (x.z_.map (c11 false)),.im 1 (x.F_.map (c11 false))]
def d12:Bool->Xh->List (TV El_)
 | true,x=>[.ow true 11 x.z_,.ow true 11 x.F_]
 | false,x=>[.im 11 x.z_,.im 11 x.F_]
def c13:Bool->Xi->List AV
 | true,x=>[.sc (.int .i64 x.c_),.sc (.int .i64 x.n_),.ow 1 (x.G_.map (c5 false))]
 | false,x=>[.sc (.int .i64 x.c_),.sc (.int .i64 x.n_),.im 1 (x.G_.map (c5 false))]
def d13:Bool->Xi->List (TV El_)
 | true,x=>[.sc (.int .i64 x.c_),.sc (.int .i64 x.n_),.ow false 5 x.G_]
 | false,x=>[.sc (.int .i64 x.c_),.sc (.int .i64 x.n_),.im 5 x.G_]
def c14:Bool->Xj->List AV
 | true,x=>[.ow 1 (x.y_.map (c6 false)),.sc (.int .i64 x.u_)]
 | false,x=>[.im 1 (x.y_.map (c6 false)),.sc (.int .i64 x.u_)]
def d14:Bool->Xj->List (TV El_)
 | true,x=>[.ow false 6 x.y_,.sc (.int .i64 x.u_)]
 | false,x=>[.im 6 x.y_,.sc (.int .i64 x.u_)]
def c15:Bool->Xe->List AV
 | true,x=>[.ow 3 (x.f_.map (c1 false)),.ow 2 (x.a_.map (c2 false)),.ow 5 (x.e_.map (c3 false)),.ow 7 (x.d_.map (c4 false))]
 | false,x=>[.im 3 (x.f_.map (c1 false)),.im 2 (x.a_.map (c2 false)),.im 5 (x.e_.map (c3 false)),.im 7 (x.d_.map (c4 false))]
def d15:Bool->Xe->List (TV El_)
 | true,x=>[.ow false 1 x.f_,.ow false 2 x.a_,.ow false 3 x.e_,.ow false 4 x.d_]
 | false,x=>[.im 1 x.f_,.im 2 x.a_,.im 3 x.e_,.im 4 x.d_]
def ca_ (m:Bool):(t:Nat)->El_ t->List AV
 | 0=>c0 m
 | 1=>c1 m
 | 2=>c2 m
 | 3=>c3 m
 | 4=>c4 m
 | 5=>c5 m
 | 6=>c6 m
 | 7=>c7 m
 | 8=>c8 m
 | 9=>c9 m
 | 10=>c10 m
 | 11=>c11 m
 | 12=>c12 m
 | 13=>c13 m
 | 14=>c14 m
 | 15=>c15 m
 | _+16=>λ_=>[]
def ct_ (m:Bool):(t:Nat)->El_ t->List (TV El_)
 | 0=>d0 m
 | 1=>d1 m
 | 2=>d2 m
 | 3=>d3 m
 | 4=>d4 m
 | 5=>d5 m
 | 6=>d6 m
 | 7=>d7 m
 | 8=>d8 m
 | 9=>d9 m
 | 10=>d10 m
 | 11=>d11 m
 | 12=>d12 m
 | 13=>d13 m
 | 14=>d14 m
 | 15=>d15 m
 | _+16=>λ_=>[]
def sz_:Nat->Nat
 | 0=>1
 | 1=>3
 | 2=>2
 | 3=>5
 | 4=>7
 | 5=>1
 | 6=>1
 | 7=>1
 | 8=>10000010
 | 9=>1
 | 10=>1
 | 11=>1
 | 12=>2
 | 13=>3
 | 14=>2
 | 15=>4
 | _+16=>0
def ks_ (m:Bool):Nat->List Kd
 | 0=>[]
 | 1=>[]
 | 2=>[]
 | 3=>[]
 | 4=>[]
 | 5=>[]
 | 6=>[]
 | 7=>bif m then [.ow false 6] else [.im 6]
 | 8=>[]
 | 9=>bif m then [.no] else [.no]
 | 10=>[]
 | 11=>bif m then [.ow false 10] else [.im 10]
 | 12=>bif m then [.ow true 11,.ow true 11] else [.im 11,.im 11]
 | 13=>bif m then [.no,.no,.ow false 5] else [.no,.no,.im 5]
 | 14=>bif m then [.ow false 6,.no] else [.im 6,.no]
 | 15=>bif m then [.ow false 1,.ow false 2,.ow false 3,.ow false 4] else [.im 1,.im 2,.im 3,.im 4]
 | _+16=>[]
abbrev T0_:TT0:=⟨El_,sz_,ca_⟩
def u0 (m:Bool):List (TV El_)->Option Int
 | [v0]=>((gI .u8 v0).bind λa0=>some a0)
 | _=>none
def u1 (m:Bool):List (TV El_)->Option Xa
 | [v0,v1,v2]=>((gS v0).bind λa0=>(gI .i64 v1).bind λa1=>(gI .i64 v2).bind λa2=>some ⟨a0,a1,a2⟩)
 | _=>none
def u2 (m:Bool):List (TV El_)->Option Xb
 | [v0,v1]=>((gI .i64 v0).bind λa0=>(gI .i64 v1).bind λa1=>some ⟨a0,a1⟩)
 | _=>none
def u3 (m:Bool):List (TV El_)->Option Xc
 | [v0,v1,v2,v3,v4]=>((gI .i64 v0).bind λa0=>(gI .i64 v1).bind λa1=>(gB v2).bind λa2=>(gI .u32 v3).bind λa3=>(gI .i64 v4).bind λa4=>some ⟨⟨a0,a1⟩,a2,a3,a4⟩)
 | _=>none
def u4 (m:Bool):List (TV El_)->Option Xd
 | [v0,v1,v2,v3,v4,v5,v6]=>((gI .i64 v0).bind λa0=>(gI .i64 v1).bind λa1=>(gI .i64 v2).bind λa2=>(gI .i64 v3).bind λa3=>(gI .i64 v4).bind λa4=>(gI .i64 v5).bind λa5=>(gI .u32 v6).bind λa6=>some ⟨a0,a1,a2,a3,a4,a5,a6⟩)
 | _=>none
def u5 (m:Bool):List (TV El_)->Option Bool
 | [v0]=>((gB v0).bind λa0=>some a0)
 | _=>none
def u6 (m:Bool):List (TV El_)->Option Int
 | [v0]=>((gI .i64 v0).bind λa0=>some a0)
 | _=>none
def u7 (m:Bool):List (TV El_)->Option (List Int)
 | [v0]=>bif m then ((gO false 6 v0).bind λa0=>some a0) else ((gM 6 v0).bind λa0=>some a0)
 | _=>none
def u8 (m:Bool):List (TV El_)->Option Xg
 | [v0,v1,v2,v3,v4,v5,v6,v7,v8,v9]=>((gI .i64 v0).bind λa0=>(gI .i64 v1).bind λa1=>(gI .i64 v2).bind λa2=>(gI .i64 v3).bind λa3=>(gI .i64 v4).bind λa4=>(gI .i64 v5).bind λa5=>(gI .u32 v6).bind λa6=>(gI .i64 v7).bind λa7=>(gI .i64 v8).bind λa8=>(gI .i64 v9).bind λa9=>some ⟨⟨⟨a0,a1,a2,a3,a4,a5,a6⟩,⟨a7,a8⟩⟩,a9⟩)
 | _=>none
def u9 (m:Bool):List (TV El_)->Option (List Xg)
 | [v0]=>bif m then ((gO false 8 v0).bind λa0=>some a0) else none
 | _=>none
def u10 (m:Bool):List (TV El_)->Option Int
 | [v0]=>((gI .u32 v0).bind λa0=>some a0)
 | _=>none
def u11 (m:Bool):List (TV El_)->Option (List Int)
 | [v0]=>bif m then ((gO false 10 v0).bind λa0=>some a0) else ((gM 10 v0).bind λa0=>some a0)
 | _=>none
def u12 (m:Bool):List (TV El_)->Option Xh
 | [v0,v1]=>bif m then ((gO true 11 v0).bind λa0=>(gO true 11 v1).bind λa1=>some ⟨a0,a1⟩) else ((gM 11 v0).bind λa0=>(gM 11 v1).bind λa1=>some ⟨a0,a1⟩)
 | _=>none
def u13 (m:Bool):List (TV El_)->Option Xi
 | [v0,v1,v2]=>bif m then ((gI .i64 v0).bind λa0=>(gI .i64 v1).bind λa1=>(gO false 5 v2).bind λa2=>some ⟨a0,a1,a2⟩) else ((gI .i64 v0).bind λa0=>(gI .i64 v1).bind λa1=>(gM 5 v2).bind λa2=>some ⟨a0,a1,a2⟩)
 | _=>none
def u14 (m:Bool):List (TV El_)->Option Xj
 | [v0,v1]=>bif m then ((gO false 6 v0).bind λa0=>(gI .i64 v1).bind λa1=>some ⟨a0,a1⟩) else ((gM 6 v0).bind λa0=>(gI .i64 v1).bind λa1=>some ⟨a0,a1⟩)
 | _=>none
def u15 (m:Bool):List (TV El_)->Option Xe
 | [v0,v1,v2,v3]=>bif m then ((gO false 1 v0).bind λa0=>(gO false 2 v1).bind λa1=>(gO false 3 v2).bind λa2=>(gO false 4 v3).bind λa3=>some ⟨a0,a1,a2,a3⟩) else ((gM 1 v0).bind λa0=>(gM 2 v1).bind λa1=>(gM 3 v2).bind λa2=>(gM 4 v3).bind λa3=>some ⟨a0,a1,a2,a3⟩)
 | _=>none
def un_ (m:Bool):(t:Nat)->List (TV El_)->Option (El_ t)
 | 0=>u0 m
 | 1=>u1 m
 | 2=>u2 m
 | 3=>u3 m
 | 4=>u4 m
 | 5=>u5 m
 | 6=>u6 m
 | 7=>u7 m
 | 8=>u8 m
 | 9=>u9 m
 | 10=>u10 m
 | 11=>u11 m
 | 12=>u12 m
 | 13=>u13 m
 | 14=>u14 m
 | 15=>u15 m
 | _+16=>λ_=>none
theorem ymx (m:Bool)(l:List (TV El_))(x:Int)(h:u0 m l=some x):z7 T0_ [] l=c0 m x:=by
 unfold u0 at h;split at h
 ·skip
  obtain ⟨a0,h0,h⟩:=ze h;cases h;simp only [z7,z1x (T:=T0_) h0];rfl
 ·cases h
theorem ymy (m:Bool)(l:List (TV El_))(x:Xa)(h:u1 m l=some x):z7 T0_ [] l=c1 m x:=by
 unfold u1 at h;split at h
 ·skip
  obtain ⟨a0,h0,h⟩:=ze h;obtain ⟨a1,h1,h⟩:=ze h;obtain ⟨a2,h2,h⟩:=ze h;cases h;simp only [z7,ymp (T:=T0_) h0,z1x (T:=T0_) h1,z1x (T:=T0_) h2];rfl
 ·cases h
theorem ymz (m:Bool)(l:List (TV El_))(x:Xb)(h:u2 m l=some x):z7 T0_ [] l=c2 m x:=by
 unfold u2 at h;split at h
 ·skip
  obtain ⟨a0,h0,h⟩:=ze h;obtain ⟨a1,h1,h⟩:=ze h;cases h;simp only [z7,z1x (T:=T0_) h0,z1x (T:=T0_) h1];rfl
 ·cases h
theorem yn0 (m:Bool)(l:List (TV El_))(x:Xc)(h:u3 m l=some x):z7 T0_ [] l=c3 m x:=by
 unfold u3 at h;split at h
 ·skip
  obtain ⟨a0,h0,h⟩:=ze h;obtain ⟨a1,h1,h⟩:=ze h;obtain ⟨a2,h2,h⟩:=ze h;obtain ⟨a3,h3,h⟩:=ze h;obtain ⟨a4,h4,h⟩:=ze h;cases h;simp only [z7,z1x (T:=T0_) h0,z1x (T:=T0_) h1,y9i (T:=T0_) h2,z1x (T:=T0_) h3,z1x (T:=T0_) h4];rfl
 ·cases h
theorem yn1 (m:Bool)(l:List (TV El_))(x:Xd)(h:u4 m l=some x):z7 T0_ [] l=c4 m x:=by
 unfold u4 at h;split at h
 ·skip
  obtain ⟨a0,h0,h⟩:=ze h;obtain ⟨a1,h1,h⟩:=ze h;obtain ⟨a2,h2,h⟩:=ze h;obtain ⟨a3,h3,h⟩:=ze h;obtain ⟨a4,h4,h⟩:=ze h;obtain ⟨a5,h5,h⟩:=ze h;obtain ⟨a6,h6,h⟩:=ze h;cases h;simp only [z7,z1x (T:=T0_) h0,z1x (T:=T0_) h1,z1x (T:=T0_) h2,z1x (T:=T0_) h3,z1x (T:=T0_) h4,z1x (T:=T0_) h5,z1x (T:=T0_) h6];rfl
 ·cases h
theorem yn2 (m:Bool)(l:List (TV El_))(x:Bool)(h:u5 m l=some x):z7 T0_ [] l=c5 m x:=by
 unfold u5 at h;split at h
 ·skip
  obtain ⟨a0,h0,h⟩:=ze h;cases h;simp only [z7,y9i (T:=T0_) h0];rfl
 ·cases h
theorem yn3 (m:Bool)(l:List (TV El_))(x:Int)(h:u6 m l=some x):z7 T0_ [] l=c6 m x:=by
 unfold u6 at h;split at h
 ·skip
  obtain ⟨a0,h0,h⟩:=ze h;cases h;simp only [z7,z1x (T:=T0_) h0];rfl
 ·cases h
theorem yn4 (m:Bool)(l:List (TV El_))(x:(List Int))(h:u7 m l=some x):z7 T0_ [] l=c7 m x:=by
 unfold u7 at h;split at h
 ·cases m
  ·simp only [cond_false] at h;obtain ⟨a0,h0,h⟩:=ze h;cases h;simp only [z7,z8r (T:=T0_) h0];rfl
  ·simp only [cond_true] at h;obtain ⟨a0,h0,h⟩:=ze h;cases h;simp only [z7,z7q (T:=T0_) h0];rfl
 ·cases h
theorem yn5 (m:Bool)(l:List (TV El_))(x:Xg)(h:u8 m l=some x):z7 T0_ [] l=c8 m x:=by
 unfold u8 at h;split at h
 ·skip
  obtain ⟨a0,h0,h⟩:=ze h;obtain ⟨a1,h1,h⟩:=ze h;obtain ⟨a2,h2,h⟩:=ze h;obtain ⟨a3,h3,h⟩:=ze h;obtain ⟨a4,h4,h⟩:=ze h;obtain ⟨a5,h5,h⟩:=ze h;obtain ⟨a6,h6,h⟩:=ze h;obtain ⟨a7,h7,h⟩:=ze h;obtain ⟨a8,h8,h⟩:=ze h;obtain ⟨a9,h9,h⟩:=ze h;cases h;simp only [z7,z1x (T:=T0_) h0,z1x (T:=T0_) h1,z1x (T:=T0_) h2,z1x (T:=T0_) h3,z1x (T:=T0_) h4,z1x (T:=T0_) h5,z1x (T:=T0_) h6,z1x (T:=T0_) h7,z1x (T:=T0_) h8,z1x (T:=T0_) h9];rfl
 ·cases h
theorem yn6 (m:Bool)(l:List (TV El_))(x:(List Xg))(h:u9 m l=some x):z7 T0_ [] l=c9 m x:=by
 unfold u9 at h;split at h
 ·cases m
  ·simp only [cond_false] at h;cases h
  ·simp only [cond_true] at h;obtain ⟨a0,h0,h⟩:=ze h;cases h;simp only [z7,z7q (T:=T0_) h0];rfl
 ·cases h
theorem ykh (m:Bool)(l:List (TV El_))(x:Int)(h:u10 m l=some x):z7 T0_ [] l=c10 m x:=by
 unfold u10 at h;split at h
 ·skip
  obtain ⟨a0,h0,h⟩:=ze h;cases h;simp only [z7,z1x (T:=T0_) h0];rfl
 ·cases h
theorem yki (m:Bool)(l:List (TV El_))(x:(List Int))(h:u11 m l=some x):z7 T0_ [] l=c11 m x:=by
 unfold u11 at h;split at h
 ·cases m
  ·simp only [cond_false] at h;obtain ⟨a0,h0,h⟩:=ze h;cases h;simp only [z7,z8r (T:=T0_) h0];rfl
  ·simp only [cond_true] at h;obtain ⟨a0,h0,h⟩:=ze h;cases h;simp only [z7,z7q (T:=T0_) h0];rfl
 ·cases h
theorem ykj (m:Bool)(l:List (TV El_))(x:Xh)(h:u12 m l=some x):z7 T0_ [] l=c12 m x:=by
 unfold u12 at h;split at h
 ·cases m
  ·simp only [cond_false] at h;obtain ⟨a0,h0,h⟩:=ze h;obtain ⟨a1,h1,h⟩:=ze h;cases h;simp only [z7,z8r (T:=T0_) h0,z8r (T:=T0_) h1];rfl
  ·simp only [cond_true] at h;obtain ⟨a0,h0,h⟩:=ze h;obtain ⟨a1,h1,h⟩:=ze h;cases h;simp only [z7,z7q (T:=T0_) h0,z7q (T:=T0_) h1];rfl
 ·cases h
theorem ykk (m:Bool)(l:List (TV El_))(x:Xi)(h:u13 m l=some x):z7 T0_ [] l=c13 m x:=by
 unfold u13 at h;split at h
 ·cases m
  ·simp only [cond_false] at h;obtain ⟨a0,h0,h⟩:=ze h;obtain ⟨a1,h1,h⟩:=ze h;obtain ⟨a2,h2,h⟩:=ze h;cases h;simp only [z7,z1x (T:=T0_) h0,z1x (T:=T0_) h1,z8r (T:=T0_) h2];rfl
  ·simp only [cond_true] at h;obtain ⟨a0,h0,h⟩:=ze h;obtain ⟨a1,h1,h⟩:=ze h;obtain ⟨a2,h2,h⟩:=ze h;cases h;simp only [z7,z1x (T:=T0_) h0,z1x (T:=T0_) h1,z7q (T:=T0_) h2];rfl
 ·cases h
theorem ykl (m:Bool)(l:List (TV El_))(x:Xj)(h:u14 m l=some x):z7 T0_ [] l=c14 m x:=by
 unfold u14 at h;split at h
 ·cases m
  ·simp only [cond_false] at h;obtain ⟨a0,h0,h⟩:=ze h;obtain ⟨a1,h1,h⟩:=ze h;cases h;simp only [z7,z8r (T:=T0_) h0,z1x (T:=T0_) h1];rfl
  ·simp only [cond_true] at h;obtain ⟨a0,h0,h⟩:=ze h;obtain ⟨a1,h1,h⟩:=ze h;cases h;simp only [z7,z7q (T:=T0_) h0,z1x (T:=T0_) h1];rfl
 ·cases h
theorem ykm (m:Bool)(l:List (TV El_))(x:Xe)(h:u15 m l=some x):z7 T0_ [] l=c15 m x:=by
 unfold u15 at h;split at h
 ·cases m
  ·simp only [cond_false] at h;obtain ⟨a0,h0,h⟩:=ze h;obtain ⟨a1,h1,h⟩:=ze h;obtain ⟨a2,h2,h⟩:=ze h;obtain ⟨a3,h3,h⟩:=ze h;cases h;simp only [z7,z8r (T:=T0_) h0,z8r (T:=T0_) h1,z8r (T:=T0_) h2,z8r (T:=T0_) h3];rfl
  ·simp only [cond_true] at h;obtain ⟨a0,h0,h⟩:=ze h;obtain ⟨a1,h1,h⟩:=ze h;obtain ⟨a2,h2,h⟩:=ze h;obtain ⟨a3,h3,h⟩:=ze h;cases h;simp only [z7,z7q (T:=T0_) h0,z7q (T:=T0_) h1,z7q (T:=T0_) h2,z7q (T:=T0_) h3];rfl
 ·cases h
theorem im7:∀ (m:Bool) (x:(List Int)),z2q (c7 m x)=c7 false x
 | true,x=>by simp [c7,z2q,toIm,MB,z3o (o:=c6 false) (c:=c6 false) (λ_=>rfl)]
 | false,_=>rfl
theorem ow7 (x:(List Int)):z21 (c7 true x)=true:=by simp [c7,z21,z45,z2u (o:=c6 false) (λ_=>rfl)]
theorem im9:∀ (m:Bool) (x:(List Xg)),z2q (c9 m x)=c9 false x
 | true,x=>by simp [c9,z2q,toIm,MB]
 | false,_=>rfl
theorem ow9 (x:(List Xg)):z21 (c9 true x)=true:=by simp [c9,z21,z45,z2u (o:=c8 false) (λ_=>rfl)]
theorem yik:∀ (m:Bool) (x:(List Int)),z2q (c11 m x)=c11 false x
 | true,x=>by simp [c11,z2q,toIm,MB,z3o (o:=c10 false) (c:=c10 false) (λ_=>rfl)]
 | false,_=>rfl
theorem yk2 (x:(List Int)):z21 (c11 true x)=true:=by simp [c11,z21,z45,z2u (o:=c10 false) (λ_=>rfl)]
theorem ynf:∀ (m:Bool) (x:Xh),z2q (c12 m x)=c12 false x
 | true,x=>by simp [c12,z2q,toIm,MB,z3o (o:=c11 true) (c:=c11 false) (λ_=>yik true _)]
 | false,_=>rfl
theorem ynk (x:Xh):z21 (c12 true x)=true:=by simp [c12,z21,z45,z2u (o:=c11 true) (λ_=>yk2 _)]
theorem yng:∀ (m:Bool) (x:Xi),z2q (c13 m x)=c13 false x
 | true,x=>by simp [c13,z2q,toIm,MB,z3o (o:=c5 false) (c:=c5 false) (λ_=>rfl)]
 | false,_=>rfl
theorem ynl (x:Xi):z21 (c13 true x)=true:=by simp [c13,z21,z45,z2u (o:=c5 false) (λ_=>rfl)]
theorem ynh:∀ (m:Bool) (x:Xj),z2q (c14 m x)=c14 false x
 | true,x=>by simp [c14,z2q,toIm,MB,z3o (o:=c6 false) (c:=c6 false) (λ_=>rfl)]
 | false,_=>rfl
theorem ynm (x:Xj):z21 (c14 true x)=true:=by simp [c14,z21,z45,z2u (o:=c6 false) (λ_=>rfl)]
theorem yni:∀ (m:Bool) (x:Xe),z2q (c15 m x)=c15 false x
 | true,x=>by simp [c15,z2q,toIm,MB,z3o (o:=c1 false) (c:=c1 false) (λ_=>rfl),z3o (o:=c2 false) (c:=c2 false) (λ_=>rfl),z3o (o:=c3 false) (c:=c3 false) (λ_=>rfl),z3o (o:=c4 false) (c:=c4 false) (λ_=>rfl)]
 | false,_=>rfl
theorem ynn (x:Xe):z21 (c15 true x)=true:=by simp [c15,z21,z45,z2u (o:=c1 false) (λ_=>rfl),z2u (o:=c2 false) (λ_=>rfl),z2u (o:=c3 false) (λ_=>rfl),z2u (o:=c4 false) (λ_=>rfl)]
theorem ycf:∀ (m:Bool) (t:Nat) (x:El_ t),z7 T0_ [] (ct_ m t x)=ca_ m t x
 | m,0,x=>rfl
 | m,1,x=>rfl
 | m,2,x=>rfl
 | m,3,x=>rfl
 | m,4,x=>rfl
 | m,5,x=>rfl
 | m,6,x=>rfl
 | m,7,x=>by cases m<;>rfl
 | m,8,x=>rfl
 | m,9,x=>by cases m<;>rfl
 | m,10,x=>rfl
 | m,11,x=>by cases m<;>rfl
 | m,12,x=>by cases m<;>rfl
 | m,13,x=>by cases m<;>rfl
 | m,14,x=>by cases m<;>rfl
 | m,15,x=>by cases m<;>rfl
 | _,_+16,x=>rfl
theorem yce:∀ (m:Bool) (t:Nat) (x:El_ t),z4p (T:=T0_) (ct_ m t x)=true
 | m,0,x=>rfl
 | m,1,x=>rfl
 | m,2,x=>rfl
 | m,3,x=>rfl
 | m,4,x=>rfl
 | m,5,x=>rfl
 | m,6,x=>rfl
 | m,7,x=>by cases m<;>rfl
 | m,8,x=>rfl
 | m,9,x=>by cases m<;>rfl
 | m,10,x=>rfl
 | m,11,x=>by cases m<;>rfl
 | m,12,x=>by cases m<;>rfl
 | m,13,x=>by cases m<;>rfl
 | m,14,x=>by cases m<;>rfl
 | m,15,x=>by cases m<;>rfl
 | _,_+16,x=>rfl
theorem ykn:∀ (m:Bool) (t:Nat) (cs:List (TV El_)) (x:El_ t),un_ m t cs=some x->z7 T0_ [] cs=ca_ m t x
 | m,0,cs,x=>ymx m cs x
 | m,1,cs,x=>ymy m cs x
 | m,2,cs,x=>ymz m cs x
 | m,3,cs,x=>yn0 m cs x
 | m,4,cs,x=>yn1 m cs x
 | m,5,cs,x=>yn2 m cs x
 | m,6,cs,x=>yn3 m cs x
 | m,7,cs,x=>yn4 m cs x
 | m,8,cs,x=>yn5 m cs x
 | m,9,cs,x=>yn6 m cs x
 | m,10,cs,x=>ykh m cs x
 | m,11,cs,x=>yki m cs x
 | m,12,cs,x=>ykj m cs x
 | m,13,cs,x=>ykk m cs x
 | m,14,cs,x=>ykl m cs x
 | m,15,cs,x=>ykm m cs x
 | _,_+16,_,x=>λ_=>nomatch x
theorem yil:∀ (m:Bool) (t:Nat) (x:El_ t),z2q (ca_ m t x)=ca_ false t x
 | m,0,x=>rfl
 | m,1,x=>rfl
 | m,2,x=>rfl
 | m,3,x=>rfl
 | m,4,x=>rfl
 | m,5,x=>rfl
 | m,6,x=>rfl
 | m,7,x=>im7 m x
 | m,8,x=>rfl
 | m,9,x=>im9 m x
 | m,10,x=>rfl
 | m,11,x=>yik m x
 | m,12,x=>ynf m x
 | m,13,x=>yng m x
 | m,14,x=>ynh m x
 | m,15,x=>yni m x
 | _,_+16,x=>rfl
def po_:Nat->Bool
 | 0=>true
 | 1=>true
 | 2=>true
 | 3=>true
 | 4=>true
 | 5=>true
 | 6=>true
 | 7=>true
 | 8=>true
 | 9=>true
 | 10=>true
 | 11=>true
 | 12=>true
 | 13=>true
 | 14=>true
 | 15=>true
 | _+16=>true
theorem yk3:∀ (t:Nat) (x:El_ t),po_ t=true->z21 (ca_ true t x)=true
 | 0,x=>λ_=>rfl
 | 1,x=>λ_=>rfl
 | 2,x=>λ_=>rfl
 | 3,x=>λ_=>rfl
 | 4,x=>λ_=>rfl
 | 5,x=>λ_=>rfl
 | 6,x=>λ_=>rfl
 | 7,x=>λ_=>ow7 x
 | 8,x=>λ_=>rfl
 | 9,x=>λ_=>ow9 x
 | 10,x=>λ_=>rfl
 | 11,x=>λ_=>yk2 x
 | 12,x=>λ_=>ynk x
 | 13,x=>λ_=>ynl x
 | 14,x=>λ_=>ynm x
 | 15,x=>λ_=>ynn x
 | _+16,x=>λ_=>rfl
def pl_:Nat->Bool
 | 0=>true
 | 1=>true
 | 2=>true
 | 3=>true
 | 4=>true
 | 5=>true
 | 6=>true
 | 7=>false
 | 8=>true
 | 9=>false
 | 10=>true
 | 11=>false
 | 12=>false
 | 13=>false
 | 14=>false
 | 15=>false
 | _+16=>true
theorem yk4:∀ (t:Nat) (x:El_ t),pl_ t=true->z21 (ca_ false t x)=true
 | 0,x=>λ_=>rfl
 | 1,x=>λ_=>rfl
 | 2,x=>λ_=>rfl
 | 3,x=>λ_=>rfl
 | 4,x=>λ_=>rfl
 | 5,x=>λ_=>rfl
 | 6,x=>λ_=>rfl
 | 7,x=>λh=>nomatch h
 | 8,x=>λ_=>rfl
 | 9,x=>λh=>nomatch h
 | 10,x=>λ_=>rfl
 | 11,x=>λh=>nomatch h
 | 12,x=>λh=>nomatch h
 | 13,x=>λh=>nomatch h
 | 14,x=>λh=>nomatch h
 | 15,x=>λh=>nomatch h
 | _+16,x=>λ_=>rfl
theorem yep:∀ (t:Nat) (x:El_ t),(ca_ false t x).all zfo=true
 | 0,x=>rfl
 | 1,x=>rfl
 | 2,x=>rfl
 | 3,x=>rfl
 | 4,x=>rfl
 | 5,x=>rfl
 | 6,x=>rfl
 | 7,x=>rfl
 | 8,x=>rfl
 | 9,x=>rfl
 | 10,x=>rfl
 | 11,x=>rfl
 | 12,x=>rfl
 | 13,x=>rfl
 | 14,x=>rfl
 | 15,x=>rfl
 | _+16,x=>rfl
theorem yjz:∀ (m:Bool) (t:Nat) (x:El_ t),∀ a∈ca_ m t x,isZ a=false
 | m,0,x=>z3n rfl
 | m,1,x=>z3n rfl
 | m,2,x=>z3n rfl
 | m,3,x=>z3n rfl
 | m,4,x=>z3n rfl
 | m,5,x=>z3n rfl
 | m,6,x=>z3n rfl
 | m,7,x=>by cases m<;>exact z3n rfl
 | m,8,x=>z3n rfl
 | m,9,x=>by cases m<;>exact z3n rfl
 | m,10,x=>z3n rfl
 | m,11,x=>by cases m<;>exact z3n rfl
 | m,12,x=>by cases m<;>exact z3n rfl
 | m,13,x=>by cases m<;>exact z3n rfl
 | m,14,x=>by cases m<;>exact z3n rfl
 | m,15,x=>by cases m<;>exact z3n rfl
 | _,_+16,x=>z3n rfl
theorem yjo:∀ (m:Bool) (t:Nat),(ks_ m t).all (smK sz_)=true
 | m,0=>rfl
 | m,1=>rfl
 | m,2=>rfl
 | m,3=>rfl
 | m,4=>rfl
 | m,5=>rfl
 | m,6=>rfl
 | m,7=>by cases m<;>rfl
 | m,8=>rfl
 | m,9=>by cases m<;>rfl
 | m,10=>rfl
 | m,11=>by cases m<;>rfl
 | m,12=>by cases m<;>rfl
 | m,13=>by cases m<;>rfl
 | m,14=>by cases m<;>rfl
 | m,15=>by cases m<;>rfl
 | _,_+16=>rfl
theorem yjq:∀ (m:Bool) (t:Nat) (x:El_ t),(ca_ m t x).length=sz_ t % 1000000
 | m,0,x=>rfl
 | m,1,x=>rfl
 | m,2,x=>rfl
 | m,3,x=>rfl
 | m,4,x=>rfl
 | m,5,x=>rfl
 | m,6,x=>rfl
 | m,7,x=>by cases m<;>rfl
 | m,8,x=>by simp [ca_,c8,sz_]
 | m,9,x=>by cases m<;>rfl
 | m,10,x=>rfl
 | m,11,x=>by cases m<;>rfl
 | m,12,x=>by cases m<;>rfl
 | m,13,x=>by cases m<;>rfl
 | m,14,x=>by cases m<;>rfl
 | m,15,x=>by cases m<;>rfl
 | _,_+16,x=>rfl
def kO8:List Value->Bool
 | [.int .i64 _,.int .i64 _,.int .i64 _,.int .i64 _,.int .i64 _,.int .i64 _,.int .u32 _,.int .i64 _,.int .i64 _]=>true
 | _=>false
def kf8:List Value->Xg->Bool
 | [.int .i64 a0,.int .i64 a1,.int .i64 a2,.int .i64 a3,.int .i64 a4,.int .i64 a5,.int .u32 a6,.int .i64 a7,.int .i64 a8],x=>(a0==x.k_.i_.c_&&(a1==x.k_.i_.D_&&(a2==x.k_.i_.A_&&(a3==x.k_.i_.B_&&(a4==x.k_.i_.C_&&(a5==x.k_.i_.N_&&(a6==x.k_.i_.m_&&(a7==x.k_.t_.j_&&(a8==x.k_.t_.n_&&true)))))))))
 | _,_=>false
theorem yjm (m:Bool)(kv:List Value)(x:Xg)(h:kO8 kv=true):z17 (kv.map .sc) (c8 m x) (z2p 0 [0,0,0,0,0,0,0,0,0])=some (kf8 kv x):=by
 unfold kO8 at h;split at h
 ·rfl
 ·cases h
def kq_:Nat->List Nat
 | 8=>[0,0,0,0,0,0,0,0,0]
 | _=>[]
def kO_:Nat->List Value->Bool
 | 0=>λ_=>false
 | 1=>λ_=>false
 | 2=>λ_=>false
 | 3=>λ_=>false
 | 4=>λ_=>false
 | 5=>λ_=>false
 | 6=>λ_=>false
 | 7=>λ_=>false
 | 8=>kO8
 | 9=>λ_=>false
 | 10=>λ_=>false
 | 11=>λ_=>false
 | 12=>λ_=>false
 | 13=>λ_=>false
 | 14=>λ_=>false
 | 15=>λ_=>false
 | _+16=>λ_=>false
def kf_:(t:Nat)->List Value->El_ t->Bool
 | 0=>λ_ _=>false
 | 1=>λ_ _=>false
 | 2=>λ_ _=>false
 | 3=>λ_ _=>false
 | 4=>λ_ _=>false
 | 5=>λ_ _=>false
 | 6=>λ_ _=>false
 | 7=>λ_ _=>false
 | 8=>kf8
 | 9=>λ_ _=>false
 | 10=>λ_ _=>false
 | 11=>λ_ _=>false
 | 12=>λ_ _=>false
 | 13=>λ_ _=>false
 | 14=>λ_ _=>false
 | 15=>λ_ _=>false
 | _+16=>λ_ _=>false
theorem yjn:∀ (m:Bool) (t:Nat) (kv:List Value) (x:El_ t),kO_ t kv=true->z17 (kv.map .sc) (ca_ m t x) (z2p 0 (kq_ t))=some (kf_ t kv x)
 | m,0,kv,x=>λh=>nomatch h
 | m,1,kv,x=>λh=>nomatch h
 | m,2,kv,x=>λh=>nomatch h
 | m,3,kv,x=>λh=>nomatch h
 | m,4,kv,x=>λh=>nomatch h
 | m,5,kv,x=>λh=>nomatch h
 | m,6,kv,x=>λh=>nomatch h
 | m,7,kv,x=>λh=>nomatch h
 | m,8,kv,x=>yjm m kv x
 | m,9,kv,x=>λh=>nomatch h
 | m,10,kv,x=>λh=>nomatch h
 | m,11,kv,x=>λh=>nomatch h
 | m,12,kv,x=>λh=>nomatch h
 | m,13,kv,x=>λh=>nomatch h
 | m,14,kv,x=>λh=>nomatch h
 | m,15,kv,x=>λh=>nomatch h
 | _,_+16,_,_=>λh=>nomatch h
abbrev Ty_:TT where
 El:=El_
 sz:=sz_
 ca:=ca_
 ks:=ks_
 ct:=ct_
 un:=un_
 ct_ok:=ycf
 ct_in:=yce
 un_ok:=ykn
 im_ok:=yil
 po:=po_
 ow_ok:=yk3
 nz_ok:=yjz
 fl_ok:=yep
 pl:=pl_
 pl_ok:=yk4
 u8:=0
 bs:=λl=>l
 bs_ok:=λ_=>rfl
 bs_sz:=rfl
 sb:=λl=>l
 sb_ok:=λ_ _=>rfl
 ks_sm:=yjo
 ln_ok:=yjq
 kq:=kq_
 kOk:=kO_
 kf:=kf_
 kf_ok:=yjn
abbrev Yaa:=Int×Int
abbrev Yab:=Int×(List Int)
abbrev Yac:=Int×(List Bool)
abbrev Yad:=Int×(List Xa)×(List Xb)×(List Xc)×(List Xd)
abbrev Yae:=(List Xa)×(List Xb)×(List Xc)×(List Xd)×(List Bool)×(List (List Int))×(List Int)×Xd
abbrev Yaf:=Int×(List (List Int))
abbrev Yag:=Int×Bool
abbrev Yah:=Bool×Int×Int×Bool×Bool
abbrev Yai:=Xe×Xd
abbrev Yaj:=Xe×Xe
abbrev Yak:=Bool×(List Xa)×(List Xb)×(List Xc)×(List Xd)
abbrev Yal:=(List Xa)×(List Xb)×(List Xc)
abbrev Yam:=ByteArray×Bool
abbrev Yan:=Bool×(List Xa)×(List Xb)×(List Xc)×(List Xd)×(List Bool)×(List (List Int))×(List Int)
abbrev Yao:=Int×Int×Int
abbrev Yap:=Bool×Bool×Bool×Int×Int×Bool×Bool×Bool×Int×Int×Bool×Bool
abbrev Yaq:=Int×(List Xd)×(List (List Xg))×(List Int)
abbrev Yar:=(List Xb)×(List Xa)×(List Xb)×(List Xc)×(List Xd)
abbrev Yas:=(List Xc)×(List Xa)×(List Xb)×(List Xc)×(List Xd)
abbrev Yat:=Int×Int×Int×Int×Int×Int×Int
abbrev Yau:=(List Int)×Int
abbrev Yav:=Int×(List Xj)
abbrev Yaw:=Xk×(List (List Int))×(List (List Int))
abbrev Yax:=Int×(List Xa)×(List Xb)×(List Xc)×(List Xd)×(List Bool)×(List (List Int))×(List Int)×Int×Int×Int×Int
abbrev Yay:=Int×(List Xa)×(List Xb)×(List Xc)×(List Xd)×(List Bool)×(List (List Int))×(List Int)
abbrev Yaz:=ByteArray×Int×Int
abbrev Yba:=Xe×Xd×(List Bool)×(List Xi)
abbrev Ybb:=Int×(List Bool)×(List Xi)
abbrev Ybc:=Int×Int×Int×Int
abbrev Ybd:=Int×(List Xd)
abbrev Ybe:=Int×(List Xb)
abbrev Ybf:=Int×(List Xc)
abbrev Ybg:=Int×Int×Int×Int×Int
abbrev Ybh:=(List Xd)×Int×(List Xa)×(List Xb)×(List Xc)
abbrev Ybi:=Xk×Int
abbrev Ybj:=(List (List Xg))×(List Int)×Xd
abbrev Ybk:=(List (List Xg))×(List Int)×Xf
abbrev Ybl:=(List Xa)×ByteArray
abbrev Ybm:=Bool×Int×Int
abbrev Ybn:=Bool×(List Int)
abbrev Ybo:=Xl×Xd
abbrev Ybp:=Int×(List Xa)×(List Xb)×(List Xc)×(List Xd)×(List Xj)×(List Xa)×(List Xb)×(List Xc)×(List Xd)×(List Xj)
abbrev Ybq:=Bool×(List Xa)×(List Xb)×(List Xc)×(List Xd)×(List Bool)×(List (List Int))×(List Int)×Int×Int
abbrev Ybr:=(List (List Xg))×(List Int)×Int×Int×Int×Int×Int×Int×Int
abbrev Ybs:=Int×Int×(List Xa)×(List Xb)×(List Xc)×(List Xd)×(List Xj)×(List Xj)×(List (List Int))×(List (List Int))×(List (List Int))×Int
abbrev Ybt:=Xe×Xe×(List Xh)×Int
abbrev Ybu:=(List Xa)×(List Xb)×(List Xc)×(List Xd)×(List Xa)×(List Xb)×(List Xc)
abbrev Ybv:=(List Xa)×(List Xb)×(List Xc)×(List Xd)×(List Xa)×(List Xc)×(List Xd)
abbrev Ybw:=(List Xa)×(List Xb)×(List Xc)×(List Xd)×(List Xa)×(List Xb)×(List Xd)
abbrev Ybx:=(List Xa)×(List Xb)×(List Xc)×(List Xd)
abbrev Yby:=Bool×Int×Int×Int×Int×Int
abbrev Ybz:=Bool×Int
abbrev Yca:=Bool×(List (List Xg))×(List Int)×Int×Int×Int×Int×Int×Int×Int
abbrev Ycb:=ByteArray×Bool×Int×Int
abbrev Ycc:=Bool×Bool
abbrev Ycd:=Bool×Bool×Int×Int×Bool×Bool×Bool×Int×Int×Bool×Bool
abbrev Yce:=(List (List Int))×(List (List Int))
abbrev Ycf:=Bool×(List Xa)×(List Xb)×(List Xc)×(List Xd)×(List Xj)×(List Xa)×(List Xb)×(List Xc)×(List Xd)×(List Xj)
abbrev Ycg:=ByteArray×Int
abbrev Ych:=(List Xa)×(List Xb)×(List Xc)×(List Xd)×(List Bool)×(List (List Int))×(List Int)×Int
abbrev Yci:=Xa×(List Int)×Int
abbrev Ycj:=Xb×(List Xa)×(List Xb)×(List Xc)×(List Xd)
abbrev Yck:=Xc×(List Xa)×(List Xb)×(List Xc)×(List Xd)
abbrev Ycl:=Xb×Int×Xb
abbrev Ycm:=(List Xa)×(List Xb)×(List Xc)×(List Xd)×(List Bool)×(List (List Int))×(List Int)
abbrev Ycn:=Int×Bool×(List (List Xg))×(List Int)
abbrev Yco:=Xb×(List Xa)
abbrev Ycp:=Xc×(List Xa)
abbrev Ycq:=Xe×Int×Int×Xb
abbrev Ycr:=Xe×Int×Int
abbrev Ycs:=Int×(List Xa)×(List Xb)×(List Xc)×(List Xd)×(List Xj)
abbrev Yct:=(List Xa)×(List (List Int))
abbrev Ycu:=(List (List Int))×Int×(List Xa)×(List Xb)×(List Xc)×(List Xd)×(List Xj)
abbrev Ycv:=Bool×(List Xa)×(List Xb)×(List Xc)×(List Xd)×(List Bool)×(List (List Int))×(List Int)×Int×Int×Int×Int×Int×Int×Int
abbrev Ycw:=(List (List Int))×(List Int)
abbrev Ycx:=Bool×(List (List Int))×(List Int)
abbrev Ycy:=Int×Int×Bool×Bool
abbrev Ycz:=Bool×Int×Int×Int×Int×Int×Int×Int
abbrev Yda:=Bool×Bool×Int×Int×Bool×Bool
abbrev Ydb:=Bool×Int×Int×Bool×Bool×Bool×Int×Int×Bool×Bool
abbrev Ydc:=Bool×Int×Bool×Int×Int×Bool×Bool×Bool×Int×Int×Bool×Bool
abbrev Ydd:=(List Xa)×(List Xb)×(List Xc)×(List Xd)×(List Xj)×(List Xj)×(List (List Int))×(List (List Int))×(List (List Int))×Int
abbrev Yde:=Bool×Int×Int×Int×Int×Int×Int×Int×Int
abbrev Ydf:=(List (List Int))×Int×Int×(List Xa)×(List Xb)×(List Xc)×(List Xd)×(List Xj)
abbrev Ydg:=Int×Int×(List Int)
abbrev Ydh:=Int×Bool×(List Xa)×(List Xb)×(List Xc)×(List Xd)×(List Xa)×(List Xb)×(List Xc)×(List Xd)
abbrev Ydi:=Bool×(List Xa)×(List Xb)×(List Xc)×(List Xd)×(List Xa)×(List Xb)×(List Xc)×(List Xd)
def yeq (n:Nat):Cx P_ Ty_:=⟨[],[(9,false,1),(15,false,2),(21,false,3),(27,false,4)],[],[]⟩
abbrev yer:List (List Nat):=[[1,2],[1,2,3],[1,2,3],[1,2,3],[1,2,3],[2,3],[2]]
def zyj (n:Nat)(x:Xe):Pt P_ Ty_ [] (Ybx):=.need (x.f_.length * 32<=140737488355328) (.need (x.a_.length * 16<=140737488355328) (.need (x.e_.length * 32<=140737488355328) (.need (x.d_.length * 56<=140737488355328) (.leaf (x.f_,x.a_,x.e_,x.d_)))))
def zwf (n:Nat):Con P_ Ty_:=zj (X:=Xe) (R:=Ybx) (pro:=[]) (yeq n) 7 yer (λx=>.no) [.ag [.im 1,.im 2,.im 3,.im 4]] [] [100000] ⟨[(2,.ref 100000)],[(100000,.any)]⟩ [100000] true (λx=>[.ag [.im 1 x.f_,.im 2 x.a_,.im 3 x.e_,.im 4 x.d_]]) (λx=>[]) (λy=>([(2,.pt 100000 [] 0 0)],[(100000,.lit 4 [[.ow false 1 y.1,.ow false 2 y.2.1,.ow false 3 y.2.2.1,.ow false 4 y.q3]])])) (λy=>.ag [.sw 100000 [(0,0)],.sw 100000 [(0,1)],.sw 100000 [(0,2)],.sw 100000 [(0,3)]]) (λy=>[(100000,.lit 4 [[.ow false 1 y.1,.ow false 2 y.2.1,.ow false 3 y.2.2.1,.ow false 4 y.q3]])]) (zyj n)
set_option maxHeartbeats 1000000 in
theorem ykr (s:ByteArray)(c:Int)(w:World) :
  Calls Go.Proofs.Tryz.prog 107 #[.string s,.int .u8 c] w λe w'=>e = .returned (.int .i64 (Lib.indexByte s.data.toList c.toNat.toUInt8))/\w'=w:=by
 go_enter Go.Proofs.Tryz.func107,Go.Proofs.Tryz.ntmps107
 go_wp2
 rw [run_callFunc_extern Go.Proofs.Tryz.func117 (by kernel_rfl) (by kernel_rfl) (by kernel_rfl) (e:=Extern.BytealgIndexByte.indexByte) (by kernel_rfl),Lib.run_indexByteString];simp only [Result.andThen];rw [Oper.upon_value]
 go_wp2
 go_ret
 exact ⟨rfl,rfl⟩
def g71 (_:Nat)(a0:ByteArray)(a1:Int):Option Int:=some (Lib.indexByte a0.data.toList a1.toNat.toUInt8)
theorem y36 (n:Nat)(a0:ByteArray)(a1:Int)(r:Int)(hg:g71 n a0 a1=some r):z1q Go.Proofs.Tryz.prog 107 [St a0,.sc (.int .u8 a1)] [] (I64 r) []:=by obtain rfl:=Option.some.inj hg;exact z1q.quiet (vs:=[.string a0,.int .u8 a1]) λw=>ykr a0 a1 w
def k71 (n:Nat):Con Go.Proofs.Tryz.prog Ty_ where
 f:=107
 X:=ByteArray×Int
 Y:=Int
 A:=[.any,.any]
 H:=[]
 N:=[]
 encA:=λx=>[.sc (.string x.1),.sc (.int .u8 x.2)]
 encH:=λ_=>[]
 G:=λx=>g71 n x.1 x.2
 encR:=λy=>.sc (.int .i64 y)
 encO:=λ_=>[]
 strong:=true
 ok:=λx y h=>⟨λ_=>y36 n x.1 x.2 y h,z1q.toG (y36 n x.1 x.2 y h)⟩
def ymj (n:Nat):Cx P_ Ty_:=⟨[k71 n],[],[],[]⟩
abbrev ymk:List (List Nat):=[[0,1],[4]]
def y9d (n:Nat)(x:Ycg):Pt P_ Ty_ [] Int:=.call (k71 n) (x.1,x.2) λ(y1:Int)=>.leaf y1
def k68 (n:Nat):Con P_ Ty_:=zj (X:=Ycg) (R:=Int) (pro:=[]) (ymj n) 96 ymk (λx=>.no) [.any,.any] [] [] ⟨[(4,.any)],[]⟩ [] true (λx=>[.sc (.string x.1),.sc (.int .u8 x.2)]) (λx=>[]) (λy=>([(4,I_ y)],[])) (λy=>I_ y) (λy=>[]) (y9d n)
def y92 (n:Nat):Cx P_ Ty_:=⟨[k68 n],[],[],[]⟩
abbrev y93:List (List Nat):=[[0],[0,11],[2],[13,14,15],[13,14,15,16],[4,13,14,15],[4,13,14,15,19],[4,13,14,15,19],[4,13,14,15,19],[13,14,15,19],[2],[13,14,15],[2]]
def y2p (x:ByteArray)(p:Bool):EH Ty_:=([(0,.sc (.string x)),(11,B_ p)],[])
def y2q (x:ByteArray)(v1:Unit)(q1:Int)(p:Yag):EH Ty_:=([(4,.sc (.int .u8 p.1)),(13,.im 0 (bytesOf x)),(14,I_ ((bytesOf x).length:Int)),(15,I_ q1),(19,B_ p.2)],[])
def y2r (x:ByteArray)(v1:Unit)(q1:Int)(p:Yag):EH Ty_:=([(4,.sc (.int .u8 p.1)),(13,.im 0 (bytesOf x)),(14,I_ ((bytesOf x).length:Int)),(15,I_ q1),(19,B_ p.2)],[])
def y2s (x:ByteArray)(v1:Unit)(q1:Int)(p:Yag):EH Ty_:=([(4,.sc (.int .u8 p.1)),(13,.im 0 (bytesOf x)),(14,I_ ((bytesOf x).length:Int)),(15,I_ q1),(19,B_ p.2)],[])
def y2t (x:ByteArray)(v1:Unit)(q1:Int)(p:Bool):EH Ty_:=([(13,.im 0 (bytesOf x)),(14,I_ ((bytesOf x).length:Int)),(15,I_ q1),(19,B_ p)],[])
def y2u (n:Nat)(x:ByteArray)(v1:Unit)(q1:Int):Pt P_ Ty_ [] (Bo Int Int Unit):=.ite (decide (q1<((bytesOf x).length:Int))) (.bnd (idx (bytesOf x) q1) λy1=>.join (S:=Bool) (y2t x v1 q1) (.join (S:=Yag) (y2q x v1 q1) (.ite (decide (y1>=(65:Int))) (.leaf (.inl (y1,(decide (y1<=(90:Int)))))) (.leaf (.inl (y1,false)))) λs2=>.ite s2.2 (.leaf (.inl true)) (.join (S:=Yag) (y2r x v1 q1) (.ite (decide (s2.1>=(97:Int))) (.leaf (.inl (s2.1,(decide (s2.1<=(122:Int)))))) (.leaf (.inl (s2.1,false)))) λs3=>.ite s3.2 (.leaf (.inl true)) (.join (S:=Yag) (y2s x v1 q1) (.ite (decide (s3.1>=(48:Int))) (.leaf (.inl (s3.1,(decide (s3.1<=(57:Int)))))) (.leaf (.inl (s3.1,false)))) λs4=>.ite s4.2 (.leaf (.inl true)) (.call (k68 n) ((⟨#[95,46,47,45]⟩:ByteArray),s4.1) λ(y2:Int)=>.leaf (.inl (decide (y2>=(0:Int)))))))) λs5=>.ite s5 (.leaf (.go (i64.wrap (q1+(1:Int))))) (.leaf (.ret ()))) (.leaf (.out q1))
def y2o (n:Nat)(x:ByteArray)(v1:Unit):z15 P_ Ty_ []:=z1d (X:=Int) (Y:=Int) (Z:=Unit) (y92 n) (z16 [1,1,0,1,0,0] (fnC P_ 78 y93)) (λq1=>.two .no (.two .no (.two (.two (.two .no (.two (.join Bool (y2t x v1 q1) ⟨[(13,.im 0),(14,.any),(15,.any),(19,.any)],[]⟩ (.join (Yag) (y2q x v1 q1) ⟨[(4,.any),(13,.im 0),(14,.any),(15,.any),(19,.any)],[]⟩ .no (.two .no (.join (Yag) (y2r x v1 q1) ⟨[(4,.any),(13,.im 0),(14,.any),(15,.any),(19,.any)],[]⟩ .no (.two .no (.join (Yag) (y2s x v1 q1) ⟨[(4,.any),(13,.im 0),(14,.any),(15,.any),(19,.any)],[]⟩ .no .no))))) .no) .no)) .no) .no))) 0 true ⟨[(13,.im 0),(14,.any),(15,.any)],[]⟩ ⟨[(13,.im 0),(14,.any),(15,.any),(16,.any)],[]⟩ ⟨[(2,.any)],[]⟩ (λq1=>([(13,.im 0 (bytesOf x)),(14,I_ ((bytesOf x).length:Int)),(15,I_ q1)],[])) (λp=>([(13,.im 0 (bytesOf x)),(14,I_ ((bytesOf x).length:Int)),(15,I_ p),(16,B_ false)],[])) (λp=>([(2,B_ false)],[])) n (y2u n x v1)
def y94 (n:Nat)(x:ByteArray):Pt P_ Ty_ [] Bool:=.join (S:=Bool) (y2p x) (.ite (x==(⟨#[]⟩:ByteArray)) (.leaf (.inl true)) (.leaf (.inl (decide ((x.size:Int) > (64:Int)))))) λs1=>.ite s1 (.leaf false) (.loopR (V:=Unit) (y2o n x) () (0:Int) (λ(v1:Unit) (y3:Int)=>.leaf true) λ(v1:Unit) (z1:Unit)=>.leaf false)
def k61 (n:Nat):Con P_ Ty_:=zj (X:=ByteArray) (R:=Bool) (pro:=[]) (y92 n) 78 y93 (λx=>.two .no (.two (.join Bool (y2p x) ⟨[(0,.any),(11,.any)],[]⟩ .no .no) (.two (.two .no (.two (.loop Unit (y2o n x) true ⟨[(13,.im 0),(14,.any),(15,.any)],[]⟩) .no)) .no))) [.any] [] [] ⟨[(2,.any)],[]⟩ [] true (λx=>[.sc (.string x)]) (λx=>[]) (λy=>([(2,B_ y)],[])) (λy=>B_ y) (λy=>[]) (y94 n)
def ylt (n:Nat):Cx P_ Ty_:=⟨[k61 n],[],[],[]⟩
abbrev ylu:List (List Nat):=[[1],[2]]
def y8f (n:Nat)(x:Xa):Pt P_ Ty_ [] Bool:=.call (k61 n) x.q_ λ(y1:Bool)=>.ite y1 (.ite (x.j_==1) (.ite (decide (x.r_>=(1:Int))) (.leaf (decide (x.r_<=(4096:Int)))) (.leaf false)) (.ite (x.j_==2) (.ite (decide (x.r_>=(1:Int))) (.leaf (decide (x.r_<=(4096:Int)))) (.leaf false)) (.leaf false))) (.leaf false)
def k48 (n:Nat):Con P_ Ty_:=zj (X:=Xa) (R:=Bool) (pro:=[]) (ylt n) 57 ylu (λx=>.no) [.ag [.any,.any,.any]] [] [] ⟨[(2,.any)],[]⟩ [] true (λx=>[.ag [.sc (.string x.q_),I_ x.j_,I_ x.r_]]) (λx=>[]) (λy=>([(2,B_ y)],[])) (λy=>B_ y) (λy=>[]) (y8f n)
def ym9 (n:Nat):Cx P_ Ty_:=⟨[k48 n],[],[],[]⟩
abbrev yma:List (List Nat):=[[1],[1,3],[2],[1,7],[2],[2]]
def y95 (n:Nat)(x:Xa):Pt P_ Ty_ [] Int:=.call (k48 n) x λ(y1:Bool)=>.ite (!y1) (.leaf (0:Int)) (.ite (x.j_==2) (.leaf (i64.wrap ((2:Int) * x.r_))) (.leaf x.r_))
def k62 (n:Nat):Con P_ Ty_:=zj (X:=Xa) (R:=Int) (pro:=[]) (ym9 n) 79 yma (λx=>.no) [.ag [.any,.any,.any]] [] [] ⟨[(2,.any)],[]⟩ [] true (λx=>[.ag [.sc (.string x.q_),I_ x.j_,I_ x.r_]]) (λx=>[]) (λy=>([(2,I_ y)],[])) (λy=>I_ y) (λy=>[]) (y95 n)
def y8g (n:Nat):Cx P_ Ty_:=⟨[k62 n],[],[],[]⟩
abbrev y8h:List (List Nat):=[[0],[0,3],[3,6,7,8],[3,6,7,8,9],[3,5,6,7,8],[3,6,7,8],[3,6,7,8],[2]]
def y1v (n:Nat)(x:(List Xa))(v1:Unit)(q1:Yaa):Pt P_ Ty_ [] (Bo (Yaa) (Yaa) Empty):=.ite (decide (q1.2<(x.length:Int))) (.bnd (idx x q1.2) λy1=>.call (k62 n) y1 λ(y2:Int)=>.leaf (.go ((i64.wrap (q1.1+y2)),(i64.wrap (q1.2+(1:Int)))))) (.leaf (.out (q1.1,q1.2)))
def y1u (n:Nat)(x:(List Xa))(v1:Unit):z15 P_ Ty_ []:=z1d (X:=Yaa) (Y:=Yaa) (Z:=Empty) (y8g n) (z16 [1,1,0,1,0,0] (fnC P_ 58 y8h)) (λq1=>.no) 0 false ⟨[(3,.any),(6,.im 1),(7,.any),(8,.any)],[]⟩ ⟨[(3,.any),(6,.im 1),(7,.any),(8,.any),(9,.any)],[]⟩ ⟨[],[]⟩ (λq1=>([(3,I_ q1.1),(6,.im 1 x),(7,I_ (x.length:Int)),(8,I_ q1.2)],[])) (λp=>([(3,I_ p.1),(6,.im 1 x),(7,I_ (x.length:Int)),(8,I_ p.2),(9,B_ false)],[])) (λp=>nomatch p) n (y1v n x v1)
def y8i (n:Nat)(x:(List Xa)):Pt P_ Ty_ [] Int:=.loop (V:=Unit) (y1u n x) () ((0:Int),(0:Int)) λ(v1:Unit) (y3:Yaa)=>.leaf y3.1
def k49 (n:Nat):Con P_ Ty_:=zj (X:=(List Xa)) (R:=Int) (pro:=[]) (y8g n) 58 y8h (λx=>.two .no (.two .no (.two (.two .no (.two (.loop Unit (y1u n x) false ⟨[(3,.any),(6,.im 1),(7,.any),(8,.any)],[]⟩) .no)) .no))) [.im 1] [] [] ⟨[(2,.any)],[]⟩ [] true (λx=>[.im 1 x]) (λx=>[]) (λy=>([(2,I_ y)],[])) (λy=>I_ y) (λy=>[]) (y8i n)
def y0s (n:Nat)(a0:List Xa):Option Int:=(k49 n).G a0
def zjk (n:Nat)(a0:Xa):Option Bool:=(k48 n).G a0
theorem yie (n:Nat)(p:Xa)(v:Bool)(hv:(k48 n).G p=some v):z1q Go.Proofs.Tryz.prog 57 [.ag [St p.q_,I64 p.j_,I64 p.r_]] [] (Bl v) []:=((k48 n).ok p v hv).1 rfl
theorem yif (n:Nat)(p:List Xa)(v:Int)(hv:(k49 n).G p=some v):z1q Go.Proofs.Tryz.prog 58 [.im 3 (p.map (c1 false))] [] (I64 v) []:=((k49 n).ok p v hv).1 rfl
/-- sign.Check over the parameters: none: one may not be;else the names,each once. -/
def zbr (n:Nat):List Xa->List ByteArray->Option (Option (List ByteArray))
 | [],ks=>some (some ks)
 | p::l,ks=>(zjk n p).bind λv=>bif v then zbr n l (bif has p.q_ ks then ks else ks++[p.q_]) else some none
def z9v (n:Nat)(a0:List Xa):Option (List ByteArray)->Option Int
 | none=>some 100
 | some ks=>bif decide ((ks.length:Int)<((a0.map (c1 false)).length:Int)) then some 101 else (y0s n a0).bind λv=>bif decide (v > 65536) then some 102 else some 0
def g28 (n:Nat)(a0:List Xa):Option Int:=bif decide (((a0.map (c1 false)).length:Int) > 64) then some 2 else (zbr n a0 []).bind (z9v n a0)

namespace F28
abbrev P:Program:=Go.Proofs.Tryz.prog
def b:Code:=(Go.Proofs.Tryz.f36.body).getD .skip
theorem body:Go.Proofs.Tryz.f36.body=some b:=by kernel_rfl
theorem e1:b = .seq (lf b) (.seq (lf (rt b)) (.seq (.region (rid (lf (rt (rt b)))) (z8l (lf (rt (rt b)))) false) (.seq (lf (rt (rt (rt b)))) (rt (rt (rt (rt b))))))):=by kernel_rfl
abbrev R3:Array Oper:=z8l (lf (rt (rt b)))
def z:Code:=lf (rt (rt (rt b)))
def q:Code:=rt (rt (rt (rt b)))
def l:Code:=lf (lf (rt z))
theorem e2:z = .seq (lf z) (.block 0 (.loop l)):=by kernel_rfl
theorem e3:l = .seq (lf l) (.seq (.cond (.tmp 13) .skip (.exit 0)) (.seq (.block 1 (.seq (lf (lf (lf (rt (rt l))))) (.seq (lf (rt (lf (lf (rt (rt l)))))) (.region (rid (rt (rt (lf (lf (rt (rt l))))))) (z8l (rt (rt (lf (lf (rt (rt l))))))) false)))) (rt (rt (rt l))))):=by kernel_rfl
abbrev R9:Array Oper:=z8l (rt (rt (lf (lf (rt (rt l))))))
theorem e4:q = .seq (.block 2 (.seq (.region (rid (lf (lf (lf q)))) (z8l (lf (lf (lf q)))) false) (rt (lf (lf q))))) (rt q):=by kernel_rfl
abbrev R11:Array Oper:=z8l (lf (lf (lf q)))
end F28
namespace F28
abbrev xs (a0:List Xa):Els:=a0.map (c1 false)
abbrev mp (b:Nat):AV:=.sc (.map (some b))
/-- The slots at the loop's head. -/
abbrev EL (a0:List Xa)(b:Nat)(i:Int):Env:=z1a [(0,.im 3 (xs a0)),(3,mp b),(10,.im 3 (xs a0)),(11,I64 ((xs a0).length:Int)),(12,I64 i)]
abbrev EL' (a0:List Xa)(b:Nat)(i:Int):Env:=z1a [(0,.im 3 (xs a0)),(3,mp b),(10,.im 3 (xs a0)),(11,I64 ((xs a0).length:Int)),(12,I64 i),(13,Bl (decide (i<((xs a0).length:Int))))]
theorem ut:P.underlying 122=some (.map 9 3):=by kernel_rfl
theorem uk:P.underlying 9=some .string:=by kernel_rfl
theorem uz (w:World):(zeroValue 3).run P w = .ok (.int .i64 0) w:=by kernel_rfl

theorem ykv {w0 w:World}{a:Act}{a0:List Xa}{bm:Nat}{ks:List ByteArray}{i:Int}{p:Xa}{Q:Exit->Act->World->Prop}
  (n:Now 35 w0 (some (bm,ks)) (z1a [(0,.im 3 (xs a0)),(3,mp bm),(5,.pt 5 [] 0 0),(10,.im 3 (xs a0)),(11,I64 ((xs a0).length:Int)),(12,I64 i),(18,Bl false)]) [(5,⟨3,[[St p.q_,I64 p.j_,I64 p.r_]]⟩)] a w)
  (hK:∀ a' w',Now 35 w0 (some (bm,bif has p.q_ ks then ks else ks++[p.q_])) (EL a0 bm i) [] a' w'->Q .normal a' w') :
  (Code.region (rid (rt (rt (lf (lf (rt (rt l))))))) R9 false).wp P Q a w:=by
 refine wp_region ?_;have hr:range R9.size=[0,1,2,3,4,5]:=by kernel_rfl
 rw [hr];refine n.rda (d:=19) (b:=.mov (.tmp 3)) (mp bm) (by kernel_rfl) (by kernel_rfl) λa w n=>?_;refine n.rda (d:=20) (b:=.fad 0 (.tmp 5)) (.pt 5 [] 0 0) (by kernel_rfl) (by kernel_rfl) λa w n=>?_;refine n.rda (d:=21) (b:=.load false 1 (.tmp 20)) (St p.q_) (by kernel_rfl) (by kernel_rfl) λa w n=>?_;obtain ⟨o,ho,hg,hd,hop⟩:=zk3 (ops:=R9) (i:=3) (g:=none) (d:=some 22) (op:=.lookup 122 (.tmp 19) (.tmp 21) false) (by kernel_rfl);obtain ⟨c,hc⟩:=(n.km bm ks rfl).1.lookup (P:=P) ut uk (uz w) p.q_;have hm:a.eval (.tmp 19) = .map (some bm):=n.eval rfl;have hk:a.eval (.tmp 21) = .string p.q_:=n.eval rfl;refine n.val (v:=.int .i64 c) ho hg hd (by decide) (by simp only [execOp,hop,hm,hk,Sem.run_bind,hc,Result.andThen];rfl) λa n=>?_;refine n.rda (d:=23) (b:=.bin .add (.tmp 22) (.const (.int .i64 1))) (I64 (i64.wrap (c+1))) (by kernel_rfl) (by kernel_rfl) λa w n=>?_;obtain ⟨o,ho,hg,hd,hop⟩:=zk3 (ops:=R9) (i:=5) (g:=none) (d:=none) (op:=.mapUpdate 122 (.tmp 19) (.tmp 21) (.tmp 23)) (by kernel_rfl);refine n.upd ho hg hd hop ut uk rfl rfl rfl λa w n=>?_;exact hK _ _ (n.gh (z9.norm (P:=P) (bm:=[]) (S:=[0,3,10,11,12]) (by kernel_rfl)))

theorem loop {n:Nat}{w0:World}{a0:List Xa}{bm:Nat}{r:Int}{Q:Exit->Act->World->Prop}(he:∀ ks a w,z9v n a0 (some ks)=some r->Now 35 w0 (some (bm,ks)) (EL' a0 bm a0.length) [] a w->Q (.exit 0) a w)
  (hr:∀ m e' h' a' w',z81 e' h' [.t 2]=some (I64 r)->Now 35 w0 m e' h' a' w'->Q .ret a' w'):∀ (rest pre:List Xa) (ks:List ByteArray) (a:Act) (w:World),a0=pre++rest->a0.length<=64->(zbr n rest ks).bind (z9v n a0)=some r ->
  Now 35 w0 (some (bm,ks)) (EL a0 bm pre.length) [] a w->z3t P F28.l Q a w:=by
 intro rest
 induction rest with
 | nil =>
  intro pre ks a w hp hlen hg nw;refine z3t.step (Eq.mpr (congrArg (λX:Code=>X.wp P (Exit.then (z3t P F28.l Q) Q) a w) e3) ?_)
  focus
   refine wp_seq (nw.ex (c:=.reg [0,3,10,11,12,13] [⟨13,none,.rd (.bin .lss (.tmp 12) (.tmp 11))⟩]) (R:=λo e h=>o = .normal/\e=EL' a0 bm pre.length/\h=[]) ⟨[[0,3,10,11,12,13]],[],by kernel_rfl⟩ (W.regG (RG.fin 1 [] _ [] (by kernel_rfl) ⟨rfl,rfl,rfl⟩)) ?_);rintro o e h a w ⟨rfl,rfl,rfl⟩ nw;refine wp_seq (wp_cond (t:=false) ?_ (wp_exit ?_))
   ·rw [nw.eval (v:=.bool (decide ((pre.length:Int)<((xs a0).length:Int)))) rfl];simp [xs,hp]
   ·refine he ks a w ?_ ?_
    ·simpa [zbr] using hg
    ·have:pre.length=a0.length:=by simp [hp]
     rw [<- this];exact nw
 | cons p rest ih =>
  intro pre ks a w hp hlen hg nw
  have hi:idx a0 (pre.length:Int)=some p:=by simp [idx,hp]
  have hl:pre.length<a0.length:=by simp [hp]
  refine z3t.step (Eq.mpr (congrArg (λX:Code=>X.wp P (Exit.then (z3t P F28.l Q) Q) a w) e3) ?_)
  focus
   refine wp_seq (nw.ex (c:=.reg [0,3,10,11,12,13] [⟨13,none,.rd (.bin .lss (.tmp 12) (.tmp 11))⟩]) (R:=λo e h=>o = .normal/\e=EL' a0 bm pre.length/\h=[]) ⟨[[0,3,10,11,12,13]],[],by kernel_rfl⟩ (W.regG (RG.fin 1 [] _ [] (by kernel_rfl) ⟨rfl,rfl,rfl⟩)) ?_);rintro o e h a w ⟨rfl,rfl,rfl⟩ nw;refine wp_seq (wp_cond (t:=true) ?_ (wp_skip ?_))
   ·rw [nw.eval (v:=.bool (decide ((pre.length:Int)<((xs a0).length:Int)))) rfl];simp [xs,hp];omega
   show (Code.seq _ _).wp _ _ _ _
   refine wp_seq (wp_block (wp_seq (nw.ex (c:=.reg [0,3,5,10,11,12] [⟨14,none,.rd (.iad 3 (.tmp 10) (.tmp 12))⟩,⟨15,none,.rd (.load true 3 (.tmp 14))⟩,⟨5,none,.mk (.box 3 (.const (.agg #[(.string ⟨#[]⟩),(.int .i64 (0)),(.int .i64 (0))])))⟩,⟨35,none,.st 3 (.tmp 5) (.tmp 15)⟩])
    (R:=λo e h=>o = .normal/\e=z1a [(0,.im 3 (xs a0)),(3,mp bm),(5,.pt 5 [] 0 0),(10,.im 3 (xs a0)),(11,I64 ((xs a0).length:Int)),(12,I64 pre.length)]/\h=[(5,⟨3,[[St p.q_,I64 p.j_,I64 p.r_]]⟩)])
    ⟨[[0,3,5,10,11,12]],[],by kernel_rfl⟩ (W.regG ?_) ?_)))
   ·refine RG.iadIm (R:=Xa) (r:=p) (E:=some) (c:=(c1 false)) (xs:=a0) (i:=pre.length) (k:=.i64) (by kernel_rfl) (by kernel_rfl) (by kernel_rfl) (by rw [hi];rfl) (λy2 _ hg=>?_);cases hg;exact RG.fin 3 [(5,5)] _ _ (by kernel_rfl) ⟨rfl,rfl,rfl⟩
   rintro o e h a w ⟨rfl,rfl,rfl⟩ nw;obtain ⟨v,hv,hg⟩:=Option.bind_eq_some_iff.1 (show ((zjk n p).bind λv=>(bif v then zbr n rest (bif has p.q_ ks then ks else ks++[p.q_]) else some none).bind (z9v n a0))=some r by rw [<- Option.bind_assoc];exact hg);show (Code.seq _ _).wp _ _ _ _
   refine wp_seq (nw.ex (c:=.seq (.reg [0,3,5,10,11,12,18] [⟨16,none,.rd (.load true 3 (.tmp 5))⟩,⟨17,none,.call 57 [(.tmp 16)]⟩,⟨18,none,.rd (.un1 .not (.tmp 17))⟩]) (.cond (.tmp 18) (.seq (.reg [2] [⟨2,none,.rd (.mov (.const (.int .i64 100)))⟩]) .ret) .skip))
    (R:=λo e h=>(o = .ret/\v=false/\e=z1a [(2,I64 100)])\/(o = .normal/\v=true/\e=z1a [(0,.im 3 (xs a0)),(3,mp bm),(5,.pt 5 [] 0 0),(10,.im 3 (xs a0)),(11,I64 ((xs a0).length:Int)),(12,I64 pre.length),(18,Bl false)]/\h=[(5,⟨3,[[St p.q_,I64 p.j_,I64 p.r_]]⟩)]))
    ⟨[[0,3,5,10,11,12,18],[2]],[],by kernel_rfl⟩ ?_ ?_)
   ·refine W.seq (W.regG ?_);refine RG.cut 1 [(5,5)] [0,3,5,10,11,12,16] (z1a [(0,.im 3 (xs a0)),(3,mp bm),(5,.pt 5 [] 0 0),(10,.im 3 (xs a0)),(11,I64 ((xs a0).length:Int)),(12,I64 pre.length),(16,.ag [St p.q_,I64 p.j_,I64 p.r_])]) [(5,⟨3,[[St p.q_,I64 p.j_,I64 p.r_]]⟩)] (by kernel_rfl) ?_;refine RG.callP (R:=Bool) (r:=v) (E:=some) [] [(5,5)] [0,3,5,10,11,12,17] false [.ag [St p.q_,I64 p.j_,I64 p.r_]] (λv2=>Bl v2) (λv2=>[]) (λv2=>z1a [(0,.im 3 (xs a0)),(3,mp bm),(5,.pt 5 [] 0 0),(10,.im 3 (xs a0)),(11,I64 ((xs a0).length:Int)),(12,I64 pre.length),(17,Bl v2)]) (λv2=>[(5,⟨3,[[St p.q_,I64 p.j_,I64 p.r_]]⟩)]) (by kernel_rfl) (gv:=zjk n p) (by rw [hv];rfl) (by kernel_rfl) (λv2 hv=>z1q.toG (yie n p v2 hv)) (by kernel_rfl) (λv2=>by kernel_rfl) (λh=>by cases h) (λv2 hv' hg'=>?_);cases hg';refine RG.fin 1 [(5,5)] (z1a [(0,.im 3 (xs a0)),(3,mp bm),(5,.pt 5 [] 0 0),(10,.im 3 (xs a0)),(11,I64 ((xs a0).length:Int)),(12,I64 pre.length),(18,Bl (!v))]) [(5,⟨3,[[St p.q_,I64 p.j_,I64 p.r_]]⟩)] (by kernel_rfl) ?_;cases v with | true=>exact W.condF (by kernel_rfl) (W.skip (.inr ⟨rfl,rfl,rfl,rfl⟩)) | false=>exact W.condT (by kernel_rfl) (W.seq (W.regG (RG.fin 1 [] (z1a [(2,I64 100)]) [] (by kernel_rfl) (W.ret (.inl ⟨rfl,rfl,rfl⟩)))))
   rintro o e h a w (⟨rfl,rfl,rfl⟩ | ⟨rfl,rfl,rfl,rfl⟩) nw
   ·simp only [z9v,cond_false,Option.bind_some,Option.some.injEq] at hg;subst hg;exact hr _ _ _ _ _ rfl nw
   ·refine ykv nw λa w nw=>?_;refine nw.ex (c:=.reg [0,3,10,11,12] [⟨24,none,.rd (.bin .add (.tmp 12) (.const (.int .i64 1)))⟩,⟨12,none,.rd (.mov (.tmp 24))⟩]) (R:=λo e h=>o = .normal/\e=EL a0 bm (i64.wrap (pre.length+1))/\h=[]) ⟨[[0,3,10,11,12]],[],by kernel_rfl⟩ (W.regG (RG.fin 2 [] _ [] (by kernel_rfl) ⟨rfl,rfl,rfl⟩)) ?_;rintro o e h a w ⟨rfl,rfl,rfl⟩ nw
    have hw:i64.wrap ((pre.length:Int)+1)=((pre++[p]).length:Int):=by
     have:(pre.length:Int)<64:=by omega
     simp only [List.length_append,List.length_singleton];rw [zh8 (by omega) (by omega)];simp
    rw [hw] at nw;exact ih (pre++[p]) _ a w (by simp [hp]) hlen hg nw

theorem tail {n:Nat}{w0 w:World}{a:Act}{a0:List Xa}{bm:Nat}{ks:List ByteArray}{r:Int}{Q:Exit->Act->World->Prop}(hg:z9v n a0 (some ks)=some r)(nw:Now 35 w0 (some (bm,ks)) (EL' a0 bm a0.length) [] a w)
  (hr:∀ m e' h' a' w',z81 e' h' [.t 2]=some (I64 r)->Now 35 w0 m e' h' a' w'->Q .ret a' w'):q.wp P Q a w:=by
 rw [e4];refine wp_seq (wp_block (wp_seq (wp_region ?_)));have h11:range (z8l (lf (lf (lf q)))).size=[0,1,2,3,4,5]:=by kernel_rfl
 rw [h11];refine nw.rda (d:=26) (b:=.mov (.tmp 3)) (mp bm) (by kernel_rfl) (by kernel_rfl) λa w nw=>?_;obtain ⟨o,ho,hgd,hd,hop⟩:=zk3 (ops:=R11) (i:=1) (g:=none) (d:=some 27) (op:=.call { callee:=.builtin .len,args:=#[.tmp 26],argTypes:=#[122] }) (by kernel_rfl);have hm:a.eval (.tmp 26) = .map (some bm):=nw.eval rfl;have hc:=(nw.km bm ks rfl).1.len (P:=P) ut o.type;refine nw.val (v:=.int .i64 ks.length) ho hgd hd (by decide) (by simp [execOp,hop,resolve,invoke,builtin,hm,hc,Result.andThen]) λa nw=>?_;refine nw.rda (d:=28) (b:=.mov (.tmp 0)) (.im 3 (xs a0)) (by kernel_rfl) (by kernel_rfl) λa w nw=>?_;refine nw.rda (d:=29) (b:=.len (.tmp 28)) (I64 ((xs a0).length:Int)) (by kernel_rfl) (by kernel_rfl) λa w nw=>?_;refine nw.rda (d:=30) (b:=.bin .lss (.tmp 27) (.tmp 29)) (Bl (decide ((ks.length:Int)<((xs a0).length:Int)))) (by kernel_rfl) (by kernel_rfl) λa w nw=>?_;refine nw.rda (d:=25) (b:=.mov (.tmp 30)) (Bl (decide ((ks.length:Int)<((xs a0).length:Int)))) (by kernel_rfl) (by kernel_rfl) λa w nw=>?_;have nw:=nw.gh (z9.norm (P:=P) (bm:=[]) (S:=[0,25]) (e1:=z1a [(0,.im 3 (xs a0)),(25,Bl (decide ((ks.length:Int)<((xs a0).length:Int))))]) (h1:=[]) (by kernel_rfl))
 refine nw.ex (c:=.cond (.tmp 25) (.seq (.reg [2] [⟨2,none,.rd (.mov (.const (.int .i64 101)))⟩]) .ret)
   (.seq (.reg [31] [⟨32,none,.rd (.mov (.tmp 0))⟩,⟨33,none,.call 58 [(.tmp 32)]⟩,⟨34,none,.rd (.bin .gtr (.tmp 33) (.const (.int .i64 65536)))⟩,⟨31,none,.rd (.mov (.tmp 34))⟩]) (.cond (.tmp 31) (.seq (.reg [2] [⟨2,none,.rd (.mov (.const (.int .i64 102)))⟩]) .ret) .skip)))
  (R:=λo e h=>(o = .ret/\e=z1a [(2,I64 r)])\/(o = .normal/\r=0/\h=[]))
  ⟨[[2],[31],[2]],[],by kernel_rfl⟩ ?_ ?_
 ·unfold z9v at hg;refine W.condB (by kernel_rfl) hg (λhg=>?_) (λhg=>?_)
  ·obtain rfl:=Option.some.inj hg;exact W.seq (W.regG (RG.fin 1 [] (z1a [(2,I64 101)]) [] (by kernel_rfl) (W.ret (.inl ⟨rfl,rfl⟩))))
  ·refine W.seq (W.regG ?_);refine RG.cut 1 [] [32] (z1a [(32,.im 3 (xs a0))]) [] (by kernel_rfl) ?_;refine RG.callP [] [] [33] false [.im 3 (xs a0)] (λv2=>I64 v2) (λv2=>[]) (λv2=>z1a [(33,I64 v2)]) (λv2=>[]) (by kernel_rfl) hg (by kernel_rfl) (λv2 hv=>z1q.toG (yif n a0 v2 hv)) (by kernel_rfl) (λv2=>by kernel_rfl) (λh=>by cases h) (λv2 hv hg=>?_);refine RG.fin 2 [] (z1a [(31,Bl (decide (v2 > 65536)))]) [] (by kernel_rfl) ?_;refine W.condB (by kernel_rfl) hg (λhg=>?_) (λhg=>?_)
   ·obtain rfl:=Option.some.inj hg;exact W.seq (W.regG (RG.fin 1 [] (z1a [(2,I64 102)]) [] (by kernel_rfl) (W.ret (.inl ⟨rfl,rfl⟩))))
   ·obtain rfl:=Option.some.inj hg;exact W.skip (.inr ⟨rfl,rfl,rfl⟩)
 rintro o e h a w (⟨rfl,rfl⟩ | ⟨rfl,rfl,rfl⟩) nw
 ·exact hr _ _ _ _ _ rfl nw
 ·refine nw.ex (c:=.seq (.reg [2] [⟨2,none,.rd (.mov (.const (.int .i64 0)))⟩]) .ret) (R:=λo e h=>o = .ret/\e=z1a [(2,I64 0)]) ⟨[[2]],[],by kernel_rfl⟩ (W.seq (W.regG (RG.fin 1 [] (z1a [(2,I64 0)]) [] (by kernel_rfl) (W.ret ⟨rfl,rfl⟩)))) ?_;rintro o e h a w ⟨rfl,rfl⟩ nw;exact hr _ _ _ _ _ rfl nw
end F28
open F28 in
theorem y0t (n:Nat)(a0:List Xa)(r:Int)(hg:g28 n a0=some r):z1q Go.Proofs.Tryz.prog 36 [.im 3 (a0.map (c1 false))] [] (I64 r) []:=by
 refine Now.call (P:=P) (N:=35) (fn:=Go.Proofs.Tryz.f36) (ts:=[.t 2]) (by kernel_rfl) F28.body (by kernel_rfl) (by kernel_rfl) λa w0 Q nw hr=>?_;rw [e1];refine wp_seq (nw.ex (c:=.reg [0] [⟨2,none,.rd (.mov (.const (.int .i64 0)))⟩]) (R:=λo e h=>o = .normal/\e=z1a [(0,.im 3 (xs a0))]/\h=[]) ⟨[[0]],[],by kernel_rfl⟩ (W.regG (RG.fin 1 [] _ [] (by kernel_rfl) ⟨rfl,rfl,rfl⟩)) ?_);rintro o e h a w ⟨rfl,rfl,rfl⟩ nw;show (Code.seq _ _).wp _ _ _ _;unfold g28 at hg
 refine wp_seq (nw.ex (c:=.seq (.reg [0,8] [⟨6,none,.rd (.mov (.tmp 0))⟩,⟨7,none,.rd (.len (.tmp 6))⟩,⟨8,none,.rd (.bin .gtr (.tmp 7) (.const (.int .i64 64)))⟩]) (.cond (.tmp 8) (.seq (.reg [2] [⟨2,none,.rd (.mov (.const (.int .i64 2)))⟩]) .ret) .skip))
  (R:=λo e h=>(o = .ret/\e=z1a [(2,I64 r)])\/(o = .normal/\a0.length<=64/\(zbr n a0 []).bind (z9v n a0)=some r/\e=z1a [(0,.im 3 (xs a0)),(8,Bl (decide (((xs a0).length:Int) > 64)))]/\h=[])) ⟨[[0,8],[2]],[],by kernel_rfl⟩ ?_ ?_)
 ·refine W.seq (W.regG (RG.fin 3 [] (z1a [(0,.im 3 (xs a0)),(8,Bl (decide (((xs a0).length:Int) > 64)))]) [] (by kernel_rfl) ?_));cases hd:decide (((xs a0).length:Int) > 64) with
  | true =>rw [hd] at hg;obtain rfl:=Option.some.inj hg;exact W.condT (by kernel_rfl) (W.seq (W.regG (RG.fin 1 [] (z1a [(2,I64 2)]) [] (by kernel_rfl) (W.ret (.inl ⟨rfl,rfl⟩)))))
  | false =>rw [hd] at hg;refine W.condF (by kernel_rfl) (W.skip (.inr ⟨rfl,?_,hg,rfl,rfl⟩));simp [xs] at hd;omega
 rintro o e h a w (⟨rfl,rfl⟩ | ⟨rfl,hlen,hg,rfl,rfl⟩) nw
 ·exact hr _ _ _ _ _ rfl nw
 show (Code.seq _ _).wp _ _ _ _;refine wp_seq (wp_region ?_);have h3:range (z8l (lf (rt (rt b)))).size=[0,1]:=by kernel_rfl
 rw [h3];obtain ⟨o,ho,hgd,hd,hop⟩:=zk3 (ops:=R3) (i:=0) (g:=none) (d:=some 9) (op:=.makeMap 122 none) (by kernel_rfl);refine nw.make ho hgd hd (by decide) hop λbm a w nw=>?_;refine nw.rda (d:=3) (b:=.mov (.tmp 9)) (mp bm) (by kernel_rfl) (by kernel_rfl) λa w nw=>?_;have nw:=nw.gh (z9.norm (P:=P) (bm:=[]) (S:=[0,3]) (e1:=z1a [(0,.im 3 (xs a0)),(3,mp bm)]) (h1:=[]) (by kernel_rfl));show (Code.seq z q).wp _ _ _ _;refine wp_seq ?_;rw [e2];refine wp_seq (nw.ex (c:=.reg [0,3,10,11,12] [⟨10,none,.rd (.mov (.tmp 0))⟩,⟨11,none,.rd (.len (.tmp 10))⟩,⟨12,none,.rd (.mov (.const (.int .i64 0)))⟩]) (R:=λo e h=>o = .normal/\e=EL a0 bm 0/\h=[]) ⟨[[0,3,10,11,12]],[],by kernel_rfl⟩ (W.regG (RG.fin 3 [] _ [] (by kernel_rfl) ⟨rfl,rfl,rfl⟩)) ?_);rintro o e h a w ⟨rfl,rfl,rfl⟩ nw;refine wp_block (z3t.wp (loop (n:=n) (Q:=Exit.inBlock 0 (Exit.then (q.wp P Q) Q)) (w0:=w0) (a0:=a0) (bm:=bm) (r:=r) (λks a w hg nw=>?_) (λm e h a w hv nw=>hr m e h a w hv nw) a0 [] [] a w rfl hlen hg nw));exact tail hg nw hr
def k28 (n:Nat):Con Go.Proofs.Tryz.prog Ty_ where
 f:=36
 X:=(List Xa)
 Y:=Int
 A:=[.im 1]
 H:=[]
 N:=[]
 encA:=λx=>[.im 1 x]
 encH:=λ_=>[]
 G:=λx=>g28 n x
 encR:=λy=>.sc (.int .i64 y)
 encO:=λ_=>[]
 strong:=true
 ok:=λx y h=>⟨λ_=>y0t n x y h,z1q.toG (y0t n x y h)⟩
def ylf (n:Nat):Cx P_ Ty_:=⟨[],[],[],[]⟩
abbrev ylg:List (List Nat):=[[2,3],[2,3,6],[2,3,6,7],[2,3,6,7],[4],[2,3,13],[4],[4]]
def y0u (x:Xe×Xb)(p:Bool):EH Ty_:=([(2,.pt 2 [] 0 0),(3,.pt 3 [] 0 0),(6,I_ x.2.j_),(7,B_ p)],[(2,.lit 4 [[.im 1 x.1.f_,.im 2 x.1.a_,.im 3 x.1.e_,.im 4 x.1.d_]]),(3,.lit 2 [[I_ x.2.j_,I_ x.2.n_]])])
def y7v (n:Nat)(x:Xe×Xb):Pt P_ Ty_ [] Bool:=.join (S:=Bool) (y0u x) (.ite (x.2.j_==1) (.leaf (.inl true)) (.leaf (.inl (x.2.j_==2)))) λs1=>.ite s1 (.leaf (x.2.n_==0)) (.ite (x.2.j_==3) (.ite (decide (x.2.n_>=(0:Int))) (.leaf (decide (x.2.n_<(x.1.f_.length:Int)))) (.leaf false)) (.leaf false))
def k31 (n:Nat):Con P_ Ty_:=zj (X:=Xe×Xb) (R:=Bool) (pro:=[]) (ylf n) 39 ylg (λx=>.two .no (.two (.two .no (.two (.join Bool (y0u x) ⟨[(2,.ref 2),(3,.ref 3),(6,.any),(7,.any)],[(2,.any),(3,.any)]⟩ .no .no) .no)) .no)) [.ag [.im 1,.im 2,.im 3,.im 4],.ag [.any,.any]] [] [] ⟨[(4,.any)],[]⟩ [] true (λx=>[.ag [.im 1 x.1.f_,.im 2 x.1.a_,.im 3 x.1.e_,.im 4 x.1.d_],.ag [I_ x.2.j_,I_ x.2.n_]]) (λx=>[]) (λy=>([(4,B_ y)],[])) (λy=>B_ y) (λy=>[]) (y7v n)
def yld (n:Nat):Cx P_ Ty_:=⟨[k31 n],[],[],[]⟩
abbrev yle:List (List Nat):=[[1,2],[3]]
def y7u (n:Nat)(x:Ycj):Pt P_ Ty_ [200000] (Yak):=.call (k31 n) ((⟨x.2.1,x.2.2.1,x.p3,x.q4⟩:Xe),x.1) λ(y1:Bool)=>.leaf ((!y1),x.2.1,x.2.2.1,x.p3,x.q4)
def k30 (n:Nat):Con P_ Ty_:=zj (X:=Ycj) (R:=Yak) (pro:=[200000]) (yld n) 38 yle (λx=>.no) [.ag [.any,.any],.pt 200000] [(200000,[.im 1,.im 2,.im 3,.im 4])] [] ⟨[(3,.any)],[(200000,.any)]⟩ [200000] false (λx=>[.ag [I_ x.1.j_,I_ x.1.n_],.pt 200000 [] 0 0]) (λx=>[(200000,.lit 4 [[.im 1 x.2.1,.im 2 x.2.2.1,.im 3 x.p3,.im 4 x.q4]])]) (λy=>([(3,B_ y.1)],[(200000,.lit 4 [[.im 1 y.2.1,.im 2 y.2.2.1,.im 3 y.p3,.im 4 y.q4]])])) (λy=>B_ y.1) (λy=>[(200000,.lit 4 [[.im 1 y.2.1,.im 2 y.2.2.1,.im 3 y.p3,.im 4 y.q4]])]) (y7u n)
def y8j (n:Nat):Cx P_ Ty_:=⟨[k30 n],[],[],[]⟩
abbrev y8k:List (List Nat):=[[0,1],[0,1,7,8],[0,1,7,8,9],[0,1,5,7,8],[0,1,5,7,8,16],[4],[0,1,7,8],[4]]
def y1x (n:Nat)(x:Yar)(v1:Unit)(q1:Yad):Pt P_ Ty_ [200000] (Bo (Yad) (Yad) (Yad)):=.ite (decide (q1.1<(x.1.length:Int))) (.bnd (idx x.1 q1.1) λy1=>.call (k30 n) (y1,q1.2.1,q1.2.2.1,q1.p3,q1.q4) λ(y2:Yak)=>.ite y2.1 (.leaf (.ret (q1.1,y2.2.1,y2.2.2.1,y2.p3,y2.q4))) (.leaf (.go ((i64.wrap (q1.1+(1:Int))),y2.2.1,y2.2.2.1,y2.p3,y2.q4)))) (.leaf (.out (q1.1,q1.2.1,q1.2.2.1,q1.p3,q1.q4)))
def y1w (n:Nat)(x:Yar)(v1:Unit):z15 P_ Ty_ [200000]:=z1d (X:=Yad) (Y:=Yad) (Z:=Yad) (y8j n) (z16 [1,0,1,0,0] (fnC P_ 59 y8k)) (λq1=>.no) 0 true ⟨[(0,.im 2),(1,.fn [.ref 200000]),(7,.any),(8,.any)],[(200000,.any)]⟩ ⟨[(0,.im 2),(1,.fn [.ref 200000]),(7,.any),(8,.any),(9,.any)],[(200000,.any)]⟩ ⟨[(4,.any)],[(200000,.any)]⟩ (λq1=>([(0,.im 2 x.1),(1,.fn 38 [.pt 200000 [] 0 0]),(7,I_ (x.1.length:Int)),(8,I_ q1.1)],[(200000,.lit 4 [[.im 1 q1.2.1,.im 2 q1.2.2.1,.im 3 q1.p3,.im 4 q1.q4]])])) (λp=>([(0,.im 2 x.1),(1,.fn 38 [.pt 200000 [] 0 0]),(7,I_ (x.1.length:Int)),(8,I_ p.1),(9,B_ false)],[(200000,.lit 4 [[.im 1 p.2.1,.im 2 p.2.2.1,.im 3 p.p3,.im 4 p.q4]])])) (λp=>([(4,I_ p.1)],[(200000,.lit 4 [[.im 1 p.2.1,.im 2 p.2.2.1,.im 3 p.p3,.im 4 p.q4]])])) n (y1x n x v1)
def y8l (n:Nat)(x:Yar):Pt P_ Ty_ [200000] (Yad):=.loopR (V:=Unit) (y1w n x) () ((0:Int),x.2.1,x.2.2.1,x.p3,x.q4) (λ(v1:Unit) (y3:Yad)=>.leaf ((-1:Int),y3.2.1,y3.2.2.1,y3.p3,y3.q4)) λ(v1:Unit) (z1:Yad)=>.leaf (z1.1,z1.2.1,z1.2.2.1,z1.p3,z1.q4)
def k50 (n:Nat):Con P_ Ty_:=zj (X:=Yar) (R:=Yad) (pro:=[200000]) (y8j n) 59 y8k (λx=>.two .no (.two (.two .no (.two (.loop Unit (y1w n x) true ⟨[(0,.im 2),(1,.fn [.ref 200000]),(7,.any),(8,.any)],[(200000,.any)]⟩) .no)) .no)) [.im 2,.fn 38 [.pt 200000]] [(200000,[.im 1,.im 2,.im 3,.im 4])] [] ⟨[(4,.any)],[(200000,.any)]⟩ [200000] false (λx=>[.im 2 x.1,.fn 38 [.pt 200000 [] 0 0]]) (λx=>[(200000,.lit 4 [[.im 1 x.2.1,.im 2 x.2.2.1,.im 3 x.p3,.im 4 x.q4]])]) (λy=>([(4,I_ y.1)],[(200000,.lit 4 [[.im 1 y.2.1,.im 2 y.2.2.1,.im 3 y.p3,.im 4 y.q4]])])) (λy=>I_ y.1) (λy=>[(200000,.lit 4 [[.im 1 y.2.1,.im 2 y.2.2.1,.im 3 y.p3,.im 4 y.q4]])]) (y8l n)
def ylb (n:Nat):Cx P_ Ty_:=⟨[k50 n],[],[],[]⟩
abbrev ylc:List (List Nat):=[[0,1],[4]]
def y7t (n:Nat)(x:Yar):Pt P_ Ty_ [200000] (Yak):=.call (k50 n) (x.1,x.2.1,x.2.2.1,x.p3,x.q4) λ(y1:Yad)=>.leaf ((decide (y1.1>=(0:Int))),y1.2.1,y1.2.2.1,y1.p3,y1.q4)
def k29 (n:Nat):Con P_ Ty_:=zj (X:=Yar) (R:=Yak) (pro:=[200000]) (ylb n) 37 ylc (λx=>.no) [.im 2,.fn 38 [.pt 200000]] [(200000,[.im 1,.im 2,.im 3,.im 4])] [] ⟨[(4,.any)],[(200000,.any)]⟩ [200000] false (λx=>[.im 2 x.1,.fn 38 [.pt 200000 [] 0 0]]) (λx=>[(200000,.lit 4 [[.im 1 x.2.1,.im 2 x.2.2.1,.im 3 x.p3,.im 4 x.q4]])]) (λy=>([(4,B_ y.1)],[(200000,.lit 4 [[.im 1 y.2.1,.im 2 y.2.2.1,.im 3 y.p3,.im 4 y.q4]])])) (λy=>B_ y.1) (λy=>[(200000,.lit 4 [[.im 1 y.2.1,.im 2 y.2.2.1,.im 3 y.p3,.im 4 y.q4]])]) (y7t n)
def ylv (n:Nat):Cx P_ Ty_:=⟨[],[],[],[]⟩
abbrev ylw:List (List Nat):=[[0],[2]]
def y8p (n:Nat)(x:Int):Pt P_ Ty_ [] Bool:=.ite (decide ((u32.wrap (BitVec.ofInt u32.bits x &&& ~~~BitVec.ofInt u32.bits (2147483648:Int)).toNat)<=(2139095040:Int))) (.leaf true) (.leaf (x==2143289344))
def k52 (n:Nat):Con P_ Ty_:=zj (X:=Int) (R:=Bool) (pro:=[]) (ylv n) 61 ylw (λx=>.no) [.any] [] [] ⟨[(2,.any)],[]⟩ [] true (λx=>[.sc (.int .u32 x)]) (λx=>[]) (λy=>([(2,B_ y)],[])) (λy=>B_ y) (λy=>[]) (y8p n)
def yll (n:Nat):Cx P_ Ty_:=⟨[k31 n,k52 n],[],[],[]⟩
abbrev ylm:List (List Nat):=[[2,3],[3,9],[4],[3,13],[4],[4]]
def y7y (n:Nat)(x:Xe×Xc):Pt P_ Ty_ [] Bool:=.call (k31 n) (x.1,x.2.s_) λ(y1:Bool)=>.ite (!y1) (.leaf false) (.ite (x.2.s_.j_==2) (.ite (x.2.m_==0) (.ite (decide (x.2.u_>=(0:Int))) (.leaf (decide (x.2.u_<=(2147483647:Int)))) (.leaf false)) (.leaf false)) (.ite (x.2.u_==0) (.call (k52 n) x.2.m_ λ(y2:Bool)=>.leaf y2) (.leaf false)))
def k34 (n:Nat):Con P_ Ty_:=zj (X:=Xe×Xc) (R:=Bool) (pro:=[]) (yll n) 42 ylm (λx=>.no) [.ag [.im 1,.im 2,.im 3,.im 4],.ag [.any,.any,.any,.any,.any]] [] [] ⟨[(4,.any)],[]⟩ [] true (λx=>[.ag [.im 1 x.1.f_,.im 2 x.1.a_,.im 3 x.1.e_,.im 4 x.1.d_],.ag [I_ x.2.s_.j_,I_ x.2.s_.n_,B_ x.2.O_,.sc (.int .u32 x.2.m_),I_ x.2.u_]]) (λx=>[]) (λy=>([(4,B_ y)],[])) (λy=>B_ y) (λy=>[]) (y7y n)
def ylj (n:Nat):Cx P_ Ty_:=⟨[k34 n],[],[],[]⟩
abbrev ylk:List (List Nat):=[[1,2],[3]]
def y7x (n:Nat)(x:Yck):Pt P_ Ty_ [200000] (Yak):=.call (k34 n) ((⟨x.2.1,x.2.2.1,x.p3,x.q4⟩:Xe),x.1) λ(y1:Bool)=>.leaf ((!y1),x.2.1,x.2.2.1,x.p3,x.q4)
def k33 (n:Nat):Con P_ Ty_:=zj (X:=Yck) (R:=Yak) (pro:=[200000]) (ylj n) 41 ylk (λx=>.no) [.ag [.any,.any,.any,.any,.any],.pt 200000] [(200000,[.im 1,.im 2,.im 3,.im 4])] [] ⟨[(3,.any)],[(200000,.any)]⟩ [200000] false (λx=>[.ag [I_ x.1.s_.j_,I_ x.1.s_.n_,B_ x.1.O_,.sc (.int .u32 x.1.m_),I_ x.1.u_],.pt 200000 [] 0 0]) (λx=>[(200000,.lit 4 [[.im 1 x.2.1,.im 2 x.2.2.1,.im 3 x.p3,.im 4 x.q4]])]) (λy=>([(3,B_ y.1)],[(200000,.lit 4 [[.im 1 y.2.1,.im 2 y.2.2.1,.im 3 y.p3,.im 4 y.q4]])])) (λy=>B_ y.1) (λy=>[(200000,.lit 4 [[.im 1 y.2.1,.im 2 y.2.2.1,.im 3 y.p3,.im 4 y.q4]])]) (y7x n)
def y8m (n:Nat):Cx P_ Ty_:=⟨[k33 n],[],[],[]⟩
abbrev y8n:List (List Nat):=[[0,1],[0,1,7,8],[0,1,7,8,9],[0,1,5,7,8],[0,1,5,7,8,16],[4],[0,1,7,8],[4]]
def y1z (n:Nat)(x:Yas)(v1:Unit)(q1:Yad):Pt P_ Ty_ [200000] (Bo (Yad) (Yad) (Yad)):=.ite (decide (q1.1<(x.1.length:Int))) (.bnd (idx x.1 q1.1) λy1=>.call (k33 n) (y1,q1.2.1,q1.2.2.1,q1.p3,q1.q4) λ(y2:Yak)=>.ite y2.1 (.leaf (.ret (q1.1,y2.2.1,y2.2.2.1,y2.p3,y2.q4))) (.leaf (.go ((i64.wrap (q1.1+(1:Int))),y2.2.1,y2.2.2.1,y2.p3,y2.q4)))) (.leaf (.out (q1.1,q1.2.1,q1.2.2.1,q1.p3,q1.q4)))
def y1y (n:Nat)(x:Yas)(v1:Unit):z15 P_ Ty_ [200000]:=z1d (X:=Yad) (Y:=Yad) (Z:=Yad) (y8m n) (z16 [1,0,1,0,0] (fnC P_ 60 y8n)) (λq1=>.no) 0 true ⟨[(0,.im 3),(1,.fn [.ref 200000]),(7,.any),(8,.any)],[(200000,.any)]⟩ ⟨[(0,.im 3),(1,.fn [.ref 200000]),(7,.any),(8,.any),(9,.any)],[(200000,.any)]⟩ ⟨[(4,.any)],[(200000,.any)]⟩ (λq1=>([(0,.im 3 x.1),(1,.fn 41 [.pt 200000 [] 0 0]),(7,I_ (x.1.length:Int)),(8,I_ q1.1)],[(200000,.lit 4 [[.im 1 q1.2.1,.im 2 q1.2.2.1,.im 3 q1.p3,.im 4 q1.q4]])])) (λp=>([(0,.im 3 x.1),(1,.fn 41 [.pt 200000 [] 0 0]),(7,I_ (x.1.length:Int)),(8,I_ p.1),(9,B_ false)],[(200000,.lit 4 [[.im 1 p.2.1,.im 2 p.2.2.1,.im 3 p.p3,.im 4 p.q4]])])) (λp=>([(4,I_ p.1)],[(200000,.lit 4 [[.im 1 p.2.1,.im 2 p.2.2.1,.im 3 p.p3,.im 4 p.q4]])])) n (y1z n x v1)
def y8o (n:Nat)(x:Yas):Pt P_ Ty_ [200000] (Yad):=.loopR (V:=Unit) (y1y n x) () ((0:Int),x.2.1,x.2.2.1,x.p3,x.q4) (λ(v1:Unit) (y3:Yad)=>.leaf ((-1:Int),y3.2.1,y3.2.2.1,y3.p3,y3.q4)) λ(v1:Unit) (z1:Yad)=>.leaf (z1.1,z1.2.1,z1.2.2.1,z1.p3,z1.q4)
def k51 (n:Nat):Con P_ Ty_:=zj (X:=Yas) (R:=Yad) (pro:=[200000]) (y8m n) 60 y8n (λx=>.two .no (.two (.two .no (.two (.loop Unit (y1y n x) true ⟨[(0,.im 3),(1,.fn [.ref 200000]),(7,.any),(8,.any)],[(200000,.any)]⟩) .no)) .no)) [.im 3,.fn 41 [.pt 200000]] [(200000,[.im 1,.im 2,.im 3,.im 4])] [] ⟨[(4,.any)],[(200000,.any)]⟩ [200000] false (λx=>[.im 3 x.1,.fn 41 [.pt 200000 [] 0 0]]) (λx=>[(200000,.lit 4 [[.im 1 x.2.1,.im 2 x.2.2.1,.im 3 x.p3,.im 4 x.q4]])]) (λy=>([(4,I_ y.1)],[(200000,.lit 4 [[.im 1 y.2.1,.im 2 y.2.2.1,.im 3 y.p3,.im 4 y.q4]])])) (λy=>I_ y.1) (λy=>[(200000,.lit 4 [[.im 1 y.2.1,.im 2 y.2.2.1,.im 3 y.p3,.im 4 y.q4]])]) (y8o n)
def ylh (n:Nat):Cx P_ Ty_:=⟨[k51 n],[],[],[]⟩
abbrev yli:List (List Nat):=[[0,1],[4]]
def y7w (n:Nat)(x:Yas):Pt P_ Ty_ [200000] (Yak):=.call (k51 n) (x.1,x.2.1,x.2.2.1,x.p3,x.q4) λ(y1:Yad)=>.leaf ((decide (y1.1>=(0:Int))),y1.2.1,y1.2.2.1,y1.p3,y1.q4)
def k32 (n:Nat):Con P_ Ty_:=zj (X:=Yas) (R:=Yak) (pro:=[200000]) (ylh n) 40 yli (λx=>.no) [.im 3,.fn 41 [.pt 200000]] [(200000,[.im 1,.im 2,.im 3,.im 4])] [] ⟨[(4,.any)],[(200000,.any)]⟩ [200000] false (λx=>[.im 3 x.1,.fn 41 [.pt 200000 [] 0 0]]) (λx=>[(200000,.lit 4 [[.im 1 x.2.1,.im 2 x.2.2.1,.im 3 x.p3,.im 4 x.q4]])]) (λy=>([(4,B_ y.1)],[(200000,.lit 4 [[.im 1 y.2.1,.im 2 y.2.2.1,.im 3 y.p3,.im 4 y.q4]])])) (λy=>B_ y.1) (λy=>[(200000,.lit 4 [[.im 1 y.2.1,.im 2 y.2.2.1,.im 3 y.p3,.im 4 y.q4]])]) (y7w n)
def yl7 (n:Nat):Cx P_ Ty_:=⟨[],[],[],[]⟩
abbrev yl8:List (List Nat):=[[0,2],[2,4],[2,4,5],[2,3],[2,4,8],[2,3],[2,4,11],[2,3],[2,4,14],[2,4,14],[2,4,14],[2,4,14],[2,4,14],[2,4,14],[2,4,14],[2,3],[2,4,23],[2,4,23],[2,4,23],[2,4,23],[2,3],[2,4,29],[2,3],[2,4,32],[2,3],[2,4,35],[2,3],[2,4,38],[2,3],[2,4,41],[2,4,41],[2,3],[2,4,45],[2,4,45],[2,3],[2,4,49],[2,4,49],[2,4,49],[2,4,49],[2,4,49],[2,3],[2,4,56],[2,3],[2,4,59],[2,4,59],[2,3],[2,4,63],[2,3],[2,4,66],[2,3],[2,4,69],[2,3],[2,4,72],[2,3],[2,4,75],[2,3],[2,4,78],[2,78],[2,3],[2,3]]
def y0e (x:Int)(p:Bool):EH Ty_:=([(2,.pt 2 [] 0 0),(4,I_ x),(14,B_ p)],[(2,.lit 5 [[I_ (0:Int),I_ (0:Int),I_ (0:Int),I_ (0:Int),I_ (0:Int)]])])
def y0f (x:Int)(p:Bool):EH Ty_:=([(2,.pt 2 [] 0 0),(4,I_ x),(23,B_ p)],[(2,.lit 5 [[I_ (0:Int),I_ (0:Int),I_ (0:Int),I_ (0:Int),I_ (0:Int)]])])
def y0g (x:Int)(p:Bool):EH Ty_:=([(2,.pt 2 [] 0 0),(4,I_ x),(41,B_ p)],[(2,.lit 5 [[I_ (0:Int),I_ (0:Int),I_ (0:Int),I_ (0:Int),I_ (0:Int)]])])
def y0h (x:Int)(p:Bool):EH Ty_:=([(2,.pt 2 [] 0 0),(4,I_ x),(45,B_ p)],[(2,.lit 5 [[I_ (0:Int),I_ (0:Int),I_ (0:Int),I_ (0:Int),I_ (0:Int)]])])
def y0i (x:Int)(p:Bool):EH Ty_:=([(2,.pt 2 [] 0 0),(4,I_ x),(49,B_ p)],[(2,.lit 5 [[I_ (0:Int),I_ (0:Int),I_ (0:Int),I_ (0:Int),I_ (0:Int)]])])
def y0j (x:Int)(p:Bool):EH Ty_:=([(2,.pt 2 [] 0 0),(4,I_ x),(59,B_ p)],[(2,.lit 5 [[I_ (0:Int),I_ (0:Int),I_ (0:Int),I_ (0:Int),I_ (0:Int)]])])
def y0k (x:Int)(p:Bool):EH Ty_:=([(2,.pt 2 [] 0 0),(78,B_ p)],[(2,.lit 5 [[I_ (0:Int),I_ (0:Int),I_ (0:Int),I_ (0:Int),I_ (0:Int)]])])
def y7r (n:Nat)(x:Int):Pt P_ Ty_ [] (Yby):=.ite (x==1) (.leaf (true,(1:Int),(0:Int),(0:Int),(0:Int),(0:Int))) (.ite (x==2) (.leaf (true,(2:Int),(0:Int),(0:Int),(0:Int),(1:Int))) (.ite (x==3) (.leaf (true,(8:Int),(7:Int),(0:Int),(0:Int),(0:Int))) (.join (S:=Bool) (y0e x) (.ite (x==4) (.leaf (.inl true)) (.ite (x==5) (.leaf (.inl true)) (.ite (x==6) (.leaf (.inl true)) (.ite (x==7) (.leaf (.inl true)) (.ite (x==8) (.leaf (.inl true)) (.ite (x==9) (.leaf (.inl true)) (.leaf (.inl (x==10))))))))) λs1=>.ite s1 (.leaf (true,(4:Int),(5:Int),(5:Int),(0:Int),(0:Int))) (.join (S:=Bool) (y0f x) (.ite (x==11) (.leaf (.inl true)) (.ite (x==12) (.leaf (.inl true)) (.ite (x==13) (.leaf (.inl true)) (.leaf (.inl (x==14)))))) λs2=>.ite s2 (.leaf (true,(4:Int),(5:Int),(0:Int),(0:Int),(0:Int))) (.ite (x==15) (.leaf (true,(4:Int),(5:Int),(5:Int),(5:Int),(0:Int))) (.ite (x==16) (.leaf (true,(1:Int),(1:Int),(2:Int),(0:Int),(0:Int))) (.ite (x==17) (.leaf (true,(1:Int),(2:Int),(0:Int),(0:Int),(0:Int))) (.ite (x==18) (.leaf (true,(2:Int),(1:Int),(0:Int),(0:Int),(0:Int))) (.join (S:=Bool) (y0g x) (.ite (x==19) (.leaf (.inl true)) (.leaf (.inl (x==20)))) λs3=>.ite s3 (.leaf (true,(1:Int),(3:Int),(0:Int),(0:Int),(0:Int))) (.join (S:=Bool) (y0h x) (.ite (x==21) (.leaf (.inl true)) (.leaf (.inl (x==25)))) λs4=>.ite s4 (.leaf (true,(2:Int),(2:Int),(0:Int),(0:Int),(0:Int))) (.join (S:=Bool) (y0i x) (.ite (x==22) (.leaf (.inl true)) (.ite (x==23) (.leaf (.inl true)) (.ite (x==24) (.leaf (.inl true)) (.ite (x==27) (.leaf (.inl true)) (.leaf (.inl (x==28))))))) λs5=>.ite s5 (.leaf (true,(2:Int),(2:Int),(2:Int),(0:Int),(0:Int))) (.ite (x==26) (.leaf (true,(2:Int),(2:Int),(2:Int),(2:Int),(0:Int))) (.join (S:=Bool) (y0j x) (.ite (x==29) (.leaf (.inl true)) (.leaf (.inl (x==30)))) λs6=>.ite s6 (.leaf (true,(3:Int),(0:Int),(0:Int),(0:Int),(2:Int))) (.ite (x==31) (.leaf (true,(0:Int),(3:Int),(0:Int),(0:Int),(2:Int))) (.ite (x==32) (.leaf (true,(8:Int),(0:Int),(0:Int),(0:Int),(3:Int))) (.ite (x==33) (.leaf (true,(0:Int),(8:Int),(0:Int),(0:Int),(3:Int))) (.ite (x==34) (.leaf (true,(0:Int),(2:Int),(0:Int),(0:Int),(0:Int))) (.ite (x==36) (.leaf (true,(0:Int),(0:Int),(0:Int),(0:Int),(4:Int))) (.join (S:=Bool) (y0k x) (.ite (x==35) (.leaf (.inl true)) (.leaf (.inl (x==37)))) λs7=>.ite s7 (.leaf (true,(0:Int),(0:Int),(0:Int),(0:Int),(0:Int))) (.leaf (false,(0:Int),(0:Int),(0:Int),(0:Int),(0:Int))))))))))))))))))))))
def k26 (n:Nat):Con P_ Ty_:=zj (X:=Int) (R:=Yby) (pro:=[]) (yl7 n) 47 yl8 (λx=>.two .no (.two (.two .no (.two (.two .no (.two .no (.two .no (.two .no (.two .no (.two .no (.join Bool (y0e x) ⟨[(2,.ref 2),(4,.any),(14,.any)],[(2,.any)]⟩ .no (.two .no (.join Bool (y0f x) ⟨[(2,.ref 2),(4,.any),(23,.any)],[(2,.any)]⟩ .no (.two .no (.two .no (.two .no (.two .no (.two .no (.two .no (.two .no (.two .no (.two .no (.join Bool (y0g x) ⟨[(2,.ref 2),(4,.any),(41,.any)],[(2,.any)]⟩ .no (.two .no (.join Bool (y0h x) ⟨[(2,.ref 2),(4,.any),(45,.any)],[(2,.any)]⟩ .no (.two .no (.join Bool (y0i x) ⟨[(2,.ref 2),(4,.any),(49,.any)],[(2,.any)]⟩ .no (.two .no (.two .no (.two .no (.join Bool (y0j x) ⟨[(2,.ref 2),(4,.any),(59,.any)],[(2,.any)]⟩ .no (.two .no (.two .no (.two .no (.two .no (.two .no (.two .no (.two .no (.two .no (.two .no (.two .no (.two .no (.join Bool (y0k x) ⟨[(2,.ref 2),(78,.any)],[(2,.any)]⟩ .no .no))))))))))))))))))))))))))))))))))))))) .no)) .no)) [.any] [] [] ⟨[(2,.ref 100000),(3,.any)],[(100000,.any)]⟩ [] true (λx=>[I_ x]) (λx=>[]) (λy=>([(2,.pt 100000 [] 0 0),(3,B_ y.1)],[(100000,.lit 5 [[I_ y.2.1,I_ y.2.2.1,I_ y.p3,I_ y.p4,I_ y.q5]])])) (λy=>.tu [.ag [I_ y.2.1,I_ y.2.2.1,I_ y.p3,I_ y.p4,I_ y.q5],B_ y.1]) (λy=>[]) (y7r n)
def ylx (n:Nat):Cx P_ Ty_:=⟨[],[],[],[]⟩
abbrev yly:List (List Nat):=[[0,1,4],[0,1,4,17],[4,5],[4,5]]
def y2a (x:Ych)(p:Bool):EH Ty_:=([(0,.pt 200000 [] 0 0),(1,I_ x.q7),(4,.pt 4 [] 0 0),(17,B_ p)],[(200000,.lit 7 [[.im 1 x.1,.im 2 x.2.1,.im 3 x.2.2.1,.im 4 x.p3,.ow false 5 x.p4,.ow true 7 x.p5,.ow false 6 x.p6]]),(4,.lit 2 [[I_ (0:Int),I_ (0:Int)]])])
def y8q (n:Nat)(x:Ych):Pt P_ Ty_ [200000] (Ybq):=.join (S:=Bool) (y2a x) (.ite (decide (x.q7<(0:Int))) (.leaf (.inl true)) (.leaf (.inl (decide (x.q7>=(x.2.1.length:Int)))))) λs1=>.ite s1 (.leaf (false,x.1,x.2.1,x.2.2.1,x.p3,x.p4,x.p5,x.p6,(0:Int),(0:Int))) (.bnd (idx x.2.1 x.q7) λy1=>.leaf (true,x.1,x.2.1,x.2.2.1,x.p3,x.p4,x.p5,x.p6,y1.j_,y1.n_))
def k53 (n:Nat):Con P_ Ty_:=zj (X:=Ych) (R:=Ybq) (pro:=[200000]) (ylx n) 62 yly (λx=>.two .no (.two (.join Bool (y2a x) ⟨[(0,.ref 200000),(1,.any),(4,.ref 4),(17,.any)],[(200000,.any),(4,.any)]⟩ .no .no) .no)) [.pt 200000,.any] [(200000,[.im 1,.im 2,.im 3,.im 4,.ow false 5,.ow true 7,.ow false 6])] [] ⟨[(4,.ref 100000),(5,.any)],[(200000,.any),(100000,.any)]⟩ [200000] false (λx=>[.pt 200000 [] 0 0,I_ x.q7]) (λx=>[(200000,.lit 7 [[.im 1 x.1,.im 2 x.2.1,.im 3 x.2.2.1,.im 4 x.p3,.ow false 5 x.p4,.ow true 7 x.p5,.ow false 6 x.p6]])]) (λy=>([(4,.pt 100000 [] 0 0),(5,B_ y.1)],[(200000,.lit 7 [[.im 1 y.2.1,.im 2 y.2.2.1,.im 3 y.p3,.im 4 y.p4,.ow false 5 y.p5,.ow true 7 y.p6,.ow false 6 y.p7]]),(100000,.lit 2 [[I_ y.p8,I_ y.q9]])])) (λy=>.tu [.ag [I_ y.p8,I_ y.q9],B_ y.1]) (λy=>[(200000,.lit 7 [[.im 1 y.2.1,.im 2 y.2.2.1,.im 3 y.p3,.im 4 y.p4,.ow false 5 y.p5,.ow true 7 y.p6,.ow false 6 y.p7]])]) (y8q n)
def ylz (n:Nat):Cx P_ Ty_:=⟨[],[],[],[]⟩
abbrev ym0:List (List Nat):=[[1,3,5],[1,3,5,7],[3,5,7,11],[3,5,7,11,12],[6],[3,5,7,11,15],[6],[3,5,7,11,20],[6],[3,5,7,11,25],[6],[3,5,7,11,30],[6],[3,5,7,11,38],[6],[3,5,7,43],[6],[6]]
def y8r (n:Nat)(x:Ycl):Pt P_ Ty_ [] Bool:=.ite (x.2.1==1) (.leaf (x.1.j_==1)) (.ite (x.2.1==2) (.leaf (x.1.j_==2)) (.ite (x.2.1==3) (.leaf (x.1.j_==3)) (.ite (x.2.1==4) (.leaf (x.1.j_ != (2:Int))) (.ite (x.2.1==5) (.ite (x.1.j_==1) (.leaf true) (.leaf (x.1.j_==x.2.2.j_&&(x.1.n_==x.2.2.n_&&true)))) (.ite (x.2.1==6) (.leaf (x.1.j_==x.2.2.j_&&(x.1.n_==x.2.2.n_&&true))) (.ite (x.2.1==7) (.ite (x.1.j_==x.2.2.j_&&(x.1.n_==x.2.2.n_&&true)) (.leaf true) (.ite (x.1.j_==1) (.leaf (x.2.2.j_==3)) (.leaf false))) (.leaf true)))))))
def k54 (n:Nat):Con P_ Ty_:=zj (X:=Ycl) (R:=Bool) (pro:=[]) (ylz n) 63 ym0 (λx=>.no) [.ag [.any,.any],.any,.ag [.any,.any]] [] [] ⟨[(6,.any)],[]⟩ [] true (λx=>[.ag [I_ x.1.j_,I_ x.1.n_],I_ x.2.1,.ag [I_ x.2.2.j_,I_ x.2.2.n_]]) (λx=>[]) (λy=>([(6,B_ y)],[])) (λy=>B_ y) (λy=>[]) (y8r n)
def y7z (n:Nat):Cx P_ Ty_:=⟨[k26 n,k53 n,k54 n,k52 n],[],[],[]⟩
abbrev y80:List (List Nat):=[[0,3],[0,3,5,6],[0,3,5,21],[4],[0,3,5,7,8],[0,3,5,7,8,30,31],[0,3,5,7,8,30,31,32],[0,3,5,7,8,9,10,30,31],[0,3,5,7,8,9,10,11,30,31],[0,3,5,7,8,9,10,11,30,31,47],[0,3,5,7,8,30,31,49],[4],[0,3,5,7,8,9,10,12,13,30,31],[0,3,5,7,8,9,12,30,31,64],[4],[0,3,5,7,8,12,30,31,65],[0,3,5,7,8,12,30,31,65,66],[0,3,5,7,8,30,31],[0,3,5,7,8,12,30,31,70],[0,3,5,7,8,12,30,31,74],[0,3,5,7,8,30,31],[0,3,5,7,8,30,31],[0,3,5,8,95],[4],[0,3,8,97],[0,3,8,97,98],[4],[0,3,8,97,108],[4],[0,3,8,97,131],[4],[0,3,161],[4],[4]]
def y0w (x:Yae)(v1:Ybg)(q1:Yax)(p:Ybq):EH Ty_:=([(0,.pt 200000 [] 0 0),(3,.pt 3 [] 0 0),(5,.pt 5 [] 0 0),(7,.pt 7 [] 0 0),(8,.pt 8 [] 0 0),(9,I_ q1.1),(12,.pt 12 [] 0 0),(30,.ag [I_ v1.1,I_ v1.2.1,I_ v1.2.2.1,I_ v1.p3]),(31,I_ q1.1),(64,B_ p.1)],[(200000,.lit 7 [[.im 1 p.2.1,.im 2 p.2.2.1,.im 3 p.p3,.im 4 p.p4,.ow false 5 p.p5,.ow true 7 p.p6,.ow false 6 p.p7]]),(3,.lit 7 [[I_ x.q7.c_,I_ x.q7.D_,I_ x.q7.A_,I_ x.q7.B_,I_ x.q7.C_,I_ x.q7.N_,.sc (.int .u32 x.q7.m_)]]),(5,.lit 5 [[I_ v1.1,I_ v1.2.1,I_ v1.2.2.1,I_ v1.p3,I_ v1.q4]]),(7,.lit 2 [[I_ q1.p8,I_ q1.p9]]),(8,.lit 2 [[I_ q1.p10,I_ q1.q11]]),(12,.lit 2 [[I_ p.p8,I_ p.q9]])])
def y0x (x:Yae)(p:Ycv):EH Ty_:=([(0,.pt 200000 [] 0 0),(3,.pt 3 [] 0 0),(5,.pt 5 [] 0 0),(8,.pt 8 [] 0 0),(95,B_ p.1)],[(200000,.lit 7 [[.im 1 p.2.1,.im 2 p.2.2.1,.im 3 p.p3,.im 4 p.p4,.ow false 5 p.p5,.ow true 7 p.p6,.ow false 6 p.p7]]),(3,.lit 7 [[I_ x.q7.c_,I_ x.q7.D_,I_ x.q7.A_,I_ x.q7.B_,I_ x.q7.C_,I_ x.q7.N_,.sc (.int .u32 x.q7.m_)]]),(5,.lit 5 [[I_ p.p8,I_ p.p9,I_ p.p10,I_ p.p11,I_ p.p12]]),(8,.lit 2 [[I_ p.p13,I_ p.q14]])])
def y0y (n:Nat)(x:Yae)(v1:Ybg)(q1:Yax):Pt P_ Ty_ [200000] (Bo (Yax) (Yax) (Ycm)):=.ite (decide (q1.1<(4:Int))) (.bnd (idx [v1.1,v1.2.1,v1.2.2.1,v1.p3] q1.1) λy2=>.bnd (idx [x.q7.D_,x.q7.A_,x.q7.B_,x.q7.C_] q1.1) λy3=>.ite (y2==0) (.ite (y3 != (0:Int)) (.leaf (.ret (q1.2.1,q1.2.2.1,q1.p3,q1.p4,q1.p5,q1.p6,q1.p7))) (.leaf (.go ((i64.wrap (q1.1+(1:Int))),q1.2.1,q1.2.2.1,q1.p3,q1.p4,q1.p5,q1.p6,q1.p7,q1.p8,q1.p9,q1.p10,q1.q11)))) (.call (k53 n) (q1.2.1,q1.2.2.1,q1.p3,q1.p4,q1.p5,q1.p6,q1.p7,y3) λ(y4:Ybq)=>.join (S:=Ybq) (y0w x v1 q1) (.ite (!y4.1) (.leaf (.inl (true,y4.2.1,y4.2.2.1,y4.p3,y4.p4,y4.p5,y4.p6,y4.p7,y4.p8,y4.q9))) (.call (k54 n) ((⟨y4.p8,y4.q9⟩:Xb),y2,(⟨q1.p8,q1.p9⟩:Xb)) λ(y5:Bool)=>.leaf (.inl ((!y5),y4.2.1,y4.2.2.1,y4.p3,y4.p4,y4.p5,y4.p6,y4.p7,y4.p8,y4.q9)))) λs1=>.ite s1.1 (.leaf (.ret (s1.2.1,s1.2.2.1,s1.p3,s1.p4,s1.p5,s1.p6,s1.p7))) (.ite (q1.1==0) (.leaf (.go ((i64.wrap (q1.1+(1:Int))),s1.2.1,s1.2.2.1,s1.p3,s1.p4,s1.p5,s1.p6,s1.p7,s1.p8,s1.q9,s1.p8,s1.q9))) (.ite (q1.1==1) (.ite (v1.1==0) (.leaf (.go ((i64.wrap (q1.1+(1:Int))),s1.2.1,s1.2.2.1,s1.p3,s1.p4,s1.p5,s1.p6,s1.p7,q1.p8,q1.p9,s1.p8,s1.q9))) (.leaf (.go ((i64.wrap (q1.1+(1:Int))),s1.2.1,s1.2.2.1,s1.p3,s1.p4,s1.p5,s1.p6,s1.p7,q1.p8,q1.p9,q1.p10,q1.q11)))) (.leaf (.go ((i64.wrap (q1.1+(1:Int))),s1.2.1,s1.2.2.1,s1.p3,s1.p4,s1.p5,s1.p6,s1.p7,q1.p8,q1.p9,q1.p10,q1.q11))))))) (.leaf (.out (q1.1,q1.2.1,q1.2.2.1,q1.p3,q1.p4,q1.p5,q1.p6,q1.p7,q1.p8,q1.p9,q1.p10,q1.q11)))
def y0v (n:Nat)(x:Yae)(v1:Ybg):z15 P_ Ty_ [200000]:=z1d (X:=Yax) (Y:=Yax) (Z:=Ycm) (y7z n) (z16 [1,1,1,1,0,1,0,0] (fnC P_ 43 y80)) (λq1=>.two .no (.two .no (.two (.two (.two .no (.two .no (.two .no (.two .no (.two (.join (Ybq) (y0w x v1 q1) ⟨[(0,.ref 200000),(3,.ref 3),(5,.ref 5),(7,.ref 7),(8,.ref 8),(9,.any),(12,.ref 12),(30,.any),(31,.any),(64,.any)],[(200000,.any),(3,.any),(5,.any),(7,.any),(8,.any),(12,.any)]⟩ .no .no) .no))))) .no) .no))) 0 true ⟨[(0,.ref 200000),(3,.ref 3),(5,.ref 5),(7,.ref 7),(8,.ref 8),(30,.any),(31,.any)],[(200000,.any),(3,.any),(5,.any),(7,.any),(8,.any)]⟩ ⟨[(0,.ref 200000),(3,.ref 3),(5,.ref 5),(7,.ref 7),(8,.ref 8),(30,.any),(31,.any),(32,.any)],[(200000,.any),(3,.any),(5,.any),(7,.any),(8,.any)]⟩ ⟨[(4,.any)],[(200000,.any)]⟩ (λq1=>([(0,.pt 200000 [] 0 0),(3,.pt 3 [] 0 0),(5,.pt 5 [] 0 0),(7,.pt 7 [] 0 0),(8,.pt 8 [] 0 0),(30,.ag [I_ v1.1,I_ v1.2.1,I_ v1.2.2.1,I_ v1.p3]),(31,I_ q1.1)],[(200000,.lit 7 [[.im 1 q1.2.1,.im 2 q1.2.2.1,.im 3 q1.p3,.im 4 q1.p4,.ow false 5 q1.p5,.ow true 7 q1.p6,.ow false 6 q1.p7]]),(3,.lit 7 [[I_ x.q7.c_,I_ x.q7.D_,I_ x.q7.A_,I_ x.q7.B_,I_ x.q7.C_,I_ x.q7.N_,.sc (.int .u32 x.q7.m_)]]),(5,.lit 5 [[I_ v1.1,I_ v1.2.1,I_ v1.2.2.1,I_ v1.p3,I_ v1.q4]]),(7,.lit 2 [[I_ q1.p8,I_ q1.p9]]),(8,.lit 2 [[I_ q1.p10,I_ q1.q11]])])) (λp=>([(0,.pt 200000 [] 0 0),(3,.pt 3 [] 0 0),(5,.pt 5 [] 0 0),(7,.pt 7 [] 0 0),(8,.pt 8 [] 0 0),(30,.ag [I_ v1.1,I_ v1.2.1,I_ v1.2.2.1,I_ v1.p3]),(31,I_ p.1),(32,B_ false)],[(200000,.lit 7 [[.im 1 p.2.1,.im 2 p.2.2.1,.im 3 p.p3,.im 4 p.p4,.ow false 5 p.p5,.ow true 7 p.p6,.ow false 6 p.p7]]),(3,.lit 7 [[I_ x.q7.c_,I_ x.q7.D_,I_ x.q7.A_,I_ x.q7.B_,I_ x.q7.C_,I_ x.q7.N_,.sc (.int .u32 x.q7.m_)]]),(5,.lit 5 [[I_ v1.1,I_ v1.2.1,I_ v1.2.2.1,I_ v1.p3,I_ v1.q4]]),(7,.lit 2 [[I_ p.p8,I_ p.p9]]),(8,.lit 2 [[I_ p.p10,I_ p.q11]])])) (λp=>([(4,B_ false)],[(200000,.lit 7 [[.im 1 p.1,.im 2 p.2.1,.im 3 p.2.2.1,.im 4 p.p3,.ow false 5 p.p4,.ow true 7 p.p5,.ow false 6 p.q6]])])) n (y0y n x v1)
def y81 (n:Nat)(x:Yae):Pt P_ Ty_ [200000] (Yan):=.call (k26 n) x.q7.c_ λ(y1:Yby)=>.ite (!y1.1) (.leaf (false,x.1,x.2.1,x.2.2.1,x.p3,x.p4,x.p5,x.p6)) (.loopR (V:=Ybg) (y0v n x) (y1.2.1,y1.2.2.1,y1.p3,y1.p4,y1.q5) ((0:Int),x.1,x.2.1,x.2.2.1,x.p3,x.p4,x.p5,x.p6,(0:Int),(0:Int),(0:Int),(0:Int)) (λ(v1:Ybg) (y6:Yax)=>.join (S:=Ycv) (y0x x) (.ite (x.q7.c_==1) (.call (k52 n) x.q7.m_ λ(y7:Bool)=>.ite (!y7) (.leaf (.inl (true,y6.2.1,y6.2.2.1,y6.p3,y6.p4,y6.p5,y6.p6,y6.p7,v1.1,v1.2.1,v1.2.2.1,v1.p3,v1.q4,y6.p10,y6.q11))) (.ite (x.q7.c_ != (1:Int)) (.leaf (.inl ((x.q7.m_ != (0:Int)),y6.2.1,y6.2.2.1,y6.p3,y6.p4,y6.p5,y6.p6,y6.p7,v1.1,v1.2.1,v1.2.2.1,v1.p3,v1.q4,y6.p10,y6.q11))) (.leaf (.inl (false,y6.2.1,y6.2.2.1,y6.p3,y6.p4,y6.p5,y6.p6,y6.p7,v1.1,v1.2.1,v1.2.2.1,v1.p3,v1.q4,y6.p10,y6.q11))))) (.ite (x.q7.c_ != (1:Int)) (.leaf (.inl ((x.q7.m_ != (0:Int)),y6.2.1,y6.2.2.1,y6.p3,y6.p4,y6.p5,y6.p6,y6.p7,v1.1,v1.2.1,v1.2.2.1,v1.p3,v1.q4,y6.p10,y6.q11))) (.leaf (.inl (false,y6.2.1,y6.2.2.1,y6.p3,y6.p4,y6.p5,y6.p6,y6.p7,v1.1,v1.2.1,v1.2.2.1,v1.p3,v1.q4,y6.p10,y6.q11))))) λs2=>.ite s2.1 (.leaf (false,s2.2.1,s2.2.2.1,s2.p3,s2.p4,s2.p5,s2.p6,s2.p7)) (.ite (s2.p12==1) (.ite (decide (x.q7.N_>=(0:Int))) (.leaf ((decide (x.q7.N_<=(2147483647:Int))),s2.2.1,s2.2.2.1,s2.p3,s2.p4,s2.p5,s2.p6,s2.p7)) (.leaf (false,s2.2.1,s2.2.2.1,s2.p3,s2.p4,s2.p5,s2.p6,s2.p7))) (.ite (s2.p12==2) (.ite (x.q7.N_==0) (.leaf (true,s2.2.1,s2.2.2.1,s2.p3,s2.p4,s2.p5,s2.p6,s2.p7)) (.ite (x.q7.N_==1) (.bnd (idx s2.2.1 s2.q14) λy8=>.leaf ((y8.j_==2),s2.2.1,s2.2.2.1,s2.p3,s2.p4,s2.p5,s2.p6,s2.p7)) (.leaf (false,s2.2.1,s2.2.2.1,s2.p3,s2.p4,s2.p5,s2.p6,s2.p7)))) (.ite (s2.p12==3) (.ite (decide (x.q7.N_>=(0:Int))) (.ite (decide (x.q7.N_<(s2.p3.length:Int))) (.bnd (idx s2.p3 x.q7.N_) λy9=>.leaf ((y9.s_.j_==s2.p13&&(y9.s_.n_==s2.q14&&true)),s2.2.1,s2.2.2.1,s2.p3,s2.p4,s2.p5,s2.p6,s2.p7)) (.leaf (false,s2.2.1,s2.2.2.1,s2.p3,s2.p4,s2.p5,s2.p6,s2.p7))) (.leaf (false,s2.2.1,s2.2.2.1,s2.p3,s2.p4,s2.p5,s2.p6,s2.p7))) (.ite (s2.p12==4) (.ite (decide (x.q7.N_>=(0:Int))) (.leaf ((decide (x.q7.N_<(s2.2.1.length:Int))),s2.2.1,s2.2.2.1,s2.p3,s2.p4,s2.p5,s2.p6,s2.p7)) (.leaf (false,s2.2.1,s2.2.2.1,s2.p3,s2.p4,s2.p5,s2.p6,s2.p7))) (.leaf ((x.q7.N_==0),s2.2.1,s2.2.2.1,s2.p3,s2.p4,s2.p5,s2.p6,s2.p7))))))) λ(v1:Ybg) (z1:Ycm)=>.leaf (false,z1.1,z1.2.1,z1.2.2.1,z1.p3,z1.p4,z1.p5,z1.q6))
def k35 (n:Nat):Con P_ Ty_:=zj (X:=Yae) (R:=Yan) (pro:=[200000]) (y7z n) 43 y80 (λx=>.two .no (.two .no (.two .no (.two .no (.two (.two .no (.two (.loop (Ybg) (y0v n x) true ⟨[(0,.ref 200000),(3,.ref 3),(5,.ref 5),(7,.ref 7),(8,.ref 8),(30,.any),(31,.any)],[(200000,.any),(3,.any),(5,.any),(7,.any),(8,.any)]⟩) .no)) (.two (.join (Ycv) (y0x x) ⟨[(0,.ref 200000),(3,.ref 3),(5,.ref 5),(8,.ref 8),(95,.any)],[(200000,.any),(3,.any),(5,.any),(8,.any)]⟩ .no .no) .no)))))) [.pt 200000,.ag [.any,.any,.any,.any,.any,.any,.any]] [(200000,[.im 1,.im 2,.im 3,.im 4,.ow false 5,.ow true 7,.ow false 6])] [] ⟨[(4,.any)],[(200000,.any)]⟩ [200000] false (λx=>[.pt 200000 [] 0 0,.ag [I_ x.q7.c_,I_ x.q7.D_,I_ x.q7.A_,I_ x.q7.B_,I_ x.q7.C_,I_ x.q7.N_,.sc (.int .u32 x.q7.m_)]]) (λx=>[(200000,.lit 7 [[.im 1 x.1,.im 2 x.2.1,.im 3 x.2.2.1,.im 4 x.p3,.ow false 5 x.p4,.ow true 7 x.p5,.ow false 6 x.p6]])]) (λy=>([(4,B_ y.1)],[(200000,.lit 7 [[.im 1 y.2.1,.im 2 y.2.2.1,.im 3 y.p3,.im 4 y.p4,.ow false 5 y.p5,.ow true 7 y.p6,.ow false 6 y.q7]])])) (λy=>B_ y.1) (λy=>[(200000,.lit 7 [[.im 1 y.2.1,.im 2 y.2.2.1,.im 3 y.p3,.im 4 y.p4,.ow false 5 y.p5,.ow true 7 y.p6,.ow false 6 y.q7]])]) (y81 n)
def yl3 (n:Nat):Cx P_ Ty_:=⟨[],[],[],[]⟩
abbrev yl4:List (List Nat):=[[0],[2]]
def y7k (n:Nat)(x:Int):Pt P_ Ty_ [] Bool:=.ite (decide (x>=(3:Int))) (.leaf (decide (x<=(15:Int)))) (.leaf false)
def k13 (n:Nat):Con P_ Ty_:=zj (X:=Int) (R:=Bool) (pro:=[]) (yl3 n) 64 yl4 (λx=>.no) [.any] [] [] ⟨[(2,.any)],[]⟩ [] true (λx=>[I_ x]) (λx=>[]) (λy=>([(2,B_ y)],[])) (λy=>B_ y) (λy=>[]) (y7k n)
def y82 (n:Nat):Cx P_ Ty_:=⟨[k13 n],[(53,false,6)],[],[]⟩
abbrev y83:List (List Nat):=[[0,3],[0,3,5],[0,3,5,15],[0,3,5],[0,3,5,29],[0,3,5,29,30],[0,3,5,29,30],[0,3,42],[4],[0,3,45],[],[4],[0,3,5,29,57],[0,68],[4],[0,6],[0,6,81,82,83],[0,6,81,82,83,84],[0,6,8,81,82,83],[0,6,81,82,83],[0,6,81,82,83],[0],[],[4],[0,3,5,117],[0,120],[4],[],[4],[0,3,5,136],[4],[0,3,9],[0,3,9,139],[0,3,9,139],[0,3,9,139],[0,3,9,139],[4],[0,3,9,163],[0,3,9,163],[4],[4]]
def y1a (x:Yae)(p:Int):EH Ty_:=([(0,.pt 200000 [] 0 0),(3,.pt 3 [] 0 0),(5,I_ p)],[(200000,.lit 7 [[.im 1 x.1,.im 2 x.2.1,.im 3 x.2.2.1,.im 4 x.p3,.ow false 5 x.p4,.ow true 7 x.p5,.ow false 6 x.p6]]),(3,.lit 7 [[I_ x.q7.c_,I_ x.q7.D_,I_ x.q7.A_,I_ x.q7.B_,I_ x.q7.C_,I_ x.q7.N_,.sc (.int .u32 x.q7.m_)]])])
def y1b (x:Yae)(p:Yag):EH Ty_:=([(0,.pt 200000 [] 0 0),(3,.pt 3 [] 0 0),(5,I_ p.1),(29,I_ x.q7.c_),(30,B_ p.2)],[(200000,.lit 7 [[.im 1 x.1,.im 2 x.2.1,.im 3 x.2.2.1,.im 4 x.p3,.ow false 5 x.p4,.ow true 7 x.p5,.ow false 6 x.p6]]),(3,.lit 7 [[I_ x.q7.c_,I_ x.q7.D_,I_ x.q7.A_,I_ x.q7.B_,I_ x.q7.C_,I_ x.q7.N_,.sc (.int .u32 x.q7.m_)]])])
def y1c (x:Yae)(p:Bool):EH Ty_:=([(0,.pt 200000 [] 0 0),(3,.pt 3 [] 0 0),(42,B_ p)],[(200000,.lit 7 [[.im 1 x.1,.im 2 x.2.1,.im 3 x.2.2.1,.im 4 x.p3,.ow false 5 x.p4,.ow true 7 x.p5,.ow false 6 x.p6]]),(3,.lit 7 [[I_ x.q7.c_,I_ x.q7.D_,I_ x.q7.A_,I_ x.q7.B_,I_ x.q7.C_,I_ x.q7.N_,.sc (.int .u32 x.q7.m_)]])])
def y1d (x:Yae)(p:Bool):EH Ty_:=([(0,.pt 200000 [] 0 0),(68,B_ p)],[(200000,.lit 7 [[.im 1 x.1,.im 2 x.2.1,.im 3 x.2.2.1,.im 4 x.p3,.ow false 5 x.p4,.ow true 7 x.p5,.ow false 6 x.p6]])])
def y1e (x:Yae)(p:Ybz):EH Ty_:=([(0,.pt 200000 [] 0 0),(3,.pt 3 [] 0 0),(9,.pt 9 [] 0 0),(139,B_ p.1)],[(200000,.lit 7 [[.im 1 x.1,.im 2 x.2.1,.im 3 x.2.2.1,.im 4 x.p3,.ow false 5 x.p4,.ow true 7 x.p5,.ow false 6 x.p6]]),(3,.lit 7 [[I_ x.q7.c_,I_ x.q7.D_,I_ x.q7.A_,I_ x.q7.B_,I_ x.q7.C_,I_ x.q7.N_,.sc (.int .u32 x.q7.m_)]]),(9,.lit 2 [[I_ (3:Int),I_ p.2]])])
def y1f (x:Yae)(p:Ybz):EH Ty_:=([(0,.pt 200000 [] 0 0),(3,.pt 3 [] 0 0),(9,.pt 9 [] 0 0),(163,B_ p.1)],[(200000,.lit 7 [[.im 1 x.1,.im 2 x.2.1,.im 3 x.2.2.1,.im 4 x.p3,.ow false 5 x.p4,.ow true 7 x.p5,.ow false 6 x.p6]]),(3,.lit 7 [[I_ x.q7.c_,I_ x.q7.D_,I_ x.q7.A_,I_ x.q7.B_,I_ x.q7.C_,I_ x.q7.N_,.sc (.int .u32 x.q7.m_)]]),(9,.lit 2 [[I_ (3:Int),I_ p.2]])])
def y1g (n:Nat)(x:Yae)(v1:Int)(q1:Yac):Pt P_ Ty_ [200000] (Bo (Yac) (Yac) Empty):=.ite (decide (q1.1<v1)) (.bnd (x.p5[(i64.wrap ((x.p5.length:Int) - (1:Int))).toNat]?) λy4=>.need (0<=q1.1/\q1.1<(y4.length:Int)) (.bnd (x.p5[(i64.wrap ((x.p5.length:Int) - (1:Int))).toNat]?) λy5=>.bnd (y5[q1.1.toNat]?) λy6=>.need (0<=y6/\y6<(q1.2.length:Int)) (.bnd (q1.2[y6.toNat]?) λy7=>.leaf (.go ((i64.wrap (q1.1+(1:Int))),(q1.2.set y6.toNat false)))))) (.leaf (.out (q1.1,q1.2)))
def y0z (n:Nat)(x:Yae)(v1:Int):z15 P_ Ty_ [200000]:=z1d (X:=Yac) (Y:=Yac) (Z:=Empty) (y82 n) (z16 [1,1,1,0,1,0,1,1,1,0,1,1,0,1,0,0] (fnC P_ 44 y83)) (λq1=>.no) 1 false ⟨[(0,.ref 200000),(6,.any),(81,.ref 200000),(82,.any),(83,.any)],[(200000,.any)]⟩ ⟨[(0,.ref 200000),(6,.any),(81,.ref 200000),(82,.any),(83,.any),(84,.any)],[(200000,.any)]⟩ ⟨[],[]⟩ (λq1=>([(0,.pt 200000 [] 0 0),(6,I_ (i64.wrap ((x.p5.length:Int) - (1:Int)))),(81,.sw 200000 [(0,5),((i64.wrap ((x.p5.length:Int) - (1:Int))).toNat,0)]),(82,I_ v1),(83,I_ q1.1)],[(200000,.lit 7 [[.im 1 x.1,.im 2 x.2.1,.im 3 x.2.2.1,.im 4 x.p3,.ow false 5 q1.2,.ow true 7 x.p5,.ow false 6 x.p6]])])) (λp=>([(0,.pt 200000 [] 0 0),(6,I_ (i64.wrap ((x.p5.length:Int) - (1:Int)))),(81,.sw 200000 [(0,5),((i64.wrap ((x.p5.length:Int) - (1:Int))).toNat,0)]),(82,I_ v1),(83,I_ p.1),(84,B_ false)],[(200000,.lit 7 [[.im 1 x.1,.im 2 x.2.1,.im 3 x.2.2.1,.im 4 x.p3,.ow false 5 p.2,.ow true 7 x.p5,.ow false 6 x.p6]])])) (λp=>nomatch p) n (y1g n x v1)
def y84 (n:Nat)(x:Yae):Pt P_ Ty_ [200000] (Yan):=.join (S:=Int) (y1a x) (.ite (decide ((x.p6.length:Int) > (0:Int))) (.need (0<=(i64.wrap ((x.p6.length:Int) - (1:Int)))/\(i64.wrap ((x.p6.length:Int) - (1:Int)))<(x.p6.length:Int)) (.bnd (x.p6[(i64.wrap ((x.p6.length:Int) - (1:Int))).toNat]?) λy1=>.leaf (.inl y1))) (.leaf (.inl (-1:Int)))) λs1=>.join (S:=Yag) (y1b x) (.ite (x.q7.c_==34) (.leaf (.inl (s1,true))) (.leaf (.inl (s1,(x.q7.c_==36))))) λs2=>.ite s2.2 (.join (S:=Bool) (y1c x) (.ite (decide (s2.1>=(0:Int))) (.leaf (.inl true)) (.leaf (.inl ((x.p6.length:Int)==64)))) λs3=>.ite s3 (.leaf (false,x.1,x.2.1,x.2.2.1,x.p3,x.p4,x.p5,x.p6)) (.ite (x.q7.c_==36) (.need ((x.p6.length+([x.q7.N_]:List Int).length) * 8<=140737488355328) (.leaf (true,x.1,x.2.1,x.2.2.1,x.p3,x.p4,x.p5,(x.p6++([x.q7.N_]:List Int))))) (.leaf (true,x.1,x.2.1,x.2.2.1,x.p3,x.p4,x.p5,x.p6)))) (.ite (x.q7.c_==35) (.join (S:=Bool) (y1d x) (.ite ((x.p6.length:Int)==0) (.leaf (.inl true)) (.leaf (.inl (decide (s2.1>=(0:Int)))))) λs4=>.ite s4 (.leaf (false,x.1,x.2.1,x.2.2.1,x.p3,x.p4,x.p5,x.p6)) (.need (0<=(i64.wrap ((x.p5.length:Int) - (1:Int)))/\(i64.wrap ((x.p5.length:Int) - (1:Int)))<(x.p5.length:Int)) (.bnd (x.p5[(i64.wrap ((x.p5.length:Int) - (1:Int))).toNat]?) λy2=>.bnd (x.p5[(i64.wrap ((x.p5.length:Int) - (1:Int))).toNat]?) λy3=>.loop (V:=Int) (y0z n x) (y3.length:Int) ((0:Int),x.p4) λ(v1:Int) (y8:Yac)=>.need (0<=(i64.wrap ((x.p5.length:Int) - (1:Int)))/\(i64.wrap ((x.p5.length:Int) - (1:Int)))<=(x.p5.length:Int)) (.need ((i64.wrap ((x.p5.length:Int) - (1:Int))).toNat<=x.p5.length) (.need (0<=(i64.wrap ((x.p6.length:Int) - (1:Int)))/\(i64.wrap ((x.p6.length:Int) - (1:Int)))<=(x.p6.length:Int)) (.need ((i64.wrap ((x.p6.length:Int) - (1:Int))).toNat<=x.p6.length) (.leaf (true,x.1,x.2.1,x.2.2.1,x.p3,y8.2,(x.p5.take ((i64.wrap ((x.p5.length:Int) - (1:Int))).toNat)),(x.p6.take ((i64.wrap ((x.p6.length:Int) - (1:Int))).toNat)))))))))) (.ite (x.q7.c_==37) (.ite (decide (s2.1<(0:Int))) (.leaf (false,x.1,x.2.1,x.2.2.1,x.p3,x.p4,x.p5,x.p6)) (.need (0<=(i64.wrap ((x.p6.length:Int) - (1:Int)))/\(i64.wrap ((x.p6.length:Int) - (1:Int)))<=(x.p6.length:Int)) (.need ((i64.wrap ((x.p6.length:Int) - (1:Int))).toNat<=x.p6.length) (.leaf (true,x.1,x.2.1,x.2.2.1,x.p3,x.p4,x.p5,(x.p6.take ((i64.wrap ((x.p6.length:Int) - (1:Int))).toNat))))))) (.ite (decide (s2.1<(0:Int))) (.leaf (true,x.1,x.2.1,x.2.2.1,x.p3,x.p4,x.p5,x.p6)) (.join (S:=Ybz) (y1e x) (.call (k13 n) x.q7.c_ λ(y9:Bool)=>.ite y9 (.leaf (.inl (true,s2.1))) (.ite (x.q7.c_==29) (.leaf (.inl (true,s2.1))) (.ite (x.q7.c_==30) (.leaf (.inl (true,s2.1))) (.leaf (.inl ((x.q7.c_==32),s2.1)))))) λs5=>.ite s5.1 (.bnd (idx x.2.1 x.q7.D_) λy10=>.leaf ((y10.j_==(3:Int)&&(y10.n_==s5.2&&true)),x.1,x.2.1,x.2.2.1,x.p3,x.p4,x.p5,x.p6)) (.join (S:=Ybz) (y1f x) (.ite (x.q7.c_==31) (.leaf (.inl (true,s5.2))) (.leaf (.inl ((x.q7.c_==33),s5.2)))) λs6=>.ite s6.1 (.bnd (idx x.2.1 x.q7.A_) λy11=>.leaf ((y11.j_==(3:Int)&&(y11.n_==s6.2&&true)),x.1,x.2.1,x.2.2.1,x.p3,x.p4,x.p5,x.p6)) (.leaf (false,x.1,x.2.1,x.2.2.1,x.p3,x.p4,x.p5,x.p6)))))))
def k36 (n:Nat):Con P_ Ty_:=zj (X:=Yae) (R:=Yan) (pro:=[200000]) (y82 n) 44 y83 (λx=>.two .no (.two .no (.join Int (y1a x) ⟨[(0,.ref 200000),(3,.ref 3),(5,.any)],[(200000,.any),(3,.any)]⟩ .no (.two (.two .no (.two (.join (Yag) (y1b x) ⟨[(0,.ref 200000),(3,.ref 3),(5,.any),(29,.any),(30,.any)],[(200000,.any),(3,.any)]⟩ .no (.two (.two (.join Bool (y1c x) ⟨[(0,.ref 200000),(3,.ref 3),(42,.any)],[(200000,.any),(3,.any)]⟩ .no .no) .no) (.two .no (.two (.two (.join Bool (y1d x) ⟨[(0,.ref 200000),(68,.any)],[(200000,.any)]⟩ .no .no) (.two .no (.two (.two .no (.two (.loop Int (y0z n x) false ⟨[(0,.ref 200000),(6,.any),(81,.ref 200000),(82,.any),(83,.any)],[(200000,.any)]⟩) .no)) .no))) .no)))) .no)) (.two .no (.two .no (.two (.two (.join (Ybz) (y1e x) ⟨[(0,.ref 200000),(3,.ref 3),(9,.ref 9),(139,.any)],[(200000,.any),(3,.any),(9,.any)]⟩ .no (.two .no (.join (Ybz) (y1f x) ⟨[(0,.ref 200000),(3,.ref 3),(9,.ref 9),(163,.any)],[(200000,.any),(3,.any),(9,.any)]⟩ .no .no))) .no) .no))))))) [.pt 200000,.ag [.any,.any,.any,.any,.any,.any,.any]] [(200000,[.im 1,.im 2,.im 3,.im 4,.ow false 5,.ow true 7,.ow false 6])] [] ⟨[(4,.any)],[(200000,.any)]⟩ [200000] false (λx=>[.pt 200000 [] 0 0,.ag [I_ x.q7.c_,I_ x.q7.D_,I_ x.q7.A_,I_ x.q7.B_,I_ x.q7.C_,I_ x.q7.N_,.sc (.int .u32 x.q7.m_)]]) (λx=>[(200000,.lit 7 [[.im 1 x.1,.im 2 x.2.1,.im 3 x.2.2.1,.im 4 x.p3,.ow false 5 x.p4,.ow true 7 x.p5,.ow false 6 x.p6]])]) (λy=>([(4,B_ y.1)],[(200000,.lit 7 [[.im 1 y.2.1,.im 2 y.2.2.1,.im 3 y.p3,.im 4 y.p4,.ow false 5 y.p5,.ow true 7 y.p6,.ow false 6 y.q7]])])) (λy=>B_ y.1) (λy=>[(200000,.lit 7 [[.im 1 y.2.1,.im 2 y.2.2.1,.im 3 y.p3,.im 4 y.p4,.ow false 5 y.p5,.ow true 7 y.p6,.ow false 6 y.q7]])]) (y84 n)
def yig (n:Nat):Cx P_ Ty_:=⟨[k26 n],[(37,false,6),(38,false,6)],[],[]⟩
abbrev yih:List (List Nat):=[[1],[1,3],[1,3,5],[1,5,20,21],[1,5,20,21,22],[1,5,6,7,20,21],[1,5,6,20,21,26],[1,5,20,21],[1,5,20,21],[2]]
def y9h (n:Nat)(x:Xd)(v1:Yao)(q1:Yab):Pt P_ Ty_ [] (Bo (Yab) (Yab) Empty):=.ite (decide (q1.1<(3:Int))) (.bnd (idx [v1.1,v1.2.1,v1.2.2] q1.1) λy2=>.ite (y2 != (0:Int)) (.bnd (idx [x.A_,x.B_,x.C_] q1.1) λy3=>.need ((q1.2.length+([y3]:List Int).length) * 8<=140737488355328) (.leaf (.go ((i64.wrap (q1.1+(1:Int))),(q1.2++([y3]:List Int)))))) (.leaf (.go ((i64.wrap (q1.1+(1:Int))),q1.2)))) (.leaf (.out (q1.1,q1.2)))
def y9g (n:Nat)(x:Xd)(v1:Yao):z15 P_ Ty_ []:=z1d (X:=Yab) (Y:=Yab) (Z:=Empty) (yig n) (z16 [1,1,1,0,1,0,0] (fnC P_ 46 yih)) (λq1=>.no) 0 false ⟨[(1,.ref 1),(5,.own 600001 false 6),(20,.any),(21,.any)],[(1,.any),(600001,.any)]⟩ ⟨[(1,.ref 1),(5,.ref 600001),(20,.any),(21,.any),(22,.any)],[(1,.any),(600001,.any)]⟩ ⟨[],[]⟩ (λq1=>([(1,.pt 1 [] 0 0),(5,.sw 600001 []),(20,.ag [I_ v1.1,I_ v1.2.1,I_ v1.2.2]),(21,I_ q1.1)],[(1,.lit 7 [[I_ x.c_,I_ x.D_,I_ x.A_,I_ x.B_,I_ x.C_,I_ x.N_,.sc (.int .u32 x.m_)]]),(600001,.typ false 6 q1.2)])) (λp=>([(1,.pt 1 [] 0 0),(5,.sw 600001 []),(20,.ag [I_ v1.1,I_ v1.2.1,I_ v1.2.2]),(21,I_ p.1),(22,B_ false)],[(1,.lit 7 [[I_ x.c_,I_ x.D_,I_ x.A_,I_ x.B_,I_ x.C_,I_ x.N_,.sc (.int .u32 x.m_)]]),(600001,.typ false 6 p.2)])) (λp=>nomatch p) n (y9h n x v1)
def yii (n:Nat)(x:Xd):Pt P_ Ty_ [] (List Int):=.call (k26 n) x.c_ λ(y1:Yby)=>.loop (V:=Yao) (y9g n x) (y1.2.2.1,y1.p3,y1.p4) ((0:Int),([]:List Int)) λ(v1:Yao) (y4:Yab)=>.leaf y4.2
def k9 (n:Nat):Con P_ Ty_:=zj (X:=Xd) (R:=(List Int)) (pro:=[]) (yig n) 46 yih (λx=>.two .no (.two .no (.two .no (.two (.two .no (.two (.loop (Yao) (y9g n x) false ⟨[(1,.ref 1),(5,.own 600001 false 6),(20,.any),(21,.any)],[(1,.any),(600001,.any)]⟩) .no)) .no)))) [.ag [.any,.any,.any,.any,.any,.any,.any]] [] [100000] ⟨[(2,.ref 100000)],[(100000,.any)]⟩ [100000] true (λx=>[.ag [I_ x.c_,I_ x.D_,I_ x.A_,I_ x.B_,I_ x.C_,I_ x.N_,.sc (.int .u32 x.m_)]]) (λx=>[]) (λy=>([(2,.sw 100000 [])],[(100000,.typ false 6 y)])) (λy=>.sw 100000 []) (λy=>[(100000,.typ false 6 y)]) (yii n)
def ykz (n:Nat):Cx P_ Ty_:=⟨[k26 n],[],[],[]⟩
abbrev yl0:List (List Nat):=[[1],[3],[2]]
def y7i (n:Nat)(x:Xd):Pt P_ Ty_ [] Bool:=.call (k26 n) x.c_ λ(y1:Yby)=>.leaf (y1.2.1 != (0:Int))
def k11 (n:Nat):Con P_ Ty_:=zj (X:=Xd) (R:=Bool) (pro:=[]) (ykz n) 24 yl0 (λx=>.no) [.ag [.any,.any,.any,.any,.any,.any,.any]] [] [] ⟨[(2,.any)],[]⟩ [] true (λx=>[.ag [I_ x.c_,I_ x.D_,I_ x.A_,I_ x.B_,I_ x.C_,I_ x.N_,.sc (.int .u32 x.m_)]]) (λx=>[]) (λy=>([(2,B_ y)],[])) (λy=>B_ y) (λy=>[]) (y7i n)
def y85 (n:Nat):Cx P_ Ty_:=⟨[k9 n,k11 n],[(32,false,6),(41,true,7),(87,false,6)],[],[]⟩
abbrev y86:List (List Nat):=[[0,3],[0,3,9,10,11],[0,3,9,10,11,12],[0,3,6,9,10,11],[0,3,9,10,11,22],[4],[0,3,9,10,11],[0,3,26],[0,3],[0,3],[0,3,57],[0,3],[0,3,7],[0,3,7,72],[],[4]]
def y1i (x:Yae)(p:Ycw):EH Ty_:=([(0,.pt 200000 [] 0 0),(3,.pt 3 [] 0 0)],[(200000,.lit 7 [[.im 1 x.1,.im 2 x.2.1,.im 3 x.2.2.1,.im 4 x.p3,.ow false 5 x.p4,.ow true 7 p.1,.ow false 6 p.2]]),(3,.lit 7 [[I_ x.q7.c_,I_ x.q7.D_,I_ x.q7.A_,I_ x.q7.B_,I_ x.q7.C_,I_ x.q7.N_,.sc (.int .u32 x.q7.m_)]])])
def y1j (x:Yae)(p:Ycx):EH Ty_:=([(0,.pt 200000 [] 0 0),(3,.pt 3 [] 0 0),(57,B_ p.1)],[(200000,.lit 7 [[.im 1 x.1,.im 2 x.2.1,.im 3 x.2.2.1,.im 4 x.p3,.ow false 5 x.p4,.ow true 7 p.2.1,.ow false 6 p.2.2]]),(3,.lit 7 [[I_ x.q7.c_,I_ x.q7.D_,I_ x.q7.A_,I_ x.q7.B_,I_ x.q7.C_,I_ x.q7.N_,.sc (.int .u32 x.q7.m_)]])])
def y1k (n:Nat)(x:Yae)(v1:Yab)(q1:Int):Pt P_ Ty_ [200000] (Bo Int Int Unit):=.ite (decide (q1<v1.1)) (.need (0<=q1/\q1<(v1.2.length:Int)) (.bnd (v1.2[q1.toNat]?) λy2=>.need (0<=y2/\y2<(x.p4.length:Int)) (.bnd (x.p4[y2.toNat]?) λy3=>.ite (!y3) (.leaf (.ret ())) (.leaf (.go (i64.wrap (q1+(1:Int)))))))) (.leaf (.out q1))
def y1h (n:Nat)(x:Yae)(v1:Yab):z15 P_ Ty_ [200000]:=z1d (X:=Int) (Y:=Int) (Z:=Unit) (y85 n) (z16 [1,0,1,0,0] (fnC P_ 45 y86)) (λq1=>.no) 0 true ⟨[(0,.ref 200000),(3,.ref 3),(9,.ref 9),(10,.any),(11,.any)],[(200000,.any),(3,.any),(9,.any)]⟩ ⟨[(0,.ref 200000),(3,.ref 3),(9,.ref 9),(10,.any),(11,.any),(12,.any)],[(200000,.any),(3,.any),(9,.any)]⟩ ⟨[(4,.any)],[(200000,.any)]⟩ (λq1=>([(0,.pt 200000 [] 0 0),(3,.pt 3 [] 0 0),(9,.sw 9 []),(10,I_ v1.1),(11,I_ q1)],[(200000,.lit 7 [[.im 1 x.1,.im 2 x.2.1,.im 3 x.2.2.1,.im 4 x.p3,.ow false 5 x.p4,.ow true 7 x.p5,.ow false 6 x.p6]]),(3,.lit 7 [[I_ x.q7.c_,I_ x.q7.D_,I_ x.q7.A_,I_ x.q7.B_,I_ x.q7.C_,I_ x.q7.N_,.sc (.int .u32 x.q7.m_)]]),(9,.typ false 6 v1.2)])) (λp=>([(0,.pt 200000 [] 0 0),(3,.pt 3 [] 0 0),(9,.sw 9 []),(10,I_ v1.1),(11,I_ p),(12,B_ false)],[(200000,.lit 7 [[.im 1 x.1,.im 2 x.2.1,.im 3 x.2.2.1,.im 4 x.p3,.ow false 5 x.p4,.ow true 7 x.p5,.ow false 6 x.p6]]),(3,.lit 7 [[I_ x.q7.c_,I_ x.q7.D_,I_ x.q7.A_,I_ x.q7.B_,I_ x.q7.C_,I_ x.q7.N_,.sc (.int .u32 x.q7.m_)]]),(9,.typ false 6 v1.2)])) (λp=>([(4,B_ false)],[(200000,.lit 7 [[.im 1 x.1,.im 2 x.2.1,.im 3 x.2.2.1,.im 4 x.p3,.ow false 5 x.p4,.ow true 7 x.p5,.ow false 6 x.p6]])])) n (y1k n x v1)
def y87 (n:Nat)(x:Yae):Pt P_ Ty_ [200000] (Yan):=.call (k9 n) x.q7 λ(y1:(List Int))=>.loopR (V:=Yab) (y1h n x) ((y1.length:Int),y1) (0:Int) (λ(v1:Yab) (y4:Int)=>.join (S:=Ycw) (y1i x) (.ite (x.q7.c_==34) (.need ((x.p6.length+([(-1:Int)]:List Int).length) * 8<=140737488355328) (.need ((x.p5.length+([[]]:List (List Int)).length) * 24<=140737488355328) (.leaf (.inl ((x.p5++([[]]:List (List Int))),(x.p6++([(-1:Int)]:List Int))))))) (.leaf (.inl (x.p5,x.p6)))) λs1=>.join (S:=Ycx) (y1j x) (.call (k11 n) x.q7 λ(y5:Bool)=>.ite y5 (.need (0<=x.q7.D_/\x.q7.D_<(x.p4.length:Int)) (.bnd (x.p4[x.q7.D_.toNat]?) λy6=>.leaf (.inl ((!y6),s1.1,s1.2)))) (.leaf (.inl (false,s1.1,s1.2)))) λs2=>.ite s2.1 (.need (0<=x.q7.D_/\x.q7.D_<(x.p4.length:Int)) (.bnd (x.p4[x.q7.D_.toNat]?) λy7=>.ite (decide ((i64.wrap ((s2.2.1.length:Int) - (1:Int)))>=(0:Int))) (.need (0<=(i64.wrap ((s2.2.1.length:Int) - (1:Int)))/\(i64.wrap ((s2.2.1.length:Int) - (1:Int)))<(s2.2.1.length:Int)) (.bnd (s2.2.1[(i64.wrap ((s2.2.1.length:Int) - (1:Int))).toNat]?) λy8=>.bnd (s2.2.1[(i64.wrap ((s2.2.1.length:Int) - (1:Int))).toNat]?) λy9=>.bnd (s2.2.1[(i64.wrap ((s2.2.1.length:Int) - (1:Int))).toNat]?) λy10=>.need ((y9.length+([x.q7.D_]:List Int).length) * 8<=140737488355328) (.need (0<=(i64.wrap ((s2.2.1.length:Int) - (1:Int)))/\(i64.wrap ((s2.2.1.length:Int) - (1:Int)))<(s2.2.1.length:Int)) (.need ((i64.wrap ((s2.2.1.length:Int) - (1:Int))).toNat=(i64.wrap ((s2.2.1.length:Int) - (1:Int))).toNat/\(i64.wrap ((s2.2.1.length:Int) - (1:Int))).toNat<s2.2.1.length) (.leaf (true,x.1,x.2.1,x.2.2.1,x.p3,(x.p4.set x.q7.D_.toNat true),(s2.2.1.set ((i64.wrap ((s2.2.1.length:Int) - (1:Int))).toNat) (y9++([x.q7.D_]:List Int))),s2.2.2)))))) (.leaf (true,x.1,x.2.1,x.2.2.1,x.p3,(x.p4.set x.q7.D_.toNat true),s2.2.1,s2.2.2)))) (.leaf (true,x.1,x.2.1,x.2.2.1,x.p3,x.p4,s2.2.1,s2.2.2))) λ(v1:Yab) (z1:Unit)=>.leaf (false,x.1,x.2.1,x.2.2.1,x.p3,x.p4,x.p5,x.p6)
def k37 (n:Nat):Con P_ Ty_:=zj (X:=Yae) (R:=Yan) (pro:=[200000]) (y85 n) 45 y86 (λx=>.two .no (.two (.two .no (.two (.loop (Yab) (y1h n x) true ⟨[(0,.ref 200000),(3,.ref 3),(9,.ref 9),(10,.any),(11,.any)],[(200000,.any),(3,.any),(9,.any)]⟩) .no)) (.join (Ycw) (y1i x) ⟨[(0,.ref 200000),(3,.ref 3)],[(200000,.any),(3,.any)]⟩ .no (.two (.join (Ycx) (y1j x) ⟨[(0,.ref 200000),(3,.ref 3),(57,.any)],[(200000,.any),(3,.any)]⟩ .no .no) .no)))) [.pt 200000,.ag [.any,.any,.any,.any,.any,.any,.any]] [(200000,[.im 1,.im 2,.im 3,.im 4,.ow false 5,.ow true 7,.ow false 6])] [] ⟨[(4,.any)],[(200000,.any)]⟩ [200000] false (λx=>[.pt 200000 [] 0 0,.ag [I_ x.q7.c_,I_ x.q7.D_,I_ x.q7.A_,I_ x.q7.B_,I_ x.q7.C_,I_ x.q7.N_,.sc (.int .u32 x.q7.m_)]]) (λx=>[(200000,.lit 7 [[.im 1 x.1,.im 2 x.2.1,.im 3 x.2.2.1,.im 4 x.p3,.ow false 5 x.p4,.ow true 7 x.p5,.ow false 6 x.p6]])]) (λy=>([(4,B_ y.1)],[(200000,.lit 7 [[.im 1 y.2.1,.im 2 y.2.2.1,.im 3 y.p3,.im 4 y.p4,.ow false 5 y.p5,.ow true 7 y.p6,.ow false 6 y.q7]])])) (λy=>B_ y.1) (λy=>[(200000,.lit 7 [[.im 1 y.2.1,.im 2 y.2.2.1,.im 3 y.p3,.im 4 y.p4,.ow false 5 y.p5,.ow true 7 y.p6,.ow false 6 y.q7]])]) (y87 n)
def y7m (n:Nat):Cx P_ Ty_:=⟨[k28 n,k29 n,k32 n,k35 n,k36 n,k37 n],[(45,false,5)],[],[]⟩
abbrev y7n:List (List Nat):=[[1],[1,4],[1,4,11],[2,3],[1,15],[2,3],[1,26],[2,3],[1,40],[2,3],[1,5],[1,5,49,50,51],[1,5,49,50,51,52],[1,5,6,7,49,50,51],[1,5,6,49,50,51,71],[2,3],[1,5,49,50,51],[1,79],[2,3],[2,3]]
def zz7 (x:Xe)(p:Bool):EH Ty_:=([(1,.pt 1 [] 0 0),(15,B_ p)],[(1,.lit 4 [[.im 1 x.f_,.im 2 x.a_,.im 3 x.e_,.im 4 x.d_]])])
def zz8 (x:Xe)(p:Yak):EH Ty_:=([(1,.pt 1 [] 0 0),(40,B_ p.1)],[(1,.lit 4 [[.im 1 p.2.1,.im 2 p.2.2.1,.im 3 p.p3,.im 4 p.q4]])])
def zz9 (x:Xe)(v1:Ybh)(q1:Yay)(p:Yan):EH Ty_:=([(1,.pt 1 [] 0 0),(5,.pt 47 [] 0 0),(6,I_ q1.1),(49,.im 4 v1.1),(50,I_ v1.2.1),(51,I_ q1.1),(71,B_ p.1)],[(1,.lit 4 [[.im 1 v1.2.2.1,.im 2 v1.p3,.im 3 v1.q4,.im 4 v1.1]]),(47,.lit 7 [[.im 1 p.2.1,.im 2 p.2.2.1,.im 3 p.p3,.im 4 p.p4,.ow false 5 p.p5,.ow true 7 p.p6,.ow false 6 p.q7]])])
def zza (n:Nat)(x:Xe)(v1:Ybh)(q1:Yay):Pt P_ Ty_ [] (Bo (Yay) (Yay) Int):=.ite (decide (q1.1<v1.2.1)) (.bnd (idx v1.1 q1.1) λy4=>.join (S:=Yan) (zz9 x v1 q1) (.call (k35 n) (q1.2.1,q1.2.2.1,q1.p3,q1.p4,q1.p5,q1.p6,q1.q7,y4) λ(y5:Yan)=>.ite (!y5.1) (.leaf (.inl (true,y5.2.1,y5.2.2.1,y5.p3,y5.p4,y5.p5,y5.p6,y5.q7))) (.call (k36 n) (y5.2.1,y5.2.2.1,y5.p3,y5.p4,y5.p5,y5.p6,y5.q7,y4) λ(y6:Yan)=>.ite (!y6.1) (.leaf (.inl (true,y6.2.1,y6.2.2.1,y6.p3,y6.p4,y6.p5,y6.p6,y6.q7))) (.call (k37 n) (y6.2.1,y6.2.2.1,y6.p3,y6.p4,y6.p5,y6.p6,y6.q7,y4) λ(y7:Yan)=>.leaf (.inl ((!y7.1),y7.2.1,y7.2.2.1,y7.p3,y7.p4,y7.p5,y7.p6,y7.q7))))) λs3=>.ite s3.1 (.leaf (.ret q1.1)) (.leaf (.go ((i64.wrap (q1.1+(1:Int))),s3.2.1,s3.2.2.1,s3.p3,s3.p4,s3.p5,s3.p6,s3.q7)))) (.leaf (.out (q1.1,q1.2.1,q1.2.2.1,q1.p3,q1.p4,q1.p5,q1.p6,q1.q7)))
def zz6 (n:Nat)(x:Xe)(v1:Ybh):z15 P_ Ty_ []:=z1d (X:=Yay) (Y:=Yay) (Z:=Int) (y7m n) (z16 [1,1,1,1,0,1,0,0] (fnC P_ 17 y7n)) (λq1=>.two .no (.two .no (.two (.two (.two .no (.join (Yan) (zz9 x v1 q1) ⟨[(1,.ref 1),(5,.ref 47),(6,.any),(49,.im 4),(50,.any),(51,.any),(71,.any)],[(1,.any),(47,.any)]⟩ .no .no)) .no) .no))) 1 true ⟨[(1,.ref 1),(5,.ref 47),(49,.im 4),(50,.any),(51,.any)],[(1,.any),(47,.fix [.no,.no,.no,.no,.no,.ow true 7,.ow false 6])]⟩ ⟨[(1,.ref 1),(5,.ref 47),(49,.im 4),(50,.any),(51,.any),(52,.any)],[(1,.any),(47,.any)]⟩ ⟨[(2,.any),(3,.any)],[]⟩ (λq1=>([(1,.pt 1 [] 0 0),(5,.pt 47 [] 0 0),(49,.im 4 v1.1),(50,I_ v1.2.1),(51,I_ q1.1)],[(1,.lit 4 [[.im 1 v1.2.2.1,.im 2 v1.p3,.im 3 v1.q4,.im 4 v1.1]]),(47,.lit 7 [[.im 1 q1.2.1,.im 2 q1.2.2.1,.im 3 q1.p3,.im 4 q1.p4,.ow false 5 q1.p5,.ow true 7 q1.p6,.ow false 6 q1.q7]])])) (λp=>([(1,.pt 1 [] 0 0),(5,.pt 47 [] 0 0),(49,.im 4 v1.1),(50,I_ v1.2.1),(51,I_ p.1),(52,B_ false)],[(1,.lit 4 [[.im 1 v1.2.2.1,.im 2 v1.p3,.im 3 v1.q4,.im 4 v1.1]]),(47,.lit 7 [[.im 1 p.2.1,.im 2 p.2.2.1,.im 3 p.p3,.im 4 p.p4,.ow false 5 p.p5,.ow true 7 p.p6,.ow false 6 p.q7]])])) (λp=>([(2,I_ (160:Int)),(3,I_ p)],[])) n (zza n x v1)
def y7o (n:Nat)(x:Xe):Pt P_ Ty_ [] (Yaa):=.call (k28 n) x.f_ λ(y1:Int)=>.ite (y1 != (0:Int)) (.leaf (y1,(-1:Int))) (.join (S:=Bool) (zz7 x) (.ite (decide ((x.a_.length:Int) > (16384:Int))) (.leaf (.inl true)) (.leaf (.inl (decide ((x.d_.length:Int) > (32768:Int)))))) λs1=>.ite s1 (.leaf ((181:Int),(-1:Int))) (.ite (decide ((x.e_.length:Int) > (4096:Int))) (.leaf ((180:Int),(-1:Int))) (.join (S:=Yak) (zz8 x) (.call (k29 n) (x.a_,x.f_,x.a_,x.e_,x.d_) λ(y2:Yak)=>.ite y2.1 (.leaf (.inl (true,y2.2.1,y2.2.2.1,y2.p3,y2.q4))) (.call (k32 n) (y2.p3,y2.2.1,y2.2.2.1,y2.p3,y2.q4) λ(y3:Yak)=>.leaf (.inl (y3.1,y3.2.1,y3.2.2.1,y3.p3,y3.q4)))) λs2=>.ite s2.1 (.leaf ((160:Int),(-1:Int))) (.need (0<=(s2.2.2.1.length:Int)/\(s2.2.2.1.length:Int) * (1:Int)<=140737488355328) (.loopR (V:=Ybh) (zz6 n x) (s2.q4,(s2.q4.length:Int),s2.2.1,s2.2.2.1,s2.p3) ((0:Int),s2.2.1,s2.2.2.1,s2.p3,s2.q4,(replicate (s2.2.2.1.length:Int).toNat false),([]:List (List Int)),([]:List Int)) (λ(v1:Ybh) (y8:Yay)=>.ite (decide ((y8.q7.length:Int) > (0:Int))) (.leaf ((160:Int),(v1.1.length:Int))) (.leaf ((0:Int),(0:Int)))) λ(v1:Ybh) (z1:Int)=>.leaf ((160:Int),z1))))))
def k16 (n:Nat):Con P_ Ty_:=zj (X:=Xe) (R:=Yaa) (pro:=[]) (y7m n) 17 y7n (λx=>.two .no (.two (.two .no (.two (.two .no (.two .no (.join Bool (zz7 x) ⟨[(1,.ref 1),(15,.any)],[(1,.any)]⟩ .no .no))) .no)) (.two (.join (Yak) (zz8 x) ⟨[(1,.ref 1),(40,.any)],[(1,.any)]⟩ .no .no) (.two .no (.two (.two .no (.two (.loop (Ybh) (zz6 n x) true ⟨[(1,.ref 1),(5,.ref 47),(49,.im 4),(50,.any),(51,.any)],[(1,.any),(47,.fix [.no,.no,.no,.no,.no,.ow true 7,.ow false 6])]⟩) .no)) .no))))) [.ag [.im 1,.im 2,.im 3,.im 4]] [] [] ⟨[(2,.any),(3,.any)],[]⟩ [] true (λx=>[.ag [.im 1 x.f_,.im 2 x.a_,.im 3 x.e_,.im 4 x.d_]]) (λx=>[]) (λy=>([(2,I_ y.1),(3,I_ y.2)],[])) (λy=>.tu [I_ y.1,I_ y.2]) (λy=>[]) (y7o n)
def yc3:Code:=(Go.Proofs.Tryz.f18.body).getD .skip
def yk5:IC:=match z4t Go.Proofs.Tryz.prog 8 (lf (rt (rt yc3))) [[2]] with | some (c,_)=>c | none=>.skip
abbrev yc7:Cx Go.Proofs.Tryz.prog Ty_:=⟨[],[(5,false,1)],[],[]⟩
def y5u (_:Nat)(a0:List Xa):Option (List Xa):=need (a0.length * 32<=140737488355328) (some a0)
theorem ztj (n:Nat)(a0:List Xa)(r:List Xa)(hg:y5u n a0=some r):z1q Go.Proofs.Tryz.prog 18 [.im 3 (a0.map (c1 false))] [] (.sl 100000 [] 0 (r.map (c1 false)).length) [(100000,⟨3,r.map (c1 false)⟩)]:=by
 obtain ⟨hl,hr⟩:=z97 hg;obtain rfl:=Option.some.inj hr;rw [length_map];have e:evC (L:=EH Ty_) yc7 yk5 .no [(0,.im 1 a0)] [] zcp=Raw.need ((([]:List Xa).length+a0.length) * 32<=140737488355328) (.leaf ([(2,.sw 100000 [])],[(100000,.typ false 1 (([]:List Xa)++a0))])):=by kernel_rfl
 exact zdp (T:=Ty_) (ty:=1) (fn:=Go.Proofs.Tryz.f18) (b:=yc3) (t:=22) (el:=53) (c3:=.seq yk5 .ret) (by kernel_rfl) (by kernel_rfl) (by kernel_rfl) (by kernel_rfl) (by kernel_rfl) ⟨[[0]],[],by kernel_rfl⟩ (by kernel_rfl) (by kernel_rfl) (by kernel_rfl) ⟨[[2]],[],by kernel_rfl⟩ ⟨[[2]],[],by kernel_rfl⟩ (by kernel_rfl) (by kernel_rfl) a0
  (zgi (cx:=yc7) (by rw [e];exact ⟨by simpa using hl,rfl⟩))
def yjd (n:Nat):Con Go.Proofs.Tryz.prog Ty_ where
 f:=18
 X:=(List Xa)
 Y:=(List Xa)
 A:=[.im 1]
 H:=[]
 N:=[100000]
 encA:=λx=>[.im 1 x]
 encH:=λ_=>[]
 G:=λx=>y5u n x
 encR:=λ_=>.sw 100000 []
 encO:=λy=>[(100000,.typ false 1 y)]
 strong:=true
 ok:=λx y h=>⟨λ_=>ztj n x y h,z1q.toG (ztj n x y h)⟩
def yc4:Code:=(Go.Proofs.Tryz.f19.body).getD .skip
def yk6:IC:=match z4t Go.Proofs.Tryz.prog 8 (lf (rt (rt yc4))) [[2]] with | some (c,_)=>c | none=>.skip
abbrev yc8:Cx Go.Proofs.Tryz.prog Ty_:=⟨[],[(5,false,2)],[],[]⟩
def y5v (_:Nat)(a0:List Xb):Option (List Xb):=need (a0.length * 16<=140737488355328) (some a0)
theorem ztk (n:Nat)(a0:List Xb)(r:List Xb)(hg:y5v n a0=some r):z1q Go.Proofs.Tryz.prog 19 [.im 2 (a0.map (c2 false))] [] (.sl 100000 [] 0 (r.map (c2 false)).length) [(100000,⟨2,r.map (c2 false)⟩)]:=by
 obtain ⟨hl,hr⟩:=z97 hg;obtain rfl:=Option.some.inj hr;rw [length_map];have e:evC (L:=EH Ty_) yc8 yk6 .no [(0,.im 2 a0)] [] zcp=Raw.need ((([]:List Xb).length+a0.length) * 16<=140737488355328) (.leaf ([(2,.sw 100000 [])],[(100000,.typ false 2 (([]:List Xb)++a0))])):=by kernel_rfl
 exact zdp (T:=Ty_) (ty:=2) (fn:=Go.Proofs.Tryz.f19) (b:=yc4) (t:=23) (el:=46) (c3:=.seq yk6 .ret) (by kernel_rfl) (by kernel_rfl) (by kernel_rfl) (by kernel_rfl) (by kernel_rfl) ⟨[[0]],[],by kernel_rfl⟩ (by kernel_rfl) (by kernel_rfl) (by kernel_rfl) ⟨[[2]],[],by kernel_rfl⟩ ⟨[[2]],[],by kernel_rfl⟩ (by kernel_rfl) (by kernel_rfl) a0
  (zgi (cx:=yc8) (by rw [e];exact ⟨by simpa using hl,rfl⟩))
def yje (n:Nat):Con Go.Proofs.Tryz.prog Ty_ where
 f:=19
 X:=(List Xb)
 Y:=(List Xb)
 A:=[.im 2]
 H:=[]
 N:=[100000]
 encA:=λx=>[.im 2 x]
 encH:=λ_=>[]
 G:=λx=>y5v n x
 encR:=λ_=>.sw 100000 []
 encO:=λy=>[(100000,.typ false 2 y)]
 strong:=true
 ok:=λx y h=>⟨λ_=>ztk n x y h,z1q.toG (ztk n x y h)⟩
def yc5:Code:=(Go.Proofs.Tryz.f20.body).getD .skip
def yk7:IC:=match z4t Go.Proofs.Tryz.prog 8 (lf (rt (rt yc5))) [[2]] with | some (c,_)=>c | none=>.skip
abbrev yc9:Cx Go.Proofs.Tryz.prog Ty_:=⟨[],[(5,false,3)],[],[]⟩
def y5w (_:Nat)(a0:List Xc):Option (List Xc):=need (a0.length * 32<=140737488355328) (some a0)
theorem ztl (n:Nat)(a0:List Xc)(r:List Xc)(hg:y5w n a0=some r):z1q Go.Proofs.Tryz.prog 20 [.im 5 (a0.map (c3 false))] [] (.sl 100000 [] 0 (r.map (c3 false)).length) [(100000,⟨5,r.map (c3 false)⟩)]:=by
 obtain ⟨hl,hr⟩:=z97 hg;obtain rfl:=Option.some.inj hr;rw [length_map];have e:evC (L:=EH Ty_) yc9 yk7 .no [(0,.im 3 a0)] [] zcp=Raw.need ((([]:List Xc).length+a0.length) * 32<=140737488355328) (.leaf ([(2,.sw 100000 [])],[(100000,.typ false 3 (([]:List Xc)++a0))])):=by kernel_rfl
 exact zdp (T:=Ty_) (ty:=3) (fn:=Go.Proofs.Tryz.f20) (b:=yc5) (t:=24) (el:=48) (c3:=.seq yk7 .ret) (by kernel_rfl) (by kernel_rfl) (by kernel_rfl) (by kernel_rfl) (by kernel_rfl) ⟨[[0]],[],by kernel_rfl⟩ (by kernel_rfl) (by kernel_rfl) (by kernel_rfl) ⟨[[2]],[],by kernel_rfl⟩ ⟨[[2]],[],by kernel_rfl⟩ (by kernel_rfl) (by kernel_rfl) a0
  (zgi (cx:=yc9) (by rw [e];exact ⟨by simpa using hl,rfl⟩))
def yjf (n:Nat):Con Go.Proofs.Tryz.prog Ty_ where
 f:=20
 X:=(List Xc)
 Y:=(List Xc)
 A:=[.im 3]
 H:=[]
 N:=[100000]
 encA:=λx=>[.im 3 x]
 encH:=λ_=>[]
 G:=λx=>y5w n x
 encR:=λ_=>.sw 100000 []
 encO:=λy=>[(100000,.typ false 3 y)]
 strong:=true
 ok:=λx y h=>⟨λ_=>ztl n x y h,z1q.toG (ztl n x y h)⟩
def zzu (n:Nat):Cx P_ Ty_:=⟨[k11 n],[(9,false,5)],[],[]⟩
abbrev zzv:List (List Nat):=[[1],[1,3],[3,11,12,13],[3,11,12,13,14],[3,5,11,12,13],[3,5,11,12,13,19],[3,5,11,12,13,24],[2],[3,11,12,13],[3,11,12,13],[2]]
def ztv (n:Nat)(x:Xe)(v1:Unit)(q1:Yac):Pt P_ Ty_ [] (Bo (Yac) (Yac) Unit):=.ite (decide (q1.1<(x.d_.length:Int))) (.bnd (idx x.d_ q1.1) λy1=>.call (k11 n) y1 λ(y2:Bool)=>.ite (!y2) (.leaf (.go ((i64.wrap (q1.1+(1:Int))),q1.2))) (.need (0<=y1.D_/\y1.D_<(q1.2.length:Int)) (.bnd (q1.2[y1.D_.toNat]?) λy3=>.ite y3 (.leaf (.ret ())) (.need (0<=y1.D_/\y1.D_<(q1.2.length:Int)) (.bnd (q1.2[y1.D_.toNat]?) λy4=>.leaf (.go ((i64.wrap (q1.1+(1:Int))),(q1.2.set y1.D_.toNat true)))))))) (.leaf (.out (q1.1,q1.2)))
def ztu (n:Nat)(x:Xe)(v1:Unit):z15 P_ Ty_ []:=z1d (X:=Yac) (Y:=Yac) (Z:=Unit) (zzu n) (z16 [1,1,0,1,0,0] (fnC P_ 21 zzv)) (λq1=>.no) 0 true ⟨[(3,.ref 9),(11,.im 4),(12,.any),(13,.any)],[(9,.any)]⟩ ⟨[(3,.ref 9),(11,.im 4),(12,.any),(13,.any),(14,.any)],[(9,.any)]⟩ ⟨[(2,.any)],[]⟩ (λq1=>([(3,.sw 9 []),(11,.im 4 x.d_),(12,I_ (x.d_.length:Int)),(13,I_ q1.1)],[(9,.typ false 5 q1.2)])) (λp=>([(3,.sw 9 []),(11,.im 4 x.d_),(12,I_ (x.d_.length:Int)),(13,I_ p.1),(14,B_ false)],[(9,.typ false 5 p.2)])) (λp=>([(2,B_ false)],[])) n (ztv n x v1)
def zzw (n:Nat)(x:Xe):Pt P_ Ty_ [] Bool:=.need (0<=(x.a_.length:Int)/\(x.a_.length:Int) * (1:Nat)<=140737488355328) (.loopR (V:=Unit) (ztu n x) () ((0:Int),(replicate (x.a_.length:Int).toNat false)) (λ(v1:Unit) (y5:Yac)=>.leaf true) λ(v1:Unit) (z1:Unit)=>.leaf false)
def yjh (n:Nat):Con P_ Ty_:=zj (X:=Xe) (R:=Bool) (pro:=[]) (zzu n) 21 zzv (λx=>.two .no (.two .no (.two (.two .no (.two (.loop Unit (ztu n x) true ⟨[(3,.ref 9),(11,.im 4),(12,.any),(13,.any)],[(9,.any)]⟩) .no)) .no))) [.ag [.im 1,.im 2,.im 3,.im 4]] [] [] ⟨[(2,.any)],[]⟩ [] true (λx=>[.ag [.im 1 x.f_,.im 2 x.a_,.im 3 x.e_,.im 4 x.d_]]) (λx=>[]) (λy=>([(2,B_ y)],[])) (λy=>B_ y) (λy=>[]) (zzw n)
def yc6:Code:=(Go.Proofs.Tryz.f22.body).getD .skip
def yk8:IC:=match z4t Go.Proofs.Tryz.prog 8 (lf (rt (rt yc6))) [[2]] with | some (c,_)=>c | none=>.skip
abbrev yca:Cx Go.Proofs.Tryz.prog Ty_:=⟨[],[(5,false,4)],[],[]⟩
def y5x (_:Nat)(a0:List Xd):Option (List Xd):=need (a0.length * 56<=140737488355328) (some a0)
theorem ztm (n:Nat)(a0:List Xd)(r:List Xd)(hg:y5x n a0=some r):z1q Go.Proofs.Tryz.prog 22 [.im 7 (a0.map (c4 false))] [] (.sl 100000 [] 0 (r.map (c4 false)).length) [(100000,⟨7,r.map (c4 false)⟩)]:=by
 obtain ⟨hl,hr⟩:=z97 hg;obtain rfl:=Option.some.inj hr;rw [length_map];have e:evC (L:=EH Ty_) yca yk8 .no [(0,.im 4 a0)] [] zcp=Raw.need ((([]:List Xd).length+a0.length) * 56<=140737488355328) (.leaf ([(2,.sw 100000 [])],[(100000,.typ false 4 (([]:List Xd)++a0))])):=by kernel_rfl
 exact zdp (T:=Ty_) (ty:=4) (fn:=Go.Proofs.Tryz.f22) (b:=yc6) (t:=25) (el:=44) (c3:=.seq yk8 .ret) (by kernel_rfl) (by kernel_rfl) (by kernel_rfl) (by kernel_rfl) (by kernel_rfl) ⟨[[0]],[],by kernel_rfl⟩ (by kernel_rfl) (by kernel_rfl) (by kernel_rfl) ⟨[[2]],[],by kernel_rfl⟩ ⟨[[2]],[],by kernel_rfl⟩ (by kernel_rfl) (by kernel_rfl) a0
  (zgi (cx:=yca) (by rw [e];exact ⟨by simpa using hl,rfl⟩))
def yjg (n:Nat):Con Go.Proofs.Tryz.prog Ty_ where
 f:=22
 X:=(List Xd)
 Y:=(List Xd)
 A:=[.im 4]
 H:=[]
 N:=[100000]
 encA:=λx=>[.im 4 x]
 encH:=λ_=>[]
 G:=λx=>y5x n x
 encR:=λ_=>.sw 100000 []
 encO:=λy=>[(100000,.typ false 4 y)]
 strong:=true
 ok:=λx y h=>⟨λ_=>ztm n x y h,z1q.toG (ztm n x y h)⟩
def y06 (n:Nat):Cx P_ Ty_:=⟨[k9 n],[],[],[]⟩
abbrev y07:List (List Nat):=[[0,3,4],[0,3,4,9,10],[0,3,4,9,10,11],[0,3,4,5,9,10],[0,3,4,6,9,10],[0,3,4,9,10],[0,3,4,9,10],[4]]
def ztx (n:Nat)(x:Ybj)(v1:Int)(q1:Yat):Pt P_ Ty_ [200000] (Bo (Yat) (Yat) Empty):=.ite (decide (q1.1<v1)) (.bnd (idx [2,3,4] q1.1) λy2=>.bnd (z3l [some q1.2.1,some q1.2.2.1,some q1.p3,some q1.p4,some q1.p5,some q1.q6,none] y2) λy3=>.need (0<=y3/\y3<(x.2.1.length:Int)) (.bnd (x.2.1[y3.toNat]?) λy4=>.bnd (z3l [some q1.2.1,some q1.2.2.1,some q1.p3,some q1.p4,some q1.p5,some q1.q6,none] y2) λy5=>.leaf (.go ((i64.wrap (q1.1+(1:Int))),(bif Nat.beq y2 0 then y4 else q1.2.1),(bif Nat.beq y2 1 then y4 else q1.2.2.1),(bif Nat.beq y2 2 then y4 else q1.p3),(bif Nat.beq y2 3 then y4 else q1.p4),(bif Nat.beq y2 4 then y4 else q1.p5),(bif Nat.beq y2 5 then y4 else q1.q6))))) (.leaf (.out (q1.1,q1.2.1,q1.2.2.1,q1.p3,q1.p4,q1.p5,q1.q6)))
def ztw (n:Nat)(x:Ybj)(v1:Int):z15 P_ Ty_ [200000]:=z1d (X:=Yat) (Y:=Yat) (Z:=Empty) (y06 n) (z16 [1,0,1,0,0] (fnC P_ 23 y07)) (λq1=>.no) 0 false ⟨[(0,.ref 200000),(3,.ref 3),(4,.ref 4),(9,.any),(10,.any)],[(200000,.any),(3,.any),(4,.any)]⟩ ⟨[(0,.ref 200000),(3,.ref 3),(4,.ref 4),(9,.any),(10,.any),(11,.any)],[(200000,.any),(3,.any),(4,.any)]⟩ ⟨[],[]⟩ (λq1=>([(0,.pt 200000 [] 0 0),(3,.pt 3 [] 0 0),(4,.pt 4 [] 0 0),(9,I_ v1),(10,I_ q1.1)],[(200000,.lit 2 [[.ow true 9 x.1,.ow false 6 x.2.1]]),(3,.lit 7 [[I_ q1.2.1,I_ q1.2.2.1,I_ q1.p3,I_ q1.p4,I_ q1.p5,I_ q1.q6,.sc (.int .u32 x.2.2.m_)]]),(4,.lit 7 [[I_ (0:Int),I_ (0:Int),I_ (0:Int),I_ (0:Int),I_ (0:Int),I_ (0:Int),.sc (.int .u32 (0:Int))]])])) (λp=>([(0,.pt 200000 [] 0 0),(3,.pt 3 [] 0 0),(4,.pt 4 [] 0 0),(9,I_ v1),(10,I_ p.1),(11,B_ false)],[(200000,.lit 2 [[.ow true 9 x.1,.ow false 6 x.2.1]]),(3,.lit 7 [[I_ p.2.1,I_ p.2.2.1,I_ p.p3,I_ p.p4,I_ p.p5,I_ p.q6,.sc (.int .u32 x.2.2.m_)]]),(4,.lit 7 [[I_ (0:Int),I_ (0:Int),I_ (0:Int),I_ (0:Int),I_ (0:Int),I_ (0:Int),.sc (.int .u32 (0:Int))]])])) (λp=>nomatch p) n (ztx n x v1)
def y08 (n:Nat)(x:Ybj):Pt P_ Ty_ [200000] (Ybr):=.call (k9 n) x.2.2 λ(y1:(List Int))=>.loop (V:=Int) (ztw n x) (y1.length:Int) ((0:Int),x.2.2.c_,x.2.2.D_,x.2.2.A_,x.2.2.B_,x.2.2.C_,x.2.2.N_) λ(v1:Int) (y6:Yat)=>.leaf (x.1,x.2.1,y6.2.1,y6.2.2.1,y6.p3,y6.p4,y6.p5,y6.q6,x.2.2.m_)
def yji (n:Nat):Con P_ Ty_:=zj (X:=Ybj) (R:=Ybr) (pro:=[200000]) (y06 n) 23 y07 (λx=>.two .no (.two (.two .no (.two (.loop Int (ztw n x) false ⟨[(0,.ref 200000),(3,.ref 3),(4,.ref 4),(9,.any),(10,.any)],[(200000,.any),(3,.any),(4,.any)]⟩) .no)) .no)) [.pt 200000,.ag [.any,.any,.any,.any,.any,.any,.any]] [(200000,[.ow true 9,.ow false 6])] [] ⟨[(4,.ref 100000)],[(200000,.any),(100000,.any)]⟩ [200000] true (λx=>[.pt 200000 [] 0 0,.ag [I_ x.2.2.c_,I_ x.2.2.D_,I_ x.2.2.A_,I_ x.2.2.B_,I_ x.2.2.C_,I_ x.2.2.N_,.sc (.int .u32 x.2.2.m_)]]) (λx=>[(200000,.lit 2 [[.ow true 9 x.1,.ow false 6 x.2.1]])]) (λy=>([(4,.pt 100000 [] 0 0)],[(200000,.lit 2 [[.ow true 9 y.1,.ow false 6 y.2.1]]),(100000,.lit 7 [[I_ y.2.2.1,I_ y.p3,I_ y.p4,I_ y.p5,I_ y.p6,I_ y.p7,.sc (.int .u32 y.q8)]])])) (λy=>.ag [I_ y.2.2.1,I_ y.p3,I_ y.p4,I_ y.p5,I_ y.p6,I_ y.p7,.sc (.int .u32 y.q8)]) (λy=>[(200000,.lit 2 [[.ow true 9 y.1,.ow false 6 y.2.1]])]) (y08 n)
def y09 (n:Nat):Cx P_ Ty_:=⟨[],[],[],[]⟩
abbrev y0a:List (List Nat):=[[0,3],[3,13,14,15],[3,13,14,15,16],[3,7,13,14,15],[3,8,9,13,14,15],[3,8,13,14,15,25],[4,5],[3,13,14,15],[4,5]]
def ztz (n:Nat)(x:Ybk)(v1:Unit)(q1:Int):Pt P_ Ty_ [200000] (Bo Int Int Int):=.ite (decide (q1<(x.1.length:Int))) (.need (0<=q1/\q1<(x.1.length:Int)) (.bnd (x.1[q1.toNat]?) λy1=>.bnd (x.1[q1.toNat]?) λy2=>.ite (List.any y2 (kf8 [(.int .i64 x.2.2.i_.c_),(.int .i64 x.2.2.i_.D_),(.int .i64 x.2.2.i_.A_),(.int .i64 x.2.2.i_.B_),(.int .i64 x.2.2.i_.C_),(.int .i64 x.2.2.i_.N_),(.int .u32 x.2.2.i_.m_),(.int .i64 x.2.2.t_.j_),(.int .i64 x.2.2.t_.n_)])) (.leaf (.ret (((List.find? (kf8 [(.int .i64 x.2.2.i_.c_),(.int .i64 x.2.2.i_.D_),(.int .i64 x.2.2.i_.A_),(.int .i64 x.2.2.i_.B_),(.int .i64 x.2.2.i_.C_),(.int .i64 x.2.2.i_.N_),(.int .u32 x.2.2.i_.m_),(.int .i64 x.2.2.t_.j_),(.int .i64 x.2.2.t_.n_)]) y2).getD (⟨x.2.2,(0:Int)⟩:Xg)).v_))) (.leaf (.go (i64.wrap (q1+(1:Int))))))) (.leaf (.out q1))
def zty (n:Nat)(x:Ybk)(v1:Unit):z15 P_ Ty_ [200000]:=z1d (X:=Int) (Y:=Int) (Z:=Int) (y09 n) (z16 [1,0,1,0,0] (fnC P_ 25 y0a)) (λq1=>.no) 0 true ⟨[(3,.ref 3),(13,.ref 200000),(14,.any),(15,.any)],[(200000,.any),(3,.any)]⟩ ⟨[(3,.ref 3),(13,.ref 200000),(14,.any),(15,.any),(16,.any)],[(200000,.any),(3,.any)]⟩ ⟨[(4,.any),(5,.any)],[(200000,.any)]⟩ (λq1=>([(3,.pt 3 [] 0 0),(13,.sw 200000 [(0,0)]),(14,I_ (x.1.length:Int)),(15,I_ q1)],[(200000,.lit 2 [[.ow true 9 x.1,.ow false 6 x.2.1]]),(3,.lit 9 [[I_ x.2.2.i_.c_,I_ x.2.2.i_.D_,I_ x.2.2.i_.A_,I_ x.2.2.i_.B_,I_ x.2.2.i_.C_,I_ x.2.2.i_.N_,.sc (.int .u32 x.2.2.i_.m_),I_ x.2.2.t_.j_,I_ x.2.2.t_.n_]])])) (λp=>([(3,.pt 3 [] 0 0),(13,.sw 200000 [(0,0)]),(14,I_ (x.1.length:Int)),(15,I_ p),(16,B_ false)],[(200000,.lit 2 [[.ow true 9 x.1,.ow false 6 x.2.1]]),(3,.lit 9 [[I_ x.2.2.i_.c_,I_ x.2.2.i_.D_,I_ x.2.2.i_.A_,I_ x.2.2.i_.B_,I_ x.2.2.i_.C_,I_ x.2.2.i_.N_,.sc (.int .u32 x.2.2.i_.m_),I_ x.2.2.t_.j_,I_ x.2.2.t_.n_]])])) (λp=>([(4,I_ p),(5,B_ true)],[(200000,.lit 2 [[.ow true 9 x.1,.ow false 6 x.2.1]])])) n (ztz n x v1)
def y0b (n:Nat)(x:Ybk):Pt P_ Ty_ [200000] (Ycn):=.loopR (V:=Unit) (zty n x) () (0:Int) (λ(v1:Unit) (y3:Int)=>.leaf ((0:Int),false,x.1,x.2.1)) λ(v1:Unit) (z1:Int)=>.leaf (z1,true,x.1,x.2.1)
def yjj (n:Nat):Con P_ Ty_:=zj (X:=Ybk) (R:=Ycn) (pro:=[200000]) (y09 n) 25 y0a (λx=>.two .no (.two (.two .no (.two (.loop Unit (zty n x) true ⟨[(3,.ref 3),(13,.ref 200000),(14,.any),(15,.any)],[(200000,.any),(3,.any)]⟩) .no)) .no)) [.pt 200000,.ag [.any,.any,.any,.any,.any,.any,.any,.any,.any]] [(200000,[.ow true 9,.ow false 6])] [] ⟨[(4,.any),(5,.any)],[(200000,.any)]⟩ [200000] true (λx=>[.pt 200000 [] 0 0,.ag [I_ x.2.2.i_.c_,I_ x.2.2.i_.D_,I_ x.2.2.i_.A_,I_ x.2.2.i_.B_,I_ x.2.2.i_.C_,I_ x.2.2.i_.N_,.sc (.int .u32 x.2.2.i_.m_),I_ x.2.2.t_.j_,I_ x.2.2.t_.n_]]) (λx=>[(200000,.lit 2 [[.ow true 9 x.1,.ow false 6 x.2.1]])]) (λy=>([(4,I_ y.1),(5,B_ y.2.1)],[(200000,.lit 2 [[.ow true 9 y.2.2.1,.ow false 6 y.q3]])])) (λy=>.tu [I_ y.1,B_ y.2.1]) (λy=>[(200000,.lit 2 [[.ow true 9 y.2.2.1,.ow false 6 y.q3]])]) (y0b n)
def zp6 (n:Nat):Cx P_ Ty_:=⟨[k16 n,yjd n,yje n,yjf n,yjh n,yjg n,yji n,k11 n,yjj n],[(40,false,8),(41,true,9),(45,false,6),(83,false,8),(84,true,9),(190,false,4),(191,false,4)],[],[]⟩
abbrev zp7:List (List Nat):=[[1,2],[1,2,4],[1,2,20],[2,3],[1,2,6],[1,2,6,34],[2,6],[2,3],[1,2,6,7],[1,2,6,7,52,53],[1,2,6,7,52,53,54],[1,2,6,7,8,52,53],[1,2,6,7,52,53],[1,2,6,7,52,53],[1,2,6,7,65,66,67],[1,2,6,7,65,66,67,68],[1,2,6,7,10,65,66,67],[1,2,6,7,10,65,66,67],[1,2,6,7,10,65,66,67,74],[1,2,6,7,10,65,66,67],[1,2,6,7,10,65,66,67,88],[1,2,6,7,10,65,66,67],[1,2,6,7,10,65,66,67,106],[1,2,6,7,65,66,67],[1,2,6,7,10,65,66,67,134],[1,2,6,7,10,11,65,66,67],[1,2,6,7,10,11,65,66,67],[1,2,6,7,10,11,12,13,65,66,67],[1,2,6,7,10,11,12,65,66,67,163],[1,2,6,7,65,66,67],[1,2,6,7,10,65,66,67],[1,2,6,7,65,66,67],[1,2,6,7,65,66,67],[2,3]]
def ztp (x:Xe)(v2:Yal)(q2:Yaq)(p:Yca):EH Ty_:=([(1,.pt 1 [] 0 0),(2,.pt 2 [] 0 0),(6,.pt 6 [] 0 0),(7,.pt 47 [] 0 0),(10,.pt 10 [] 0 0),(65,.im 4 x.d_),(66,I_ (x.d_.length:Int)),(67,I_ q2.1),(106,B_ p.1)],[(1,.lit 4 [[.im 1 x.f_,.im 2 x.a_,.im 3 x.e_,.im 4 x.d_]]),(2,.lit 4 [[.zs,.zs,.zs,.zs]]),(6,.lit 4 [[.ow false 1 v2.1,.ow false 2 v2.2.1,.ow false 3 v2.2.2,.ow false 4 q2.2.1]]),(47,.lit 2 [[.ow true 9 p.2.1,.ow false 6 p.2.2.1]]),(10,.lit 7 [[I_ p.p3,I_ p.p4,I_ p.p5,I_ p.p6,I_ p.p7,I_ p.p8,.sc (.int .u32 p.q9)]])])
def ztq (x:Xe)(v2:Yal)(q2:Yaq)(p:Yca):EH Ty_:=([(1,.pt 1 [] 0 0),(2,.pt 2 [] 0 0),(6,.pt 6 [] 0 0),(7,.pt 47 [] 0 0),(10,.pt 10 [] 0 0),(65,.im 4 x.d_),(66,I_ (x.d_.length:Int)),(67,I_ q2.1),(134,B_ p.1)],[(1,.lit 4 [[.im 1 x.f_,.im 2 x.a_,.im 3 x.e_,.im 4 x.d_]]),(2,.lit 4 [[.zs,.zs,.zs,.zs]]),(6,.lit 4 [[.ow false 1 v2.1,.ow false 2 v2.2.1,.ow false 3 v2.2.2,.ow false 4 q2.2.1]]),(47,.lit 2 [[.ow true 9 p.2.1,.ow false 6 p.2.2.1]]),(10,.lit 7 [[I_ p.p3,I_ p.p4,I_ p.p5,I_ p.p6,I_ p.p7,I_ p.p8,.sc (.int .u32 p.q9)]])])
def ztr (x:Xe)(v2:Yal)(q2:Yaq)(p:Ybr):EH Ty_:=([(1,.pt 1 [] 0 0),(2,.pt 2 [] 0 0),(6,.pt 6 [] 0 0),(7,.pt 47 [] 0 0),(10,.pt 10 [] 0 0),(65,.im 4 x.d_),(66,I_ (x.d_.length:Int)),(67,I_ q2.1)],[(1,.lit 4 [[.im 1 x.f_,.im 2 x.a_,.im 3 x.e_,.im 4 x.d_]]),(2,.lit 4 [[.zs,.zs,.zs,.zs]]),(6,.lit 4 [[.ow false 1 v2.1,.ow false 2 v2.2.1,.ow false 3 v2.2.2,.ow false 4 q2.2.1]]),(47,.lit 2 [[.ow true 9 p.1,.ow false 6 p.2.1]]),(10,.lit 7 [[I_ p.2.2.1,I_ p.p3,I_ p.p4,I_ p.p5,I_ p.p6,I_ p.p7,.sc (.int .u32 p.q8)]])])
def zts (n:Nat)(x:Xe)(v1:Yal)(q1:Yab):Pt P_ Ty_ [] (Bo (Yab) (Yab) Empty):=.ite (decide (q1.1<((replicate (x.a_.length:Int).toNat (0:Int)).length:Int))) (.need (0<=q1.1/\q1.1<(q1.2.length:Int)) (.bnd (q1.2[q1.1.toNat]?) λy7=>.leaf (.go ((i64.wrap (q1.1+(1:Int))),(q1.2.set q1.1.toNat q1.1))))) (.leaf (.out (q1.1,q1.2)))
def ztn (n:Nat)(x:Xe)(v1:Yal):z15 P_ Ty_ []:=z1d (X:=Yab) (Y:=Yab) (Z:=Empty) (zp6 n) (z16 [1,1,1,1,1,0,1,0,0] (fnC P_ 8 zp7)) (λq1=>.no) 0 false ⟨[(1,.ref 1),(2,.ref 2),(6,.ref 6),(7,.ref 47),(52,.any),(53,.any)],[(1,.any),(2,.any),(6,.any),(47,.any)]⟩ ⟨[(1,.ref 1),(2,.ref 2),(6,.ref 6),(7,.ref 47),(52,.any),(53,.any),(54,.any)],[(1,.any),(2,.any),(6,.any),(47,.any)]⟩ ⟨[],[]⟩ (λq1=>([(1,.pt 1 [] 0 0),(2,.pt 2 [] 0 0),(6,.pt 6 [] 0 0),(7,.pt 47 [] 0 0),(52,I_ ((replicate (x.a_.length:Int).toNat (0:Int)).length:Int)),(53,I_ q1.1)],[(1,.lit 4 [[.im 1 x.f_,.im 2 x.a_,.im 3 x.e_,.im 4 x.d_]]),(2,.lit 4 [[.zs,.zs,.zs,.zs]]),(6,.lit 4 [[.ow false 1 v1.1,.ow false 2 v1.2.1,.ow false 3 v1.2.2,.zs]]),(47,.lit 2 [[.ow true 9 ([([]:List Xg)]:List (List Xg)),.ow false 6 q1.2]])])) (λp=>([(1,.pt 1 [] 0 0),(2,.pt 2 [] 0 0),(6,.pt 6 [] 0 0),(7,.pt 47 [] 0 0),(52,I_ ((replicate (x.a_.length:Int).toNat (0:Int)).length:Int)),(53,I_ p.1),(54,B_ false)],[(1,.lit 4 [[.im 1 x.f_,.im 2 x.a_,.im 3 x.e_,.im 4 x.d_]]),(2,.lit 4 [[.zs,.zs,.zs,.zs]]),(6,.lit 4 [[.ow false 1 v1.1,.ow false 2 v1.2.1,.ow false 3 v1.2.2,.zs]]),(47,.lit 2 [[.ow true 9 ([([]:List Xg)]:List (List Xg)),.ow false 6 p.2]])])) (λp=>nomatch p) n (zts n x v1)
def ztt (n:Nat)(x:Xe)(v2:Yal)(q2:Yaq):Pt P_ Ty_ [] (Bo (Yaq) (Yaq) Empty):=.ite (decide (q2.1<(x.d_.length:Int))) (.bnd (idx x.d_ q2.1) λy9=>.call (yji n) (q2.2.2.1,q2.q3,y9) λ(y10:Ybr)=>.join (S:=Ybr) (ztr x v2 q2) (.ite (y10.2.2.1==34) (.need ((y10.1.length+([([]:List Xg)]:List (List Xg)).length) * 8<=140737488355328) (.leaf (.inl ((y10.1++([([]:List Xg)]:List (List Xg))),y10.2.1,y10.2.2.1,y10.p3,y10.p4,y10.p5,y10.p6,y10.p7,y10.q8)))) (.ite (y10.2.2.1==35) (.need (0<=(i64.wrap ((y10.1.length:Int) - (1:Int)))/\(i64.wrap ((y10.1.length:Int) - (1:Int)))<=(y10.1.length:Int)) (.need ((i64.wrap ((y10.1.length:Int) - (1:Int))).toNat<=y10.1.length) (.leaf (.inl ((y10.1.take ((i64.wrap ((y10.1.length:Int) - (1:Int))).toNat)),y10.2.1,y10.2.2.1,y10.p3,y10.p4,y10.p5,y10.p6,y10.p7,y10.q8))))) (.join (S:=Yca) (ztp x v2 q2) (.ite (y10.2.2.1==3) (.bnd (idx x.a_ y10.p4) λy11=>.bnd (idx x.a_ y10.p3) λy12=>.leaf (.inl ((y11.j_==y12.j_&&(y11.n_==y12.n_&&true)),y10.1,y10.2.1,y10.2.2.1,y10.p3,y10.p4,y10.p5,y10.p6,y10.p7,y10.q8))) (.leaf (.inl (false,y10.1,y10.2.1,y10.2.2.1,y10.p3,y10.p4,y10.p5,y10.p6,y10.p7,y10.q8)))) λs1=>.ite s1.1 (.need (0<=s1.p4/\s1.p4<(s1.2.2.1.length:Int)) (.bnd (s1.2.2.1[s1.p4.toNat]?) λy13=>.leaf (.inr (.go ((i64.wrap (q2.1+(1:Int))),q2.2.1,s1.2.1,(s1.2.2.1.set s1.p4.toNat s1.p5)))))) (.join (S:=Yca) (ztq x v2 q2) (.call (k11 n) (⟨s1.p3,s1.p4,s1.p5,s1.p6,s1.p7,s1.p8,s1.q9⟩:Xd) λ(y14:Bool)=>.ite y14 (.ite (s1.p3 != (32:Int)) (.leaf (.inl ((s1.p3 != (3:Int)),s1.2.1,s1.2.2.1,s1.p3,s1.p4,s1.p5,s1.p6,s1.p7,s1.p8,s1.q9))) (.leaf (.inl (false,s1.2.1,s1.2.2.1,s1.p3,s1.p4,s1.p5,s1.p6,s1.p7,s1.p8,s1.q9)))) (.leaf (.inl (false,s1.2.1,s1.2.2.1,s1.p3,s1.p4,s1.p5,s1.p6,s1.p7,s1.p8,s1.q9)))) λs2=>.ite s2.1 (.bnd (idx x.a_ s2.p4) λy15=>.call (yjj n) (s2.2.1,s2.2.2.1,(⟨(⟨s2.p3,(0:Int),s2.p5,s2.p6,s2.p7,s2.p8,s2.q9⟩:Xd),y15⟩:Xf)) λ(y16:Ycn)=>.ite y16.2.1 (.need (0<=s2.p4/\s2.p4<(y16.q3.length:Int)) (.bnd (y16.q3[s2.p4.toNat]?) λy17=>.leaf (.inr (.go ((i64.wrap (q2.1+(1:Int))),q2.2.1,y16.2.2.1,(y16.q3.set s2.p4.toNat y16.1)))))) (.need (0<=(i64.wrap ((y16.2.2.1.length:Int) - (1:Int)))/\(i64.wrap ((y16.2.2.1.length:Int) - (1:Int)))<(y16.2.2.1.length:Int)) (.bnd (y16.2.2.1[(i64.wrap ((y16.2.2.1.length:Int) - (1:Int))).toNat]?) λy18=>.bnd (y16.2.2.1[(i64.wrap ((y16.2.2.1.length:Int) - (1:Int))).toNat]?) λy19=>.leaf (.inl ((y16.2.2.1.set ((i64.wrap ((y16.2.2.1.length:Int) - (1:Int))).toNat) (zch (kf8 [(.int .i64 s2.p3),(.int .i64 (0:Int)),(.int .i64 s2.p5),(.int .i64 s2.p6),(.int .i64 s2.p7),(.int .i64 s2.p8),(.int .u32 s2.q9),(.int .i64 y15.j_),(.int .i64 y15.n_)]) (⟨(⟨(⟨s2.p3,(0:Int),s2.p5,s2.p6,s2.p7,s2.p8,s2.q9⟩:Xd),y15⟩:Xf),s2.p4⟩:Xg) y19)),y16.q3,s2.p3,s2.p4,s2.p5,s2.p6,s2.p7,s2.p8,s2.q9))))) (.leaf (.inl (s2.2.1,s2.2.2.1,s2.p3,s2.p4,s2.p5,s2.p6,s2.p7,s2.p8,s2.q9))))))) λs3=>.need ((q2.2.1.length+([(⟨s3.2.2.1,s3.p3,s3.p4,s3.p5,s3.p6,s3.p7,s3.q8⟩:Xd)]:List Xd).length) * 56<=140737488355328) (.leaf (.go ((i64.wrap (q2.1+(1:Int))),(q2.2.1++([(⟨s3.2.2.1,s3.p3,s3.p4,s3.p5,s3.p6,s3.p7,s3.q8⟩:Xd)]:List Xd)),s3.1,s3.2.1)))) (.leaf (.out (q2.1,q2.2.1,q2.2.2.1,q2.q3)))
def zto (n:Nat)(x:Xe)(v2:Yal):z15 P_ Ty_ []:=z1d (X:=Yaq) (Y:=Yaq) (Z:=Empty) (zp6 n) (z16 [1,1,1,1,1,1,0,1,0,0] (fnC P_ 8 zp7)) (λq2=>.two .no (.two .no (.two (.two (.two .no (.two .no (.join (Ybr) (ztr x v2 q2) ⟨[(1,.ref 1),(2,.ref 2),(6,.ref 6),(7,.ref 47),(10,.ref 10),(65,.im 4),(66,.any),(67,.any)],[(1,.any),(2,.any),(6,.any),(47,.any),(10,.any)]⟩ (.two (.two .no (.two .no (.two .no (.two .no (.join (Yca) (ztp x v2 q2) ⟨[(1,.ref 1),(2,.ref 2),(6,.ref 6),(7,.ref 47),(10,.ref 10),(65,.im 4),(66,.any),(67,.any),(106,.any)],[(1,.any),(2,.any),(6,.any),(47,.any),(10,.any)]⟩ .no (.two .no (.join (Yca) (ztq x v2 q2) ⟨[(1,.ref 1),(2,.ref 2),(6,.ref 6),(7,.ref 47),(10,.ref 10),(65,.im 4),(66,.any),(67,.any),(134,.any)],[(1,.any),(2,.any),(6,.any),(47,.any),(10,.any)]⟩ .no .no))))))) .no) .no))) .no) .no))) 2 false ⟨[(1,.ref 1),(2,.ref 2),(6,.ref 6),(7,.ref 47),(65,.im 4),(66,.any),(67,.any)],[(1,.any),(2,.any),(6,.fix [.no,.no,.no,.ow false 4]),(47,.any)]⟩ ⟨[(1,.ref 1),(2,.ref 2),(6,.ref 6),(7,.ref 47),(65,.im 4),(66,.any),(67,.any),(68,.any)],[(1,.any),(2,.any),(6,.any),(47,.any)]⟩ ⟨[],[]⟩ (λq2=>([(1,.pt 1 [] 0 0),(2,.pt 2 [] 0 0),(6,.pt 6 [] 0 0),(7,.pt 47 [] 0 0),(65,.im 4 x.d_),(66,I_ (x.d_.length:Int)),(67,I_ q2.1)],[(1,.lit 4 [[.im 1 x.f_,.im 2 x.a_,.im 3 x.e_,.im 4 x.d_]]),(2,.lit 4 [[.zs,.zs,.zs,.zs]]),(6,.lit 4 [[.ow false 1 v2.1,.ow false 2 v2.2.1,.ow false 3 v2.2.2,.ow false 4 q2.2.1]]),(47,.lit 2 [[.ow true 9 q2.2.2.1,.ow false 6 q2.q3]])])) (λp=>([(1,.pt 1 [] 0 0),(2,.pt 2 [] 0 0),(6,.pt 6 [] 0 0),(7,.pt 47 [] 0 0),(65,.im 4 x.d_),(66,I_ (x.d_.length:Int)),(67,I_ p.1),(68,B_ false)],[(1,.lit 4 [[.im 1 x.f_,.im 2 x.a_,.im 3 x.e_,.im 4 x.d_]]),(2,.lit 4 [[.zs,.zs,.zs,.zs]]),(6,.lit 4 [[.ow false 1 v2.1,.ow false 2 v2.2.1,.ow false 3 v2.2.2,.ow false 4 p.2.1]]),(47,.lit 2 [[.ow true 9 p.2.2.1,.ow false 6 p.q3]])])) (λp=>nomatch p) n (ztt n x v2)
def zzt (n:Nat)(x:Xe):Pt P_ Ty_ [] (Yad):=.call (k16 n) x λ(y1:Yaa)=>.ite (y1.1 != (0:Int)) (.leaf ((160:Int),([]:List Xa),([]:List Xb),([]:List Xc),([]:List Xd))) (.call (yjd n) x.f_ λ(y2:(List Xa))=>.call (yje n) x.a_ λ(y3:(List Xb))=>.call (yjf n) x.e_ λ(y4:(List Xc))=>.call (yjh n) x λ(y5:Bool)=>.ite (!y5) (.call (yjg n) x.d_ λ(y6:(List Xd))=>.leaf ((0:Int),y2,y3,y4,y6)) (.need (0<=(x.a_.length:Int)/\(x.a_.length:Int) * (8:Nat)<=140737488355328) (.loop (V:=Yal) (ztn n x) (y2,y3,y4) ((0:Int),(replicate (x.a_.length:Int).toNat (0:Int))) λ(v1:Yal) (y8:Yab)=>.loop (V:=Yal) (zto n x) (v1.1,v1.2.1,v1.2.2) ((0:Int),([]:List Xd),([([]:List Xg)]:List (List Xg)),y8.2) λ(v2:Yal) (y20:Yaq)=>.leaf ((0:Int),v2.1,v2.2.1,v2.2.2,y20.2.1))))
def zfs (n:Nat):Con P_ Ty_:=zj (X:=Xe) (R:=Yad) (pro:=[]) (zp6 n) 8 zp7 (λx=>.two .no (.two .no (.two .no (.two .no (.two .no (.two (.two .no (.two (.loop (Yal) (ztn n x) false ⟨[(1,.ref 1),(2,.ref 2),(6,.ref 6),(7,.ref 47),(52,.any),(53,.any)],[(1,.any),(2,.any),(6,.any),(47,.any)]⟩) .no)) (.two (.two .no (.two (.loop (Yal) (zto n x) false ⟨[(1,.ref 1),(2,.ref 2),(6,.ref 6),(7,.ref 47),(65,.im 4),(66,.any),(67,.any)],[(1,.any),(2,.any),(6,.fix [.no,.no,.no,.ow false 4]),(47,.any)]⟩) .no)) .no))))))) [.ag [.im 1,.im 2,.im 3,.im 4]] [] [100000] ⟨[(2,.ref 100000),(3,.any)],[(100000,.fix [.ow false 1,.ow false 2,.ow false 3,.ow false 4])]⟩ [100000] true (λx=>[.ag [.im 1 x.f_,.im 2 x.a_,.im 3 x.e_,.im 4 x.d_]]) (λx=>[]) (λy=>([(2,.pt 100000 [] 0 0),(3,I_ y.1)],[(100000,.lit 4 [[.ow false 1 y.2.1,.ow false 2 y.2.2.1,.ow false 3 y.p3,.ow false 4 y.q4]])])) (λy=>.tu [.ag [.sw 100000 [(0,0)],.sw 100000 [(0,1)],.sw 100000 [(0,2)],.sw 100000 [(0,3)]],I_ y.1]) (λy=>[(100000,.lit 4 [[.ow false 1 y.2.1,.ow false 2 y.2.2.1,.ow false 3 y.p3,.ow false 4 y.q4]])]) (zzt n)
def zjg (n:Nat):Cx P_ Ty_:=⟨[],[],[],[]⟩
abbrev zjh:List (List Nat):=[[2,3],[2,3,42],[4],[2,3,5],[2,3,5,47],[2,3,5,60],[4],[2,3,5],[2,3,6],[2,3,6,65],[2,3,6,78],[4],[2,3,6],[2,3,7],[2,3,7,83],[2,3,7,96],[4],[2,3,7],[2,3,8],[2,3,8,101],[2,3,8,114],[4],[2,3,8],[4]]
def y01 (x:Yaj)(p:Bool):EH Ty_:=([(2,.pt 2 [] 0 0),(3,.pt 3 [] 0 0),(42,B_ p)],[(2,.lit 4 [[.im 1 x.1.f_,.im 2 x.1.a_,.im 3 x.1.e_,.im 4 x.1.d_]]),(3,.lit 4 [[.im 1 x.2.f_,.im 2 x.2.a_,.im 3 x.2.e_,.im 4 x.2.d_]])])
def y02 (n:Nat)(x:Yaj)(v1:Unit)(q1:Int):Pt P_ Ty_ [] (Bo Int Int Unit):=.ite (decide (q1<(x.1.f_.length:Int))) (.bnd (idx x.1.f_ q1) λy1=>.bnd (idx x.2.f_ q1) λy2=>.ite (!(y1.q_==y2.q_&&(y1.j_==y2.j_&&(y1.r_==y2.r_&&true)))) (.leaf (.ret ())) (.leaf (.go (i64.wrap (q1+(1:Int)))))) (.leaf (.out q1))
def zzx (n:Nat)(x:Yaj)(v1:Unit):z15 P_ Ty_ []:=z1d (X:=Int) (Y:=Int) (Z:=Unit) (zjg n) (z16 [1,1,0,1,0,0] (fnC P_ 9 zjh)) (λq1=>.no) 0 true ⟨[(2,.ref 2),(3,.ref 3),(5,.any)],[(2,.any),(3,.any)]⟩ ⟨[(2,.ref 2),(3,.ref 3),(5,.any),(47,.any)],[(2,.any),(3,.any)]⟩ ⟨[(4,.any)],[]⟩ (λq1=>([(2,.pt 2 [] 0 0),(3,.pt 3 [] 0 0),(5,I_ q1)],[(2,.lit 4 [[.im 1 x.1.f_,.im 2 x.1.a_,.im 3 x.1.e_,.im 4 x.1.d_]]),(3,.lit 4 [[.im 1 x.2.f_,.im 2 x.2.a_,.im 3 x.2.e_,.im 4 x.2.d_]])])) (λp=>([(2,.pt 2 [] 0 0),(3,.pt 3 [] 0 0),(5,I_ p),(47,B_ false)],[(2,.lit 4 [[.im 1 x.1.f_,.im 2 x.1.a_,.im 3 x.1.e_,.im 4 x.1.d_]]),(3,.lit 4 [[.im 1 x.2.f_,.im 2 x.2.a_,.im 3 x.2.e_,.im 4 x.2.d_]])])) (λp=>([(4,B_ false)],[])) n (y02 n x v1)
def y03 (n:Nat)(x:Yaj)(v2:Unit)(q2:Int):Pt P_ Ty_ [] (Bo Int Int Unit):=.ite (decide (q2<(x.1.a_.length:Int))) (.bnd (idx x.1.a_ q2) λy4=>.bnd (idx x.2.a_ q2) λy5=>.ite (!(y4.j_==y5.j_&&(y4.n_==y5.n_&&true))) (.leaf (.ret ())) (.leaf (.go (i64.wrap (q2+(1:Int)))))) (.leaf (.out q2))
def zzy (n:Nat)(x:Yaj)(v2:Unit):z15 P_ Ty_ []:=z1d (X:=Int) (Y:=Int) (Z:=Unit) (zjg n) (z16 [1,1,1,0,1,0,0] (fnC P_ 9 zjh)) (λq2=>.no) 2 true ⟨[(2,.ref 2),(3,.ref 3),(6,.any)],[(2,.any),(3,.any)]⟩ ⟨[(2,.ref 2),(3,.ref 3),(6,.any),(65,.any)],[(2,.any),(3,.any)]⟩ ⟨[(4,.any)],[]⟩ (λq2=>([(2,.pt 2 [] 0 0),(3,.pt 3 [] 0 0),(6,I_ q2)],[(2,.lit 4 [[.im 1 x.1.f_,.im 2 x.1.a_,.im 3 x.1.e_,.im 4 x.1.d_]]),(3,.lit 4 [[.im 1 x.2.f_,.im 2 x.2.a_,.im 3 x.2.e_,.im 4 x.2.d_]])])) (λp=>([(2,.pt 2 [] 0 0),(3,.pt 3 [] 0 0),(6,I_ p),(65,B_ false)],[(2,.lit 4 [[.im 1 x.1.f_,.im 2 x.1.a_,.im 3 x.1.e_,.im 4 x.1.d_]]),(3,.lit 4 [[.im 1 x.2.f_,.im 2 x.2.a_,.im 3 x.2.e_,.im 4 x.2.d_]])])) (λp=>([(4,B_ false)],[])) n (y03 n x v2)
def y04 (n:Nat)(x:Yaj)(v3:Unit)(q3:Int):Pt P_ Ty_ [] (Bo Int Int Unit):=.ite (decide (q3<(x.1.e_.length:Int))) (.bnd (idx x.1.e_ q3) λy7=>.bnd (idx x.2.e_ q3) λy8=>.ite (!(y7.s_.j_==y8.s_.j_&&(y7.s_.n_==y8.s_.n_&&(y7.O_==y8.O_&&(y7.m_==y8.m_&&(y7.u_==y8.u_&&true)))))) (.leaf (.ret ())) (.leaf (.go (i64.wrap (q3+(1:Int)))))) (.leaf (.out q3))
def zzz (n:Nat)(x:Yaj)(v3:Unit):z15 P_ Ty_ []:=z1d (X:=Int) (Y:=Int) (Z:=Unit) (zjg n) (z16 [1,1,1,1,0,1,0,0] (fnC P_ 9 zjh)) (λq3=>.no) 4 true ⟨[(2,.ref 2),(3,.ref 3),(7,.any)],[(2,.any),(3,.any)]⟩ ⟨[(2,.ref 2),(3,.ref 3),(7,.any),(83,.any)],[(2,.any),(3,.any)]⟩ ⟨[(4,.any)],[]⟩ (λq3=>([(2,.pt 2 [] 0 0),(3,.pt 3 [] 0 0),(7,I_ q3)],[(2,.lit 4 [[.im 1 x.1.f_,.im 2 x.1.a_,.im 3 x.1.e_,.im 4 x.1.d_]]),(3,.lit 4 [[.im 1 x.2.f_,.im 2 x.2.a_,.im 3 x.2.e_,.im 4 x.2.d_]])])) (λp=>([(2,.pt 2 [] 0 0),(3,.pt 3 [] 0 0),(7,I_ p),(83,B_ false)],[(2,.lit 4 [[.im 1 x.1.f_,.im 2 x.1.a_,.im 3 x.1.e_,.im 4 x.1.d_]]),(3,.lit 4 [[.im 1 x.2.f_,.im 2 x.2.a_,.im 3 x.2.e_,.im 4 x.2.d_]])])) (λp=>([(4,B_ false)],[])) n (y04 n x v3)
def y05 (n:Nat)(x:Yaj)(v4:Unit)(q4:Int):Pt P_ Ty_ [] (Bo Int Int Unit):=.ite (decide (q4<(x.1.d_.length:Int))) (.bnd (idx x.1.d_ q4) λy10=>.bnd (idx x.2.d_ q4) λy11=>.ite (!(y10.c_==y11.c_&&(y10.D_==y11.D_&&(y10.A_==y11.A_&&(y10.B_==y11.B_&&(y10.C_==y11.C_&&(y10.N_==y11.N_&&(y10.m_==y11.m_&&true)))))))) (.leaf (.ret ())) (.leaf (.go (i64.wrap (q4+(1:Int)))))) (.leaf (.out q4))
def y00 (n:Nat)(x:Yaj)(v4:Unit):z15 P_ Ty_ []:=z1d (X:=Int) (Y:=Int) (Z:=Unit) (zjg n) (z16 [1,1,1,1,1,0,1,0,0] (fnC P_ 9 zjh)) (λq4=>.no) 6 true ⟨[(2,.ref 2),(3,.ref 3),(8,.any)],[(2,.any),(3,.any)]⟩ ⟨[(2,.ref 2),(3,.ref 3),(8,.any),(101,.any)],[(2,.any),(3,.any)]⟩ ⟨[(4,.any)],[]⟩ (λq4=>([(2,.pt 2 [] 0 0),(3,.pt 3 [] 0 0),(8,I_ q4)],[(2,.lit 4 [[.im 1 x.1.f_,.im 2 x.1.a_,.im 3 x.1.e_,.im 4 x.1.d_]]),(3,.lit 4 [[.im 1 x.2.f_,.im 2 x.2.a_,.im 3 x.2.e_,.im 4 x.2.d_]])])) (λp=>([(2,.pt 2 [] 0 0),(3,.pt 3 [] 0 0),(8,I_ p),(101,B_ false)],[(2,.lit 4 [[.im 1 x.1.f_,.im 2 x.1.a_,.im 3 x.1.e_,.im 4 x.1.d_]]),(3,.lit 4 [[.im 1 x.2.f_,.im 2 x.2.a_,.im 3 x.2.e_,.im 4 x.2.d_]])])) (λp=>([(4,B_ false)],[])) n (y05 n x v4)
def y7q (n:Nat)(x:Yaj):Pt P_ Ty_ [] Bool:=.join (S:=Bool) (y01 x) (.ite ((x.1.f_.length:Int) != (x.2.f_.length:Int)) (.leaf (.inl true)) (.ite ((x.1.a_.length:Int) != (x.2.a_.length:Int)) (.leaf (.inl true)) (.ite ((x.1.e_.length:Int) != (x.2.e_.length:Int)) (.leaf (.inl true)) (.leaf (.inl ((x.1.d_.length:Int) != (x.2.d_.length:Int))))))) λs1=>.ite s1 (.leaf false) (.loopR (V:=Unit) (zzx n x) () (0:Int) (λ(v1:Unit) (y3:Int)=>.loopR (V:=Unit) (zzy n x) () (0:Int) (λ(v2:Unit) (y6:Int)=>.loopR (V:=Unit) (zzz n x) () (0:Int) (λ(v3:Unit) (y9:Int)=>.loopR (V:=Unit) (y00 n x) () (0:Int) (λ(v4:Unit) (y12:Int)=>.leaf true) λ(v4:Unit) (z4:Unit)=>.leaf false) λ(v3:Unit) (z3:Unit)=>.leaf false) λ(v2:Unit) (z2:Unit)=>.leaf false) λ(v1:Unit) (z1:Unit)=>.leaf false)
def k23 (n:Nat):Con P_ Ty_:=zj (X:=Yaj) (R:=Bool) (pro:=[]) (zjg n) 9 zjh (λx=>.two .no (.two (.join Bool (y01 x) ⟨[(2,.ref 2),(3,.ref 3),(42,.any)],[(2,.any),(3,.any)]⟩ .no .no) (.two (.two .no (.two (.loop Unit (zzx n x) true ⟨[(2,.ref 2),(3,.ref 3),(5,.any)],[(2,.any),(3,.any)]⟩) .no)) (.two (.two .no (.two (.loop Unit (zzy n x) true ⟨[(2,.ref 2),(3,.ref 3),(6,.any)],[(2,.any),(3,.any)]⟩) .no)) (.two (.two .no (.two (.loop Unit (zzz n x) true ⟨[(2,.ref 2),(3,.ref 3),(7,.any)],[(2,.any),(3,.any)]⟩) .no)) (.two (.two .no (.two (.loop Unit (y00 n x) true ⟨[(2,.ref 2),(3,.ref 3),(8,.any)],[(2,.any),(3,.any)]⟩) .no)) .no)))))) [.ag [.im 1,.im 2,.im 3,.im 4],.ag [.im 1,.im 2,.im 3,.im 4]] [] [] ⟨[(4,.any)],[]⟩ [] true (λx=>[.ag [.im 1 x.1.f_,.im 2 x.1.a_,.im 3 x.1.e_,.im 4 x.1.d_],.ag [.im 1 x.2.f_,.im 2 x.2.a_,.im 3 x.2.e_,.im 4 x.2.d_]]) (λx=>[]) (λy=>([(4,B_ y)],[])) (λy=>B_ y) (λy=>[]) (y7q n)
def yib (n:Nat):Cx P_ Ty_:=⟨[],[(9,false,4),(11,false,1),(16,false,2)],[],[]⟩
abbrev yic:List (List Nat):=[[0],[0,1],[0,1,2],[0]]
def yid (n:Nat)(x:Unit):Pt P_ Ty_ [] Unit:=.leaf ()
def y6d (n:Nat):Con P_ Ty_:=zj (X:=Unit) (R:=Unit) (pro:=[]) (yib n) 27 yic (λx=>.no) [] [] [100000] ⟨[(0,.ref 100000)],[(100000,.any)]⟩ [100000] true (λx=>[]) (λx=>[]) (λy=>([(0,.pt 100000 [] 0 0)],[(100000,.lit 4 [[.ow false 1 ([(⟨(⟨#[119]⟩:ByteArray),(1:Int),(2:Int)⟩:Xa)]:List Xa),.ow false 2 ([(⟨(3:Int),(0:Int)⟩:Xb),(⟨(3:Int),(0:Int)⟩:Xb),(⟨(3:Int),(0:Int)⟩:Xb),(⟨(3:Int),(0:Int)⟩:Xb)]:List Xb),.zs,.ow false 4 ([(⟨(29:Int),(0:Int),(0:Int),(0:Int),(0:Int),(0:Int),(0:Int)⟩:Xd),(⟨(29:Int),(1:Int),(0:Int),(0:Int),(0:Int),(0:Int),(0:Int)⟩:Xd),(⟨(4:Int),(2:Int),(0:Int),(1:Int),(0:Int),(0:Int),(0:Int)⟩:Xd),(⟨(3:Int),(3:Int),(2:Int),(0:Int),(0:Int),(0:Int),(0:Int)⟩:Xd),(⟨(31:Int),(0:Int),(3:Int),(0:Int),(0:Int),(0:Int),(0:Int)⟩:Xd)]:List Xd)]])])) (λy=>.ag [.sw 100000 [(0,0)],.sw 100000 [(0,1)],.zs,.sw 100000 [(0,3)]]) (λy=>[(100000,.lit 4 [[.ow false 1 ([(⟨(⟨#[119]⟩:ByteArray),(1:Int),(2:Int)⟩:Xa)]:List Xa),.ow false 2 ([(⟨(3:Int),(0:Int)⟩:Xb),(⟨(3:Int),(0:Int)⟩:Xb),(⟨(3:Int),(0:Int)⟩:Xb),(⟨(3:Int),(0:Int)⟩:Xb)]:List Xb),.zs,.ow false 4 ([(⟨(29:Int),(0:Int),(0:Int),(0:Int),(0:Int),(0:Int),(0:Int)⟩:Xd),(⟨(29:Int),(1:Int),(0:Int),(0:Int),(0:Int),(0:Int),(0:Int)⟩:Xd),(⟨(4:Int),(2:Int),(0:Int),(1:Int),(0:Int),(0:Int),(0:Int)⟩:Xd),(⟨(3:Int),(3:Int),(2:Int),(0:Int),(0:Int),(0:Int),(0:Int)⟩:Xd),(⟨(31:Int),(0:Int),(3:Int),(0:Int),(0:Int),(0:Int),(0:Int)⟩:Xd)]:List Xd)]])]) (yid n)
def y96 (n:Nat):Cx P_ Ty_:=⟨[],[],[],[]⟩
abbrev y97:List (List Nat):=[[0],[0,11],[2],[0,3],[0,3,15],[0,3,4],[0,3,59],[2],[0,3],[2]]
def y2w (x:ByteArray)(p:Bool):EH Ty_:=([(0,.sc (.string x)),(11,B_ p)],[])
def y2x (x:ByteArray)(v1:Unit)(q1:Int)(p:Bool):EH Ty_:=([(0,.sc (.string x)),(3,I_ q1),(59,B_ p)],[])
def y2y (n:Nat)(x:ByteArray)(v1:Unit)(q1:Int):Pt P_ Ty_ [] (Bo Int Int Unit):=.ite (decide (q1<(x.size:Int))) (.need (0<=q1/\q1<(x.size:Int)) (.join (S:=Bool) (y2x x v1 q1) (.ite (decide ((zd x q1)>=(97:Int))) (.ite (decide ((zd x q1)<=(122:Int))) (.leaf (.inl false)) (.ite (decide ((zd x q1)>=(65:Int))) (.ite (decide ((zd x q1)<=(90:Int))) (.leaf (.inl false)) (.ite (decide ((zd x q1)>=(48:Int))) (.ite (decide ((zd x q1)<=(57:Int))) (.leaf (.inl false)) (.ite ((zd x q1)==95) (.leaf (.inl false)) (.ite ((zd x q1)==46) (.leaf (.inl false)) (.ite ((zd x q1)==47) (.leaf (.inl false)) (.leaf (.inl (!((zd x q1)==45)))))))) (.ite ((zd x q1)==95) (.leaf (.inl false)) (.ite ((zd x q1)==46) (.leaf (.inl false)) (.ite ((zd x q1)==47) (.leaf (.inl false)) (.leaf (.inl (!((zd x q1)==45))))))))) (.ite (decide ((zd x q1)>=(48:Int))) (.ite (decide ((zd x q1)<=(57:Int))) (.leaf (.inl false)) (.ite ((zd x q1)==95) (.leaf (.inl false)) (.ite ((zd x q1)==46) (.leaf (.inl false)) (.ite ((zd x q1)==47) (.leaf (.inl false)) (.leaf (.inl (!((zd x q1)==45)))))))) (.ite ((zd x q1)==95) (.leaf (.inl false)) (.ite ((zd x q1)==46) (.leaf (.inl false)) (.ite ((zd x q1)==47) (.leaf (.inl false)) (.leaf (.inl (!((zd x q1)==45)))))))))) (.ite (decide ((zd x q1)>=(65:Int))) (.ite (decide ((zd x q1)<=(90:Int))) (.leaf (.inl false)) (.ite (decide ((zd x q1)>=(48:Int))) (.ite (decide ((zd x q1)<=(57:Int))) (.leaf (.inl false)) (.ite ((zd x q1)==95) (.leaf (.inl false)) (.ite ((zd x q1)==46) (.leaf (.inl false)) (.ite ((zd x q1)==47) (.leaf (.inl false)) (.leaf (.inl (!((zd x q1)==45)))))))) (.ite ((zd x q1)==95) (.leaf (.inl false)) (.ite ((zd x q1)==46) (.leaf (.inl false)) (.ite ((zd x q1)==47) (.leaf (.inl false)) (.leaf (.inl (!((zd x q1)==45))))))))) (.ite (decide ((zd x q1)>=(48:Int))) (.ite (decide ((zd x q1)<=(57:Int))) (.leaf (.inl false)) (.ite ((zd x q1)==95) (.leaf (.inl false)) (.ite ((zd x q1)==46) (.leaf (.inl false)) (.ite ((zd x q1)==47) (.leaf (.inl false)) (.leaf (.inl (!((zd x q1)==45)))))))) (.ite ((zd x q1)==95) (.leaf (.inl false)) (.ite ((zd x q1)==46) (.leaf (.inl false)) (.ite ((zd x q1)==47) (.leaf (.inl false)) (.leaf (.inl (!((zd x q1)==45)))))))))) λs2=>.ite s2 (.leaf (.ret ())) (.leaf (.go (i64.wrap (q1+(1:Int))))))) (.leaf (.out q1))
def y2v (n:Nat)(x:ByteArray)(v1:Unit):z15 P_ Ty_ []:=z1d (X:=Int) (Y:=Int) (Z:=Unit) (y96 n) (z16 [1,1,0,1,0,0] (fnC P_ 80 y97)) (λq1=>.two .no (.two (.two (.two .no (.join Bool (y2x x v1 q1) ⟨[(0,.any),(3,.any),(59,.any)],[]⟩ .no .no)) .no) .no)) 0 true ⟨[(0,.any),(3,.any)],[]⟩ ⟨[(0,.any),(3,.any),(15,.any)],[]⟩ ⟨[(2,.any)],[]⟩ (λq1=>([(0,.sc (.string x)),(3,I_ q1)],[])) (λp=>([(0,.sc (.string x)),(3,I_ p),(15,B_ false)],[])) (λp=>([(2,B_ false)],[])) n (y2y n x v1)
def y98 (n:Nat)(x:ByteArray):Pt P_ Ty_ [] Bool:=.join (S:=Bool) (y2w x) (.ite (x==(⟨#[]⟩:ByteArray)) (.leaf (.inl true)) (.leaf (.inl (decide ((x.size:Int) > (64:Int)))))) λs1=>.ite s1 (.leaf false) (.loopR (V:=Unit) (y2v n x) () (0:Int) (λ(v1:Unit) (y1:Int)=>.leaf true) λ(v1:Unit) (z1:Unit)=>.leaf false)
def k63 (n:Nat):Con P_ Ty_:=zj (X:=ByteArray) (R:=Bool) (pro:=[]) (y96 n) 80 y97 (λx=>.two .no (.two (.join Bool (y2w x) ⟨[(0,.any),(11,.any)],[]⟩ .no .no) (.two (.two .no (.two (.loop Unit (y2v n x) true ⟨[(0,.any),(3,.any)],[]⟩) .no)) .no))) [.any] [] [] ⟨[(2,.any)],[]⟩ [] true (λx=>[.sc (.string x)]) (λx=>[]) (λy=>([(2,B_ y)],[])) (λy=>B_ y) (λy=>[]) (y98 n)
def ym1 (n:Nat):Cx P_ Ty_:=⟨[k63 n],[],[],[]⟩
abbrev ym2:List (List Nat):=[[1],[2]]
def y8s (n:Nat)(x:Xa):Pt P_ Ty_ [] Bool:=.call (k63 n) x.q_ λ(y1:Bool)=>.ite y1 (.ite (x.j_==1) (.ite (decide (x.r_>=(1:Int))) (.leaf (decide (x.r_<=(4096:Int)))) (.leaf false)) (.ite (x.j_==2) (.ite (decide (x.r_>=(1:Int))) (.leaf (decide (x.r_<=(4096:Int)))) (.leaf false)) (.leaf false))) (.leaf false)
def k55 (n:Nat):Con P_ Ty_:=zj (X:=Xa) (R:=Bool) (pro:=[]) (ym1 n) 65 ym2 (λx=>.no) [.ag [.any,.any,.any]] [] [] ⟨[(2,.any)],[]⟩ [] true (λx=>[.ag [.sc (.string x.q_),I_ x.j_,I_ x.r_]]) (λx=>[]) (λy=>([(2,B_ y)],[])) (λy=>B_ y) (λy=>[]) (y8s n)
def y8t (n:Nat):Cx P_ Ty_:=⟨[],[],[],[]⟩
abbrev y8u:List (List Nat):=[[0,1],[0,1,6],[0,1,6,10],[0,1,6,19],[4,5],[0,1,6],[4,5]]
def y2c (n:Nat)(x:Ybl)(v1:Unit)(q1:Int):Pt P_ Ty_ [] (Bo Int Int Int):=.ite (decide (q1<(x.1.length:Int))) (.bnd (idx x.1 q1) λy1=>.ite (y1.q_==x.2) (.leaf (.ret q1)) (.leaf (.go (i64.wrap (q1+(1:Int)))))) (.leaf (.out q1))
def y2b (n:Nat)(x:Ybl)(v1:Unit):z15 P_ Ty_ []:=z1d (X:=Int) (Y:=Int) (Z:=Int) (y8t n) (z16 [1,0,1,0,0] (fnC P_ 66 y8u)) (λq1=>.no) 0 true ⟨[(0,.im 1),(1,.any),(6,.any)],[]⟩ ⟨[(0,.im 1),(1,.any),(6,.any),(10,.any)],[]⟩ ⟨[(4,.any),(5,.any)],[]⟩ (λq1=>([(0,.im 1 x.1),(1,.sc (.string x.2)),(6,I_ q1)],[])) (λp=>([(0,.im 1 x.1),(1,.sc (.string x.2)),(6,I_ p),(10,B_ false)],[])) (λp=>([(4,I_ p),(5,B_ true)],[])) n (y2c n x v1)
def y8v (n:Nat)(x:Ybl):Pt P_ Ty_ [] (Yag):=.loopR (V:=Unit) (y2b n x) () (0:Int) (λ(v1:Unit) (y2:Int)=>.leaf ((0:Int),false)) λ(v1:Unit) (z1:Int)=>.leaf (z1,true)
def k56 (n:Nat):Con P_ Ty_:=zj (X:=Ybl) (R:=Yag) (pro:=[]) (y8t n) 66 y8u (λx=>.two .no (.two (.two .no (.two (.loop Unit (y2b n x) true ⟨[(0,.im 1),(1,.any),(6,.any)],[]⟩) .no)) .no)) [.im 1,.any] [] [] ⟨[(4,.any),(5,.any)],[]⟩ [] true (λx=>[.im 1 x.1,.sc (.string x.2)]) (λx=>[]) (λy=>([(4,I_ y.1),(5,B_ y.2)],[])) (λy=>.tu [I_ y.1,B_ y.2]) (λy=>[]) (y8v n)
def ymb (n:Nat):Cx P_ Ty_:=⟨[k55 n],[],[],[]⟩
abbrev ymc:List (List Nat):=[[1],[1,3],[2],[1,7],[2],[2]]
def y99 (n:Nat)(x:Xa):Pt P_ Ty_ [] Int:=.call (k55 n) x λ(y1:Bool)=>.ite (!y1) (.leaf (0:Int)) (.ite (x.j_==2) (.leaf (i64.wrap ((2:Int) * x.r_))) (.leaf x.r_))
def k64 (n:Nat):Con P_ Ty_:=zj (X:=Xa) (R:=Int) (pro:=[]) (ymb n) 81 ymc (λx=>.no) [.ag [.any,.any,.any]] [] [] ⟨[(2,.any)],[]⟩ [] true (λx=>[.ag [.sc (.string x.q_),I_ x.j_,I_ x.r_]]) (λx=>[]) (λy=>([(2,I_ y)],[])) (λy=>I_ y) (λy=>[]) (y99 n)
def y8w (n:Nat):Cx P_ Ty_:=⟨[k64 n],[],[],[]⟩
abbrev y8x:List (List Nat):=[[0],[0,3],[0,3,4],[0,3,4,8],[0,3,4],[0,3,4],[2]]
def y2e (n:Nat)(x:(List Xa))(v1:Unit)(q1:Yaa):Pt P_ Ty_ [] (Bo (Yaa) (Yaa) Empty):=.ite (decide (q1.2<(x.length:Int))) (.bnd (idx x q1.2) λy1=>.call (k64 n) y1 λ(y2:Int)=>.leaf (.go ((i64.wrap (q1.1+y2)),(i64.wrap (q1.2+(1:Int)))))) (.leaf (.out (q1.1,q1.2)))
def y2d (n:Nat)(x:(List Xa))(v1:Unit):z15 P_ Ty_ []:=z1d (X:=Yaa) (Y:=Yaa) (Z:=Empty) (y8w n) (z16 [1,1,0,1,0,0] (fnC P_ 67 y8x)) (λq1=>.no) 0 false ⟨[(0,.im 1),(3,.any),(4,.any)],[]⟩ ⟨[(0,.im 1),(3,.any),(4,.any),(8,.any)],[]⟩ ⟨[],[]⟩ (λq1=>([(0,.im 1 x),(3,I_ q1.1),(4,I_ q1.2)],[])) (λp=>([(0,.im 1 x),(3,I_ p.1),(4,I_ p.2),(8,B_ false)],[])) (λp=>nomatch p) n (y2e n x v1)
def y8y (n:Nat)(x:(List Xa)):Pt P_ Ty_ [] Int:=.loop (V:=Unit) (y2d n x) () ((0:Int),(0:Int)) λ(v1:Unit) (y3:Yaa)=>.leaf y3.1
def k57 (n:Nat):Con P_ Ty_:=zj (X:=(List Xa)) (R:=Int) (pro:=[]) (y8w n) 67 y8x (λx=>.two .no (.two .no (.two (.two .no (.two (.loop Unit (y2d n x) false ⟨[(0,.im 1),(3,.any),(4,.any)],[]⟩) .no)) .no))) [.im 1] [] [] ⟨[(2,.any)],[]⟩ [] true (λx=>[.im 1 x]) (λx=>[]) (λy=>([(2,I_ y)],[])) (λy=>I_ y) (λy=>[]) (y8y n)
def zwa (n:Nat):Cx P_ Ty_:=⟨[k55 n,k56 n,k57 n],[],[],[]⟩
abbrev zwb:List (List Nat):=[[0],[0,9],[2],[0,3],[0,3,13],[0,3,21],[2],[0,3],[0,4],[0,4,25],[0,4,5],[0,4,40],[2],[0,4],[43],[2],[2]]
def y1n (n:Nat)(x:(List Xa))(v1:Unit)(q1:Int):Pt P_ Ty_ [] (Bo Int Int Unit):=.ite (decide (q1<(x.length:Int))) (.bnd (idx x q1) λy1=>.call (k55 n) y1 λ(y2:Bool)=>.ite (!y2) (.leaf (.ret ())) (.leaf (.go (i64.wrap (q1+(1:Int)))))) (.leaf (.out q1))
def y1l (n:Nat)(x:(List Xa))(v1:Unit):z15 P_ Ty_ []:=z1d (X:=Int) (Y:=Int) (Z:=Unit) (zwa n) (z16 [1,1,0,1,0,0] (fnC P_ 48 zwb)) (λq1=>.no) 0 true ⟨[(0,.im 1),(3,.any)],[]⟩ ⟨[(0,.im 1),(3,.any),(13,.any)],[]⟩ ⟨[(2,.any)],[]⟩ (λq1=>([(0,.im 1 x),(3,I_ q1)],[])) (λp=>([(0,.im 1 x),(3,I_ p),(13,B_ false)],[])) (λp=>([(2,I_ (100:Int))],[])) n (y1n n x v1)
def y1o (n:Nat)(x:(List Xa))(v2:Unit)(q2:Int):Pt P_ Ty_ [] (Bo Int Int Unit):=.ite (decide (q2<(x.length:Int))) (.bnd (idx x q2) λy4=>.call (k56 n) (x,y4.q_) λ(y5:Yag)=>.ite (y5.1 != q2) (.leaf (.ret ())) (.leaf (.go (i64.wrap (q2+(1:Int)))))) (.leaf (.out q2))
def y1m (n:Nat)(x:(List Xa))(v2:Unit):z15 P_ Ty_ []:=z1d (X:=Int) (Y:=Int) (Z:=Unit) (zwa n) (z16 [1,1,1,0,1,0,0] (fnC P_ 48 zwb)) (λq2=>.no) 2 true ⟨[(0,.im 1),(4,.any)],[]⟩ ⟨[(0,.im 1),(4,.any),(25,.any)],[]⟩ ⟨[(2,.any)],[]⟩ (λq2=>([(0,.im 1 x),(4,I_ q2)],[])) (λp=>([(0,.im 1 x),(4,I_ p),(25,B_ false)],[])) (λp=>([(2,I_ (101:Int))],[])) n (y1o n x v2)
def y88 (n:Nat)(x:(List Xa)):Pt P_ Ty_ [] Int:=.ite (decide ((x.length:Int) > (64:Int))) (.leaf (2:Int)) (.loopR (V:=Unit) (y1l n x) () (0:Int) (λ(v1:Unit) (y3:Int)=>.loopR (V:=Unit) (y1m n x) () (0:Int) (λ(v2:Unit) (y6:Int)=>.call (k57 n) x λ(y7:Int)=>.ite (decide (y7 > (65536:Int))) (.leaf (102:Int)) (.leaf (0:Int))) λ(v2:Unit) (z2:Unit)=>.leaf (101:Int)) λ(v1:Unit) (z1:Unit)=>.leaf (100:Int))
def k38 (n:Nat):Con P_ Ty_:=zj (X:=(List Xa)) (R:=Int) (pro:=[]) (zwa n) 48 zwb (λx=>.two .no (.two .no (.two (.two .no (.two (.loop Unit (y1l n x) true ⟨[(0,.im 1),(3,.any)],[]⟩) .no)) (.two (.two .no (.two (.loop Unit (y1m n x) true ⟨[(0,.im 1),(4,.any)],[]⟩) .no)) .no)))) [.im 1] [] [] ⟨[(2,.any)],[]⟩ [] true (λx=>[.im 1 x]) (λx=>[]) (λy=>([(2,I_ y)],[])) (λy=>I_ y) (λy=>[]) (y88 n)
def yln (n:Nat):Cx P_ Ty_:=⟨[],[],[],[]⟩
abbrev ylo:List (List Nat):=[[1,2],[1,2,7],[4],[4]]
def y89 (n:Nat)(x:Yco):Pt P_ Ty_ [] Bool:=.ite (x.1.j_==3) (.ite (decide (x.1.n_>=(0:Int))) (.leaf (decide (x.1.n_<(x.2.length:Int)))) (.leaf false)) (.ite (x.1.j_==1) (.leaf (x.1.n_==0)) (.ite (x.1.j_==2) (.leaf (x.1.n_==0)) (.leaf false)))
def k39 (n:Nat):Con P_ Ty_:=zj (X:=Yco) (R:=Bool) (pro:=[]) (yln n) 49 ylo (λx=>.no) [.ag [.any,.any],.im 1] [] [] ⟨[(4,.any)],[]⟩ [] true (λx=>[.ag [I_ x.1.j_,I_ x.1.n_],.im 1 x.2]) (λx=>[]) (λy=>([(4,B_ y)],[])) (λy=>B_ y) (λy=>[]) (y89 n)
def yml (n:Nat):Cx P_ Ty_:=⟨[],[],[],[]⟩
abbrev ymm:List (List Nat):=[[0,2],[2,3],[2,3,4],[2,3,4,5],[2,4,5,6],[2,4,5,6,25],[2,4,6],[2,4],[2,4,5,6,34],[2,4],[2,4],[2,4,5],[2,4],[2]]
def y2z (x:Int)(p:Ycy):EH Ty_:=([(2,.pt 2 [] 0 0),(4,.pt 4 [] 0 0)],[(2,.lit 5 [[B_ false,.sc (.int .u64 (0:Int)),I_ (0:Int),B_ false,B_ false]]),(4,.lit 5 [[B_ (((u64.wrap x).fdiv (2 ^ min (31:Int).toNat u64.bits))==1),.sc (.int .u64 p.1),I_ p.2.1,B_ p.2.2.1,B_ p.q3]])])
def y9e (n:Nat)(x:Int):Pt P_ Ty_ [] (Yah):=.join (S:=Ycy) (y2z x) (.ite ((i64.wrap (u64.wrap (BitVec.ofInt u64.bits ((u64.wrap x).fdiv (2 ^ min (23:Int).toNat u64.bits)) &&& BitVec.ofInt u64.bits (255:Int)).toNat))==255) (.leaf (.inl ((0:Int),(0:Int),((u64.wrap (BitVec.ofInt u64.bits (u64.wrap x) &&& BitVec.ofInt u64.bits (8388607:Int)).toNat)==0),((u64.wrap (BitVec.ofInt u64.bits (u64.wrap x) &&& BitVec.ofInt u64.bits (8388607:Int)).toNat) != (0:Int))))) (.ite ((i64.wrap (u64.wrap (BitVec.ofInt u64.bits ((u64.wrap x).fdiv (2 ^ min (23:Int).toNat u64.bits)) &&& BitVec.ofInt u64.bits (255:Int)).toNat))==0) (.leaf (.inl ((u64.wrap (BitVec.ofInt u64.bits (u64.wrap x) &&& BitVec.ofInt u64.bits (8388607:Int)).toNat),(-149:Int),false,false))) (.leaf (.inl ((u64.wrap ((8388608:Int)+(u64.wrap (BitVec.ofInt u64.bits (u64.wrap x) &&& BitVec.ofInt u64.bits (8388607:Int)).toNat))),(i64.wrap ((i64.wrap (u64.wrap (BitVec.ofInt u64.bits ((u64.wrap x).fdiv (2 ^ min (23:Int).toNat u64.bits)) &&& BitVec.ofInt u64.bits (255:Int)).toNat)) - (150:Int))),false,false))))) λs1=>.leaf ((((u64.wrap x).fdiv (2 ^ min (31:Int).toNat u64.bits))==1),s1.1,s1.2.1,s1.2.2.1,s1.q3)
def k69 (n:Nat):Con P_ Ty_:=zj (X:=Int) (R:=Yah) (pro:=[]) (yml n) 97 ymm (λx=>.two .no (.two .no (.two .no (.two .no (.two .no (.join (Ycy) (y2z x) ⟨[(2,.ref 2),(4,.ref 4)],[(2,.any),(4,.any)]⟩ .no .no)))))) [.any] [] [] ⟨[(2,.ref 100000)],[(100000,.any)]⟩ [] true (λx=>[I_ x]) (λx=>[]) (λy=>([(2,.pt 100000 [] 0 0)],[(100000,.lit 5 [[B_ y.1,.sc (.int .u64 y.2.1),I_ y.2.2.1,B_ y.p3,B_ y.q4]])])) (λy=>.ag [B_ y.1,.sc (.int .u64 y.2.1),I_ y.2.2.1,B_ y.p3,B_ y.q4]) (λy=>[]) (y9e n)
def ymd (n:Nat):Cx P_ Ty_:=⟨[k69 n],[],[],[]⟩
abbrev yme:List (List Nat):=[[0],[0,5],[2],[2]]
def y9a (n:Nat)(x:Int):Pt P_ Ty_ [] Int:=.call (k69 n) x λ(y1:Yah)=>.ite y1.q4 (.leaf (2143289344:Int)) (.leaf x)
def k65 (n:Nat):Con P_ Ty_:=zj (X:=Int) (R:=Int) (pro:=[]) (ymd n) 82 yme (λx=>.no) [.any] [] [] ⟨[(2,.any)],[]⟩ [] true (λx=>[I_ x]) (λx=>[]) (λy=>([(2,I_ y)],[])) (λy=>I_ y) (λy=>[]) (y9a n)
def ym3 (n:Nat):Cx P_ Ty_:=⟨[k65 n],[],[],[]⟩
abbrev ym4:List (List Nat):=[[0],[2]]
def y8z (n:Nat)(x:Int):Pt P_ Ty_ [] Bool:=.call (k65 n) (i64.wrap x) λ(y1:Int)=>.leaf (y1==(i64.wrap x))
def k58 (n:Nat):Con P_ Ty_:=zj (X:=Int) (R:=Bool) (pro:=[]) (ym3 n) 68 ym4 (λx=>.no) [.any] [] [] ⟨[(2,.any)],[]⟩ [] true (λx=>[.sc (.int .u32 x)]) (λx=>[]) (λy=>([(2,B_ y)],[])) (λy=>B_ y) (λy=>[]) (y8z n)
def ylp (n:Nat):Cx P_ Ty_:=⟨[k39 n,k58 n],[],[],[]⟩
abbrev ylq:List (List Nat):=[[1,2],[2,9],[4],[2,13],[4],[4]]
def y8a (n:Nat)(x:Ycp):Pt P_ Ty_ [] Bool:=.call (k39 n) (x.1.s_,x.2) λ(y1:Bool)=>.ite (!y1) (.leaf false) (.ite (x.1.s_.j_==2) (.ite (x.1.m_==0) (.ite (decide (x.1.u_>=(0:Int))) (.leaf (decide (x.1.u_<=(2147483647:Int)))) (.leaf false)) (.leaf false)) (.ite (x.1.u_==0) (.call (k58 n) x.1.m_ λ(y2:Bool)=>.leaf y2) (.leaf false)))
def k40 (n:Nat):Con P_ Ty_:=zj (X:=Ycp) (R:=Bool) (pro:=[]) (ylp n) 50 ylq (λx=>.no) [.ag [.any,.any,.any,.any,.any],.im 1] [] [] ⟨[(4,.any)],[]⟩ [] true (λx=>[.ag [I_ x.1.s_.j_,I_ x.1.s_.n_,B_ x.1.O_,.sc (.int .u32 x.1.m_),I_ x.1.u_],.im 1 x.2]) (λx=>[]) (λy=>([(4,B_ y)],[])) (λy=>B_ y) (λy=>[]) (y8a n)
def yl9 (n:Nat):Cx P_ Ty_:=⟨[],[],[],[]⟩
abbrev yla:List (List Nat):=[[0],[4],[4,5],[2,3],[4,7],[2,3],[4,9],[2,3],[4,11],[4,11],[4,11],[4,11],[4,11],[4,11],[4,11],[2,3],[4,19],[4,19],[4,19],[4,19],[2,3],[4,24],[2,3],[4,26],[2,3],[4,28],[2,3],[4,30],[2,3],[4,32],[4,32],[2,3],[4,35],[4,35],[2,3],[4,38],[4,38],[4,38],[4,38],[4,38],[2,3],[4,44],[2,3],[4,46],[4,46],[2,3],[4,49],[2,3],[4,51],[2,3],[4,53],[2,3],[4,55],[2,3],[4,57],[4,57],[2,3],[60],[2,3],[2,3]]
def y0l (x:Int)(p:Bool):EH Ty_:=([(4,I_ x),(11,B_ p)],[])
def y0m (x:Int)(p:Bool):EH Ty_:=([(4,I_ x),(19,B_ p)],[])
def y0n (x:Int)(p:Bool):EH Ty_:=([(4,I_ x),(32,B_ p)],[])
def y0o (x:Int)(p:Bool):EH Ty_:=([(4,I_ x),(35,B_ p)],[])
def y0p (x:Int)(p:Bool):EH Ty_:=([(4,I_ x),(38,B_ p)],[])
def y0q (x:Int)(p:Bool):EH Ty_:=([(4,I_ x),(46,B_ p)],[])
def y0r (x:Int)(p:Bool):EH Ty_:=([(4,I_ x),(57,B_ p)],[])
def y7s (n:Nat)(x:Int):Pt P_ Ty_ [] (Yam):=.ite (x==1) (.leaf ((⟨#[110,45,45,45,45]⟩:ByteArray),true)) (.ite (x==2) (.leaf ((⟨#[119,45,45,45,105]⟩:ByteArray),true)) (.ite (x==3) (.leaf ((⟨#[97,99,45,45,45]⟩:ByteArray),true)) (.join (S:=Bool) (y0l x) (.ite (x==4) (.leaf (.inl true)) (.ite (x==5) (.leaf (.inl true)) (.ite (x==6) (.leaf (.inl true)) (.ite (x==7) (.leaf (.inl true)) (.ite (x==8) (.leaf (.inl true)) (.ite (x==9) (.leaf (.inl true)) (.leaf (.inl (x==10))))))))) λs1=>.ite s1 (.leaf ((⟨#[100,120,120,45,45]⟩:ByteArray),true)) (.join (S:=Bool) (y0m x) (.ite (x==11) (.leaf (.inl true)) (.ite (x==12) (.leaf (.inl true)) (.ite (x==13) (.leaf (.inl true)) (.leaf (.inl (x==14)))))) λs2=>.ite s2 (.leaf ((⟨#[100,120,45,45,45]⟩:ByteArray),true)) (.ite (x==15) (.leaf ((⟨#[100,120,120,120,45]⟩:ByteArray),true)) (.ite (x==16) (.leaf ((⟨#[110,110,119,45,45]⟩:ByteArray),true)) (.ite (x==17) (.leaf ((⟨#[110,119,45,45,45]⟩:ByteArray),true)) (.ite (x==18) (.leaf ((⟨#[119,110,45,45,45]⟩:ByteArray),true)) (.join (S:=Bool) (y0n x) (.ite (x==19) (.leaf (.inl true)) (.leaf (.inl (x==20)))) λs3=>.ite s3 (.leaf ((⟨#[110,118,45,45,45]⟩:ByteArray),true)) (.join (S:=Bool) (y0o x) (.ite (x==21) (.leaf (.inl true)) (.leaf (.inl (x==25)))) λs4=>.ite s4 (.leaf ((⟨#[119,119,45,45,45]⟩:ByteArray),true)) (.join (S:=Bool) (y0p x) (.ite (x==22) (.leaf (.inl true)) (.ite (x==23) (.leaf (.inl true)) (.ite (x==24) (.leaf (.inl true)) (.ite (x==27) (.leaf (.inl true)) (.leaf (.inl (x==28))))))) λs5=>.ite s5 (.leaf ((⟨#[119,119,119,45,45]⟩:ByteArray),true)) (.ite (x==26) (.leaf ((⟨#[119,119,119,119,45]⟩:ByteArray),true)) (.join (S:=Bool) (y0q x) (.ite (x==29) (.leaf (.inl true)) (.leaf (.inl (x==30)))) λs6=>.ite s6 (.leaf ((⟨#[118,45,45,45,112]⟩:ByteArray),true)) (.ite (x==31) (.leaf ((⟨#[45,118,45,45,112]⟩:ByteArray),true)) (.ite (x==32) (.leaf ((⟨#[97,45,45,45,115]⟩:ByteArray),true)) (.ite (x==33) (.leaf ((⟨#[45,97,45,45,115]⟩:ByteArray),true)) (.ite (x==34) (.leaf ((⟨#[45,119,45,45,45]⟩:ByteArray),true)) (.join (S:=Bool) (y0r x) (.ite (x==35) (.leaf (.inl true)) (.leaf (.inl (x==37)))) λs7=>.ite s7 (.leaf ((⟨#[45,45,45,45,45]⟩:ByteArray),true)) (.ite (x==36) (.leaf ((⟨#[45,45,45,45,113]⟩:ByteArray),true)) (.leaf ((⟨#[]⟩:ByteArray),false)))))))))))))))))))))
def k27 (n:Nat):Con P_ Ty_:=zj (X:=Int) (R:=Yam) (pro:=[]) (yl9 n) 56 yla (λx=>.two .no (.two (.two .no (.two (.two .no (.two .no (.two .no (.two .no (.two .no (.two .no (.join Bool (y0l x) ⟨[(4,.any),(11,.any)],[]⟩ .no (.two .no (.join Bool (y0m x) ⟨[(4,.any),(19,.any)],[]⟩ .no (.two .no (.two .no (.two .no (.two .no (.two .no (.two .no (.two .no (.two .no (.two .no (.join Bool (y0n x) ⟨[(4,.any),(32,.any)],[]⟩ .no (.two .no (.join Bool (y0o x) ⟨[(4,.any),(35,.any)],[]⟩ .no (.two .no (.join Bool (y0p x) ⟨[(4,.any),(38,.any)],[]⟩ .no (.two .no (.two .no (.two .no (.join Bool (y0q x) ⟨[(4,.any),(46,.any)],[]⟩ .no (.two .no (.two .no (.two .no (.two .no (.two .no (.two .no (.two .no (.two .no (.two .no (.join Bool (y0r x) ⟨[(4,.any),(57,.any)],[]⟩ .no .no))))))))))))))))))))))))))))))))))))) .no)) .no)) [.any] [] [] ⟨[(2,.any),(3,.any)],[]⟩ [] true (λx=>[I_ x]) (λx=>[]) (λy=>([(2,.sc (.string y.1)),(3,B_ y.2)],[])) (λy=>.tu [.sc (.string y.1),B_ y.2]) (λy=>[]) (y7s n)
def ymn (n:Nat):Cx P_ Ty_:=⟨[],[],[],[]⟩
abbrev ymo:List (List Nat):=[[1,2,4],[1,2,4,14],[4,5],[4,5]]
def y35 (x:Xe×Int)(p:Bool):EH Ty_:=([(1,I_ x.2),(2,.pt 2 [] 0 0),(4,.pt 4 [] 0 0),(14,B_ p)],[(2,.lit 4 [[.im 1 x.1.f_,.im 2 x.1.a_,.im 3 x.1.e_,.im 4 x.1.d_]]),(4,.lit 2 [[I_ (0:Int),I_ (0:Int)]])])
def y9f (n:Nat)(x:Xe×Int):Pt P_ Ty_ [] (Ybm):=.join (S:=Bool) (y35 x) (.ite (decide (x.2<(0:Int))) (.leaf (.inl true)) (.leaf (.inl (decide (x.2>=(x.1.a_.length:Int)))))) λs1=>.ite s1 (.leaf (false,(0:Int),(0:Int))) (.bnd (idx x.1.a_ x.2) λy1=>.leaf (true,y1.j_,y1.n_))
def k70 (n:Nat):Con P_ Ty_:=zj (X:=Xe×Int) (R:=Ybm) (pro:=[]) (ymn n) 98 ymo (λx=>.two .no (.two (.join Bool (y35 x) ⟨[(1,.any),(2,.ref 2),(4,.ref 4),(14,.any)],[(2,.any),(4,.any)]⟩ .no .no) .no)) [.ag [.im 1,.im 2,.im 3,.im 4],.any] [] [] ⟨[(4,.ref 100000),(5,.any)],[(100000,.any)]⟩ [] true (λx=>[.ag [.im 1 x.1.f_,.im 2 x.1.a_,.im 3 x.1.e_,.im 4 x.1.d_],I_ x.2]) (λx=>[]) (λy=>([(4,.pt 100000 [] 0 0),(5,B_ y.1)],[(100000,.lit 2 [[I_ y.2.1,I_ y.2.2]])])) (λy=>.tu [.ag [I_ y.2.1,I_ y.2.2],B_ y.1]) (λy=>[]) (y9f n)
def ymf (n:Nat):Cx P_ Ty_:=⟨[k70 n],[],[],[]⟩
abbrev ymg:List (List Nat):=[[1,2,4,7],[1,2,4,7,14],[8],[1,7,9,10],[1,7,9,24],[8],[1,7,9,11],[1,7,9,11,12],[7,9,11,12,31],[7,9,11,12,31,32],[8],[7,9,11,12,31,35],[8],[7,9,11,12,31,40],[8],[7,9,11,12,31,43],[8],[7,9,11,31,49],[8],[7,9,11,57],[8],[8]]
def y9b (n:Nat)(x:Ycq):Pt P_ Ty_ [] Bool:=.ite (x.2.1==45) (.leaf (x.2.2.1==0)) (.call (k70 n) (x.1,x.2.2.1) λ(y1:Ybm)=>.ite (!y1.1) (.leaf false) (.ite (x.2.1==110) (.leaf (y1.2.1==1)) (.ite (x.2.1==119) (.leaf (y1.2.1==2)) (.ite (x.2.1==118) (.leaf (y1.2.1==3)) (.ite (x.2.1==100) (.ite (y1.2.1==1) (.leaf true) (.leaf (y1.2.1==3))) (.ite (x.2.1==120) (.ite (y1.2.1==1) (.leaf true) (.leaf (y1.2.1==x.q3.j_&&(y1.2.2==x.q3.n_&&true)))) (.ite (x.2.1==99) (.ite (y1.2.1==x.q3.j_&&(y1.2.2==x.q3.n_&&true)) (.leaf true) (.ite (y1.2.1==1) (.leaf (x.q3.j_==3)) (.leaf false))) (.leaf true))))))))
def k66 (n:Nat):Con P_ Ty_:=zj (X:=Ycq) (R:=Bool) (pro:=[]) (ymf n) 83 ymg (λx=>.no) [.ag [.im 1,.im 2,.im 3,.im 4],.any,.any,.ag [.any,.any]] [] [] ⟨[(8,.any)],[]⟩ [] true (λx=>[.ag [.im 1 x.1.f_,.im 2 x.1.a_,.im 3 x.1.e_,.im 4 x.1.d_],.sc (.int .u8 x.2.1),I_ x.2.2.1,.ag [I_ x.q3.j_,I_ x.q3.n_]]) (λx=>[]) (λy=>([(8,B_ y)],[])) (λy=>B_ y) (λy=>[]) (y9b n)
def ymh (n:Nat):Cx P_ Ty_:=⟨[],[],[],[]⟩
abbrev ymi:List (List Nat):=[[1,2,3],[6]]
def y9c (n:Nat)(x:Ycr):Pt P_ Ty_ [] Bool:=.ite (x.2.1==0) (.leaf true) (.ite (x.2.1==1) (.bnd (idx x.1.f_ x.2.2) λy1=>.leaf (y1.j_==2)) (.leaf false))
def k67 (n:Nat):Con P_ Ty_:=zj (X:=Ycr) (R:=Bool) (pro:=[]) (ymh n) 84 ymi (λx=>.no) [.ag [.im 1,.im 2,.im 3,.im 4],.any,.any] [] [] ⟨[(6,.any)],[]⟩ [] true (λx=>[.ag [.im 1 x.1.f_,.im 2 x.1.a_,.im 3 x.1.e_,.im 4 x.1.d_],I_ x.2.1,I_ x.2.2]) (λx=>[]) (λy=>([(6,B_ y)],[])) (λy=>B_ y) (λy=>[]) (y9c n)
def ym5 (n:Nat):Cx P_ Ty_:=⟨[k27 n,k58 n,k66 n,k67 n],[],[],[]⟩
abbrev ym6:List (List Nat):=[[2,3],[2,3,5,6],[2,3,5,32],[4],[2,3,5,7],[2,3,5,7,36],[2,3,5,7,44],[4],[2,3,5,7],[2,3,5,7,53],[4],[2,3,5,7,81],[4],[2,3,5,8],[2,3,5,8,90],[2,3,5,8],[2,3,8,98],[2,3,8,98,99],[4],[2,3,8,98,109],[4],[2,3,8,98,117],[4],[2,3,141],[4],[4]]
def y2f (x:Yai)(p:Yam):EH Ty_:=([(2,.pt 2 [] 0 0),(3,.pt 3 [] 0 0),(5,.sc (.string p.1)),(32,B_ p.2)],[(2,.lit 4 [[.im 1 x.1.f_,.im 2 x.1.a_,.im 3 x.1.e_,.im 4 x.1.d_]]),(3,.lit 7 [[I_ x.2.c_,I_ x.2.D_,I_ x.2.A_,I_ x.2.B_,I_ x.2.C_,I_ x.2.N_,.sc (.int .u32 x.2.m_)]])])
def y2g (x:Yai)(p:Yaz):EH Ty_:=([(2,.pt 2 [] 0 0),(3,.pt 3 [] 0 0),(5,.sc (.string p.1)),(7,.pt 7 [] 0 0)],[(2,.lit 4 [[.im 1 x.1.f_,.im 2 x.1.a_,.im 3 x.1.e_,.im 4 x.1.d_]]),(3,.lit 7 [[I_ x.2.c_,I_ x.2.D_,I_ x.2.A_,I_ x.2.B_,I_ x.2.C_,I_ x.2.N_,.sc (.int .u32 x.2.m_)]]),(7,.lit 2 [[I_ p.2.1,I_ p.2.2]])])
def y2h (x:Yai)(p:Ycb):EH Ty_:=([(2,.pt 2 [] 0 0),(3,.pt 3 [] 0 0),(5,.sc (.string p.1)),(7,.pt 7 [] 0 0),(81,B_ p.2.1)],[(2,.lit 4 [[.im 1 x.1.f_,.im 2 x.1.a_,.im 3 x.1.e_,.im 4 x.1.d_]]),(3,.lit 7 [[I_ x.2.c_,I_ x.2.D_,I_ x.2.A_,I_ x.2.B_,I_ x.2.C_,I_ x.2.N_,.sc (.int .u32 x.2.m_)]]),(7,.lit 2 [[I_ p.2.2.1,I_ p.q3]])])
def y2i (x:Yai)(p:Ycb):EH Ty_:=([(2,.pt 2 [] 0 0),(3,.pt 3 [] 0 0),(5,.sc (.string p.1)),(8,.pt 8 [] 0 0),(90,B_ p.2.1)],[(2,.lit 4 [[.im 1 x.1.f_,.im 2 x.1.a_,.im 3 x.1.e_,.im 4 x.1.d_]]),(3,.lit 7 [[I_ x.2.c_,I_ x.2.D_,I_ x.2.A_,I_ x.2.B_,I_ x.2.C_,I_ x.2.N_,.sc (.int .u32 x.2.m_)]]),(8,.lit 2 [[I_ p.2.2.1,I_ p.q3]])])
def y2j (x:Yai)(p:Yaz):EH Ty_:=([(2,.pt 2 [] 0 0),(3,.pt 3 [] 0 0),(5,.sc (.string p.1)),(8,.pt 8 [] 0 0)],[(2,.lit 4 [[.im 1 x.1.f_,.im 2 x.1.a_,.im 3 x.1.e_,.im 4 x.1.d_]]),(3,.lit 7 [[I_ x.2.c_,I_ x.2.D_,I_ x.2.A_,I_ x.2.B_,I_ x.2.C_,I_ x.2.N_,.sc (.int .u32 x.2.m_)]]),(8,.lit 2 [[I_ p.2.1,I_ p.2.2]])])
def y90 (n:Nat)(x:Yai):Pt P_ Ty_ [] Bool:=.call (k27 n) x.2.c_ λ(y1:Yam)=>.join (S:=Yam) (y2f x) (.ite (!y1.2) (.leaf (.inl (y1.1,true))) (.ite (x.2.c_ != (1:Int)) (.ite (x.2.m_ != (0:Int)) (.leaf (.inl (y1.1,true))) (.call (k58 n) x.2.m_ λ(y2:Bool)=>.leaf (.inl (y1.1,(!y2))))) (.call (k58 n) x.2.m_ λ(y3:Bool)=>.leaf (.inl (y1.1,(!y3)))))) λs1=>.ite s1.2 (.leaf false) (.join (S:=Yaz) (y2g x) (.need (0<=(0:Int)/\(0:Int)<(s1.1.size:Int)) (.ite ((zd s1.1 (0:Int)) != (45:Int)) (.need (0<=(0:Int)/\(0:Int)<(s1.1.size:Int)) (.call (k66 n) (x.1,(zd s1.1 (0:Int)),x.2.D_,(⟨(0:Int),(0:Int)⟩:Xb)) λ(y4:Bool)=>.ite (!y4) (.leaf (.inr false)) (.bnd (idx x.1.a_ x.2.D_) λy5=>.leaf (.inl (s1.1,y5.j_,y5.n_))))) (.ite (x.2.D_ != (0:Int)) (.leaf (.inr false)) (.leaf (.inl (s1.1,(0:Int),(0:Int))))))) λs2=>.join (S:=Ycb) (y2h x) (.need (0<=(1:Int)/\(1:Int)<(s2.1.size:Int)) (.call (k66 n) (x.1,(zd s2.1 (1:Int)),x.2.A_,(⟨s2.2.1,s2.2.2⟩:Xb)) λ(y6:Bool)=>.ite (!y6) (.leaf (.inl (s2.1,true,s2.2.1,s2.2.2))) (.need (0<=(2:Int)/\(2:Int)<(s2.1.size:Int)) (.call (k66 n) (x.1,(zd s2.1 (2:Int)),x.2.B_,(⟨s2.2.1,s2.2.2⟩:Xb)) λ(y7:Bool)=>.ite (!y7) (.leaf (.inl (s2.1,true,s2.2.1,s2.2.2))) (.need (0<=(3:Int)/\(3:Int)<(s2.1.size:Int)) (.call (k66 n) (x.1,(zd s2.1 (3:Int)),x.2.C_,(⟨s2.2.1,s2.2.2⟩:Xb)) λ(y8:Bool)=>.leaf (.inl (s2.1,(!y8),s2.2.1,s2.2.2)))))))) λs3=>.ite s3.2.1 (.leaf false) (.join (S:=Yaz) (y2j x) (.join (S:=Ycb) (y2i x) (.need (0<=(0:Int)/\(0:Int)<(s3.1.size:Int)) (.ite ((zd s3.1 (0:Int))==45) (.need (0<=(1:Int)/\(1:Int)<(s3.1.size:Int)) (.leaf (.inl (s3.1,((zd s3.1 (1:Int)) != (45:Int)),s3.2.2.1,s3.q3)))) (.leaf (.inl (s3.1,false,s3.2.2.1,s3.q3))))) λs4=>.ite s4.2.1 (.bnd (idx x.1.a_ x.2.A_) λy9=>.leaf (.inl (s4.1,y9.j_,y9.n_))) (.leaf (.inl (s4.1,s4.2.2.1,s4.q3)))) λs5=>.need (0<=(4:Int)/\(4:Int)<(s5.1.size:Int)) (.ite ((zd s5.1 (4:Int))==105) (.ite (decide (x.2.N_>=(0:Int))) (.leaf (decide (x.2.N_<=(2147483647:Int)))) (.leaf false)) (.ite ((zd s5.1 (4:Int))==112) (.call (k67 n) (x.1,x.2.N_,s5.2.2) λ(y10:Bool)=>.leaf y10) (.ite ((zd s5.1 (4:Int))==115) (.ite (decide (x.2.N_>=(0:Int))) (.ite (decide (x.2.N_<(x.1.e_.length:Int))) (.bnd (idx x.1.e_ x.2.N_) λy11=>.leaf (y11.s_.j_==s5.2.1&&(y11.s_.n_==s5.2.2&&true))) (.leaf false)) (.leaf false)) (.ite ((zd s5.1 (4:Int))==113) (.ite (decide (x.2.N_>=(0:Int))) (.leaf (decide (x.2.N_<(x.1.f_.length:Int)))) (.leaf false)) (.leaf (x.2.N_==0))))))))
def k59 (n:Nat):Con P_ Ty_:=zj (X:=Yai) (R:=Bool) (pro:=[]) (ym5 n) 69 ym6 (λx=>.two .no (.two .no (.two (.join (Yam) (y2f x) ⟨[(2,.ref 2),(3,.ref 3),(5,.any),(32,.any)],[(2,.any),(3,.any)]⟩ .no .no) (.two .no (.join (Yaz) (y2g x) ⟨[(2,.ref 2),(3,.ref 3),(5,.any),(7,.ref 7)],[(2,.any),(3,.any),(7,.any)]⟩ .no (.two (.join (Ycb) (y2h x) ⟨[(2,.ref 2),(3,.ref 3),(5,.any),(7,.ref 7),(81,.any)],[(2,.any),(3,.any),(7,.any)]⟩ .no .no) (.two .no (.join (Yaz) (y2j x) ⟨[(2,.ref 2),(3,.ref 3),(5,.any),(8,.ref 8)],[(2,.any),(3,.any),(8,.any)]⟩ (.join (Ycb) (y2i x) ⟨[(2,.ref 2),(3,.ref 3),(5,.any),(8,.ref 8),(90,.any)],[(2,.any),(3,.any),(8,.any)]⟩ .no .no) .no)))))))) [.ag [.im 1,.im 2,.im 3,.im 4],.ag [.any,.any,.any,.any,.any,.any,.any]] [] [] ⟨[(4,.any)],[]⟩ [] true (λx=>[.ag [.im 1 x.1.f_,.im 2 x.1.a_,.im 3 x.1.e_,.im 4 x.1.d_],.ag [I_ x.2.c_,I_ x.2.D_,I_ x.2.A_,I_ x.2.B_,I_ x.2.C_,I_ x.2.N_,.sc (.int .u32 x.2.m_)]]) (λx=>[]) (λy=>([(4,B_ y)],[])) (λy=>B_ y) (λy=>[]) (y90 n)
def yl5 (n:Nat):Cx P_ Ty_:=⟨[],[],[],[]⟩
abbrev yl6:List (List Nat):=[[0],[2]]
def y7l (n:Nat)(x:Int):Pt P_ Ty_ [] Bool:=.ite (decide (x>=(3:Int))) (.leaf (decide (x<=(15:Int)))) (.leaf false)
def k14 (n:Nat):Con P_ Ty_:=zj (X:=Int) (R:=Bool) (pro:=[]) (yl5 n) 85 yl6 (λx=>.no) [.any] [] [] ⟨[(2,.any)],[]⟩ [] true (λx=>[I_ x]) (λx=>[]) (λy=>([(2,B_ y)],[])) (λy=>B_ y) (λy=>[]) (y7l n)
def ym7 (n:Nat):Cx P_ Ty_:=⟨[k14 n],[],[],[]⟩
abbrev ym8:List (List Nat):=[[2,3],[2,3,5],[2,3,5,6],[2,3,5,6],[2,3,5,6],[2,3,5,6],[2,5],[2,3,5,21],[2,3,5,21],[2,5],[2,5,47],[4],[4]]
def y2k (x:Yai)(p:Bool):EH Ty_:=([(2,.pt 2 [] 0 0),(3,.pt 3 [] 0 0),(5,I_ (-1:Int)),(6,B_ p)],[(2,.lit 4 [[.im 1 x.1.f_,.im 2 x.1.a_,.im 3 x.1.e_,.im 4 x.1.d_]]),(3,.lit 7 [[I_ x.2.c_,I_ x.2.D_,I_ x.2.A_,I_ x.2.B_,I_ x.2.C_,I_ x.2.N_,.sc (.int .u32 x.2.m_)]])])
def y2l (x:Yai)(p:Bool):EH Ty_:=([(2,.pt 2 [] 0 0),(3,.pt 3 [] 0 0),(5,I_ (-1:Int)),(21,B_ p)],[(2,.lit 4 [[.im 1 x.1.f_,.im 2 x.1.a_,.im 3 x.1.e_,.im 4 x.1.d_]]),(3,.lit 7 [[I_ x.2.c_,I_ x.2.D_,I_ x.2.A_,I_ x.2.B_,I_ x.2.C_,I_ x.2.N_,.sc (.int .u32 x.2.m_)]])])
def y2m (x:Yai)(p:Int):EH Ty_:=([(2,.pt 2 [] 0 0),(5,I_ p)],[(2,.lit 4 [[.im 1 x.1.f_,.im 2 x.1.a_,.im 3 x.1.e_,.im 4 x.1.d_]])])
def y2n (x:Yai)(p:Yag):EH Ty_:=([(2,.pt 2 [] 0 0),(5,I_ p.1),(47,B_ p.2)],[(2,.lit 4 [[.im 1 x.1.f_,.im 2 x.1.a_,.im 3 x.1.e_,.im 4 x.1.d_]])])
def y91 (n:Nat)(x:Yai):Pt P_ Ty_ [] Int:=.join (S:=Int) (y2m x) (.join (S:=Bool) (y2k x) (.call (k14 n) x.2.c_ λ(y1:Bool)=>.ite y1 (.leaf (.inl true)) (.ite (x.2.c_==29) (.leaf (.inl true)) (.ite (x.2.c_==30) (.leaf (.inl true)) (.leaf (.inl (x.2.c_==32)))))) λs1=>.ite s1 (.leaf (.inl x.2.D_)) (.join (S:=Bool) (y2l x) (.ite (x.2.c_==31) (.leaf (.inl true)) (.leaf (.inl (x.2.c_==33)))) λs2=>.ite s2 (.leaf (.inl x.2.A_)) (.leaf (.inl (-1:Int))))) λs3=>.join (S:=Yag) (y2n x) (.ite (decide (s3<(0:Int))) (.leaf (.inl (s3,true))) (.ite (decide (s3>=(x.1.a_.length:Int))) (.leaf (.inl (s3,true))) (.bnd (idx x.1.a_ s3) λy2=>.leaf (.inl (s3,(y2.j_ != (3:Int))))))) λs4=>.ite s4.2 (.leaf (-1:Int)) (.bnd (idx x.1.a_ s4.1) λy3=>.leaf y3.n_)
def k60 (n:Nat):Con P_ Ty_:=zj (X:=Yai) (R:=Int) (pro:=[]) (ym7 n) 70 ym8 (λx=>.two .no (.two .no (.join Int (y2m x) ⟨[(2,.ref 2),(5,.any)],[(2,.any)]⟩ (.two (.join Bool (y2k x) ⟨[(2,.ref 2),(3,.ref 3),(5,.any),(6,.any)],[(2,.any),(3,.any)]⟩ .no (.two .no (.join Bool (y2l x) ⟨[(2,.ref 2),(3,.ref 3),(5,.any),(21,.any)],[(2,.any),(3,.any)]⟩ .no .no))) .no) (.two (.join (Yag) (y2n x) ⟨[(2,.ref 2),(5,.any),(47,.any)],[(2,.any)]⟩ .no .no) .no)))) [.ag [.im 1,.im 2,.im 3,.im 4],.ag [.any,.any,.any,.any,.any,.any,.any]] [] [] ⟨[(4,.any)],[]⟩ [] true (λx=>[.ag [.im 1 x.1.f_,.im 2 x.1.a_,.im 3 x.1.e_,.im 4 x.1.d_],.ag [I_ x.2.c_,I_ x.2.D_,I_ x.2.A_,I_ x.2.B_,I_ x.2.C_,I_ x.2.N_,.sc (.int .u32 x.2.m_)]]) (λx=>[]) (λy=>([(4,I_ y)],[])) (λy=>I_ y) (λy=>[]) (y91 n)
def y7f (n:Nat):Cx P_ Ty_:=⟨[k27 n],[(20,false,6),(38,false,6),(39,false,6)],[],[]⟩
abbrev y7g:List (List Nat):=[[1],[1,3],[1,3,4,5],[3,4,5,6],[3,4,5,6,7],[3,4,5,6,7,25],[3,4,5,6,7,32],[3,4,5,6,7],[3,4,5,6,7],[2]]
def zyl (x:Xd)(v1:Yam)(q1:Yab)(p:Bool):EH Ty_:=([(3,.sw 600001 []),(4,.sc (.string v1.1)),(5,B_ v1.2),(6,.sw 20 []),(7,I_ q1.1),(25,B_ p)],[(600001,.typ false 6 q1.2),(20,.typ false 6 ([x.A_,x.B_,x.C_]:List Int))])
def zym (n:Nat)(x:Xd)(v1:Yam)(q1:Yab):Pt P_ Ty_ [] (Bo (Yab) (Yab) Empty):=.join (S:=Bool) (zyl x v1 q1) (.ite v1.2 (.leaf (.inl (decide (q1.1<(3:Int))))) (.leaf (.inl false))) λs1=>.ite s1 (.need (0<=(i64.wrap (q1.1+(1:Int)))/\(i64.wrap (q1.1+(1:Int)))<(v1.1.size:Int)) (.ite ((zd v1.1 (i64.wrap (q1.1+(1:Int)))) != (45:Int)) (.need (0<=q1.1/\q1.1<(([x.A_,x.B_,x.C_]:List Int).length:Int)) (.bnd (([x.A_,x.B_,x.C_]:List Int)[q1.1.toNat]?) λy2=>.need ((q1.2.length+([y2]:List Int).length) * 8<=140737488355328) (.leaf (.go ((i64.wrap (q1.1+(1:Int))),(q1.2++([y2]:List Int))))))) (.leaf (.go ((i64.wrap (q1.1+(1:Int))),q1.2))))) (.leaf (.out (q1.1,q1.2)))
def zyk (n:Nat)(x:Xd)(v1:Yam):z15 P_ Ty_ []:=z1d (X:=Yab) (Y:=Yab) (Z:=Empty) (y7f n) (z16 [1,1,1,1,0,1,0,0] (fnC P_ 71 y7g)) (λq1=>.two (.join Bool (zyl x v1 q1) ⟨[(3,.ref 600001),(4,.any),(5,.any),(6,.ref 20),(7,.any),(25,.any)],[(600001,.any),(20,.any)]⟩ .no .no) .no) 0 false ⟨[(3,.own 600001 false 6),(4,.any),(5,.any),(6,.ref 20),(7,.any)],[(600001,.any),(20,.any)]⟩ ⟨[(3,.ref 600001),(4,.any),(5,.any),(6,.ref 20),(7,.any),(25,.any)],[(600001,.any),(20,.any)]⟩ ⟨[],[]⟩ (λq1=>([(3,.sw 600001 []),(4,.sc (.string v1.1)),(5,B_ v1.2),(6,.sw 20 []),(7,I_ q1.1)],[(600001,.typ false 6 q1.2),(20,.typ false 6 ([x.A_,x.B_,x.C_]:List Int))])) (λp=>([(3,.sw 600001 []),(4,.sc (.string v1.1)),(5,B_ v1.2),(6,.sw 20 []),(7,I_ p.1),(25,B_ false)],[(600001,.typ false 6 p.2),(20,.typ false 6 ([x.A_,x.B_,x.C_]:List Int))])) (λp=>nomatch p) n (zym n x v1)
def y7h (n:Nat)(x:Xd):Pt P_ Ty_ [] (List Int):=.call (k27 n) x.c_ λ(y1:Yam)=>.loop (V:=Yam) (zyk n x) (y1.1,y1.2) ((0:Int),([]:List Int)) λ(v1:Yam) (y3:Yab)=>.leaf y3.2
def k10 (n:Nat):Con P_ Ty_:=zj (X:=Xd) (R:=(List Int)) (pro:=[]) (y7f n) 71 y7g (λx=>.two .no (.two .no (.two .no (.two .no (.two (.two .no (.two (.loop (Yam) (zyk n x) false ⟨[(3,.own 600001 false 6),(4,.any),(5,.any),(6,.ref 20),(7,.any)],[(600001,.any),(20,.any)]⟩) .no)) .no))))) [.ag [.any,.any,.any,.any,.any,.any,.any]] [] [100000] ⟨[(2,.ref 100000)],[(100000,.any)]⟩ [100000] true (λx=>[.ag [I_ x.c_,I_ x.D_,I_ x.A_,I_ x.B_,I_ x.C_,I_ x.N_,.sc (.int .u32 x.m_)]]) (λx=>[]) (λy=>([(2,.sw 100000 [])],[(100000,.typ false 6 y)])) (λy=>.sw 100000 []) (λy=>[(100000,.typ false 6 y)]) (y7h n)
def y8b (n:Nat):Cx P_ Ty_:=⟨[k59 n,k60 n,k10 n],[],[],[]⟩
abbrev y8c:List (List Nat):=[[2,3,4,5],[2,3,4,5,9],[2,3,5,9,49],[8],[2,3,5,9,10],[2,3,5,9,10,11],[2,3,5,9,10,11,55],[2,3,5,9,10,11,65],[8],[2,3,5,9,10,11],[3,9,67],[3,9,67,68],[3,9,67,68],[8],[3,9,67,74],[8],[9,83],[8],[8]]
def y1q (x:Yba)(p:Bool):EH Ty_:=([(2,.im 5 x.2.2.1),(3,.im 13 x.q3),(4,.pt 4 [] 0 0),(5,.pt 5 [] 0 0),(9,B_ p)],[(4,.lit 4 [[.im 1 x.1.f_,.im 2 x.1.a_,.im 3 x.1.e_,.im 4 x.1.d_]]),(5,.lit 7 [[I_ x.2.1.c_,I_ x.2.1.D_,I_ x.2.1.A_,I_ x.2.1.B_,I_ x.2.1.C_,I_ x.2.1.N_,.sc (.int .u32 x.2.1.m_)]])])
def y1r (x:Yba)(p:Ycc):EH Ty_:=([(2,.im 5 x.2.2.1),(3,.im 13 x.q3),(5,.pt 5 [] 0 0),(9,B_ p.1),(49,B_ p.2)],[(5,.lit 7 [[I_ x.2.1.c_,I_ x.2.1.D_,I_ x.2.1.A_,I_ x.2.1.B_,I_ x.2.1.C_,I_ x.2.1.N_,.sc (.int .u32 x.2.1.m_)]])])
def y1s (x:Yba)(p:Ycc):EH Ty_:=([(3,.im 13 x.q3),(9,B_ p.1),(67,I_ x.2.1.c_),(68,B_ p.2)],[])
def y1t (n:Nat)(x:Yba)(v1:Ybn)(q1:Int):Pt P_ Ty_ [] (Bo Int Int Unit):=.ite (decide (q1<(v1.2.length:Int))) (.need (0<=q1/\q1<(v1.2.length:Int)) (.bnd (v1.2[q1.toNat]?) λy6=>.bnd (idx x.2.2.1 y6) λy7=>.ite (!y7) (.leaf (.ret ())) (.leaf (.go (i64.wrap (q1+(1:Int))))))) (.leaf (.out q1))
def y1p (n:Nat)(x:Yba)(v1:Ybn):z15 P_ Ty_ []:=z1d (X:=Int) (Y:=Int) (Z:=Unit) (y8b n) (z16 [1,1,1,1,0,1,0,0] (fnC P_ 51 y8c)) (λq1=>.no) 0 true ⟨[(2,.im 5),(3,.im 13),(5,.ref 5),(9,.any),(10,.ref 51),(11,.any)],[(5,.any),(51,.any)]⟩ ⟨[(2,.im 5),(3,.im 13),(5,.ref 5),(9,.any),(10,.ref 51),(11,.any),(55,.any)],[(5,.any),(51,.any)]⟩ ⟨[(8,.any)],[]⟩ (λq1=>([(2,.im 5 x.2.2.1),(3,.im 13 x.q3),(5,.pt 5 [] 0 0),(9,B_ v1.1),(10,.sw 51 []),(11,I_ q1)],[(5,.lit 7 [[I_ x.2.1.c_,I_ x.2.1.D_,I_ x.2.1.A_,I_ x.2.1.B_,I_ x.2.1.C_,I_ x.2.1.N_,.sc (.int .u32 x.2.1.m_)]]),(51,.typ false 6 v1.2)])) (λp=>([(2,.im 5 x.2.2.1),(3,.im 13 x.q3),(5,.pt 5 [] 0 0),(9,B_ v1.1),(10,.sw 51 []),(11,I_ p),(55,B_ false)],[(5,.lit 7 [[I_ x.2.1.c_,I_ x.2.1.D_,I_ x.2.1.A_,I_ x.2.1.B_,I_ x.2.1.C_,I_ x.2.1.N_,.sc (.int .u32 x.2.1.m_)]]),(51,.typ false 6 v1.2)])) (λp=>([(8,B_ false)],[])) n (y1t n x v1)
def y8d (n:Nat)(x:Yba):Pt P_ Ty_ [] Bool:=.join (S:=Bool) (y1q x) (.ite (decide ((x.q3.length:Int) > (0:Int))) (.bnd (idx x.q3 (i64.wrap ((x.q3.length:Int) - (1:Int)))) λy1=>.leaf (.inl (y1.c_==36))) (.leaf (.inl false))) λs1=>.join (S:=Ycc) (y1r x) (.call (k59 n) (x.1,x.2.1) λ(y2:Bool)=>.ite (!y2) (.leaf (.inl (s1,true))) (.ite s1 (.ite (x.2.1.c_ != (37:Int)) (.call (k60 n) (x.1,x.2.1) λ(y3:Int)=>.bnd (idx x.q3 (i64.wrap ((x.q3.length:Int) - (1:Int)))) λy4=>.leaf (.inl (s1,(y3 != y4.n_)))) (.leaf (.inl (s1,false)))) (.leaf (.inl (s1,false))))) λs2=>.ite s2.2 (.leaf false) (.call (k10 n) x.2.1 λ(y5:(List Int))=>.loopR (V:=Ybn) (y1p n x) (s2.1,y5) (0:Int) (λ(v1:Ybn) (y8:Int)=>.join (S:=Ycc) (y1s x) (.ite (x.2.1.c_==34) (.leaf (.inl (v1.1,true))) (.leaf (.inl (v1.1,(x.2.1.c_==36))))) λs3=>.ite s3.2 (.leaf (decide ((x.q3.length:Int)<(64:Int)))) (.ite (x.2.1.c_==35) (.ite (decide ((x.q3.length:Int) > (0:Int))) (.leaf (!s3.1)) (.leaf false)) (.ite (x.2.1.c_==37) (.leaf s3.1) (.leaf true)))) λ(v1:Ybn) (z1:Unit)=>.leaf false)
def k41 (n:Nat):Con P_ Ty_:=zj (X:=Yba) (R:=Bool) (pro:=[]) (y8b n) 51 y8c (λx=>.two .no (.join Bool (y1q x) ⟨[(2,.im 5),(3,.im 13),(4,.ref 4),(5,.ref 5),(9,.any)],[(4,.any),(5,.any)]⟩ .no (.two (.join (Ycc) (y1r x) ⟨[(2,.im 5),(3,.im 13),(5,.ref 5),(9,.any),(49,.any)],[(5,.any)]⟩ .no .no) (.two .no (.two (.two .no (.two (.loop (Ybn) (y1p n x) true ⟨[(2,.im 5),(3,.im 13),(5,.ref 5),(9,.any),(10,.ref 51),(11,.any)],[(5,.any),(51,.any)]⟩) .no)) (.two (.two .no (.two (.join (Ycc) (y1s x) ⟨[(3,.im 13),(9,.any),(67,.any),(68,.any)],[]⟩ .no .no) .no)) .no)))))) [.ag [.im 1,.im 2,.im 3,.im 4],.ag [.any,.any,.any,.any,.any,.any,.any],.im 5,.im 13] [] [] ⟨[(8,.any)],[]⟩ [] true (λx=>[.ag [.im 1 x.1.f_,.im 2 x.1.a_,.im 3 x.1.e_,.im 4 x.1.d_],.ag [I_ x.2.1.c_,I_ x.2.1.D_,I_ x.2.1.A_,I_ x.2.1.B_,I_ x.2.1.C_,I_ x.2.1.N_,.sc (.int .u32 x.2.1.m_)],.im 5 x.2.2.1,.im 13 x.q3]) (λx=>[]) (λy=>([(8,B_ y)],[])) (λy=>B_ y) (λy=>[]) (y8d n)
def ylr (n:Nat):Cx P_ Ty_:=⟨[],[(6,false,5)],[],[]⟩
abbrev yls:List (List Nat):=[[0],[0,3],[2]]
def y8e (n:Nat)(x:(List Bool)):Pt P_ Ty_ [] (List Bool):=.need (x.length * 1<=140737488355328) (.leaf x)
def k42 (n:Nat):Con P_ Ty_:=zj (X:=(List Bool)) (R:=(List Bool)) (pro:=[]) (ylr n) 52 yls (λx=>.no) [.im 5] [] [100000] ⟨[(2,.ref 100000)],[(100000,.any)]⟩ [100000] true (λx=>[.im 5 x]) (λx=>[]) (λy=>([(2,.sw 100000 [])],[(100000,.typ false 5 y)])) (λy=>.sw 100000 []) (λy=>[(100000,.typ false 5 y)]) (y8e n)
def yl1 (n:Nat):Cx P_ Ty_:=⟨[k27 n],[],[],[]⟩
abbrev yl2:List (List Nat):=[[1],[3,4],[2]]
def y7j (n:Nat)(x:Xd):Pt P_ Ty_ [] Bool:=.call (k27 n) x.c_ λ(y1:Yam)=>.ite y1.2 (.need (0<=(0:Int)/\(0:Int)<(y1.1.size:Int)) (.leaf ((zd y1.1 (0:Int)) != (45:Int)))) (.leaf false)
def k12 (n:Nat):Con P_ Ty_:=zj (X:=Xd) (R:=Bool) (pro:=[]) (yl1 n) 32 yl2 (λx=>.no) [.ag [.any,.any,.any,.any,.any,.any,.any]] [] [] ⟨[(2,.any)],[]⟩ [] true (λx=>[.ag [I_ x.c_,I_ x.D_,I_ x.A_,I_ x.B_,I_ x.C_,I_ x.N_,.sc (.int .u32 x.m_)]]) (λx=>[]) (λy=>([(2,B_ y)],[])) (λy=>B_ y) (λy=>[]) (y7j n)
def zje (n:Nat):Cx P_ Ty_:=⟨[k38 n,k39 n,k40 n,k41 n,k42 n,k12 n],[(75,false,5),(76,false,5),(113,true,13),(114,true,13)],[113],[]⟩
abbrev zjf:List (List Nat):=[[1],[1,4],[1,4,15],[2,3],[1,19],[2,3],[1,30],[2,3],[1,5],[1,5,39],[1,5,50],[2,3],[1,5],[1,6],[1,6,55],[1,6,66],[2,3],[1,6],[1,7],[1,7,8],[1,7,8,71],[1,7,8],[1,7,8],[1,7,9],[1,7,9,10],[1,7,9,10,81],[1,7,9,10,11],[1,7,9,10,11,94],[2,3],[1,7,9,10,11,96],[1,7,9,10],[1,7,9,10,11,115],[1,7,9,10],[1,7,9,10],[1,7,9,10,11,132],[1,7,9,10],[1,7,9,10,11,141],[1,7,9,10],[1,7,9,10],[1,150],[2,3],[2,3]]
def zzn (x:Xe)(p:Bool):EH Ty_:=([(1,.pt 1 [] 0 0),(19,B_ p)],[(1,.lit 4 [[.im 1 x.f_,.im 2 x.a_,.im 3 x.e_,.im 4 x.d_]])])
def zzo (x:Xe)(v4:Unit)(q4:Ybb)(p:Ycz):EH Ty_:=([(1,.pt 1 [] 0 0),(7,.sw 600002 []),(9,.sw 600003 []),(10,I_ q4.1),(11,.pt 11 [] 0 0),(96,B_ p.1)],[(1,.lit 4 [[.im 1 x.f_,.im 2 x.a_,.im 3 x.e_,.im 4 x.d_]]),(600002,.typ false 5 q4.2.1),(600003,.typ true 13 q4.2.2),(11,.lit 7 [[I_ p.2.1,I_ p.2.2.1,I_ p.p3,I_ p.p4,I_ p.p5,I_ p.p6,.sc (.int .u32 p.q7)]])])
def zzp (n:Nat)(x:Xe)(v1:Unit)(q1:Int):Pt P_ Ty_ [] (Bo Int Int Unit):=.ite (decide (q1<(x.a_.length:Int))) (.bnd (idx x.a_ q1) λy2=>.call (k39 n) (y2,x.f_) λ(y3:Bool)=>.ite (!y3) (.leaf (.ret ())) (.leaf (.go (i64.wrap (q1+(1:Int)))))) (.leaf (.out q1))
def zzj (n:Nat)(x:Xe)(v1:Unit):z15 P_ Ty_ []:=z1d (X:=Int) (Y:=Int) (Z:=Unit) (zje n) (z16 [1,1,1,0,1,0,0] (fnC P_ 26 zjf)) (λq1=>.no) 1 true ⟨[(1,.ref 1),(5,.any)],[(1,.any)]⟩ ⟨[(1,.ref 1),(5,.any),(39,.any)],[(1,.any)]⟩ ⟨[(2,.any),(3,.any)],[]⟩ (λq1=>([(1,.pt 1 [] 0 0),(5,I_ q1)],[(1,.lit 4 [[.im 1 x.f_,.im 2 x.a_,.im 3 x.e_,.im 4 x.d_]])])) (λp=>([(1,.pt 1 [] 0 0),(5,I_ p),(39,B_ false)],[(1,.lit 4 [[.im 1 x.f_,.im 2 x.a_,.im 3 x.e_,.im 4 x.d_]])])) (λp=>([(2,I_ (160:Int)),(3,I_ (-1:Int))],[])) n (zzp n x v1)
def zzq (n:Nat)(x:Xe)(v2:Unit)(q2:Int):Pt P_ Ty_ [] (Bo Int Int Unit):=.ite (decide (q2<(x.e_.length:Int))) (.bnd (idx x.e_ q2) λy5=>.call (k40 n) (y5,x.f_) λ(y6:Bool)=>.ite (!y6) (.leaf (.ret ())) (.leaf (.go (i64.wrap (q2+(1:Int)))))) (.leaf (.out q2))
def zzk (n:Nat)(x:Xe)(v2:Unit):z15 P_ Ty_ []:=z1d (X:=Int) (Y:=Int) (Z:=Unit) (zje n) (z16 [1,1,1,1,0,1,0,0] (fnC P_ 26 zjf)) (λq2=>.no) 3 true ⟨[(1,.ref 1),(6,.any)],[(1,.any)]⟩ ⟨[(1,.ref 1),(6,.any),(55,.any)],[(1,.any)]⟩ ⟨[(2,.any),(3,.any)],[]⟩ (λq2=>([(1,.pt 1 [] 0 0),(6,I_ q2)],[(1,.lit 4 [[.im 1 x.f_,.im 2 x.a_,.im 3 x.e_,.im 4 x.d_]])])) (λp=>([(1,.pt 1 [] 0 0),(6,I_ p),(55,B_ false)],[(1,.lit 4 [[.im 1 x.f_,.im 2 x.a_,.im 3 x.e_,.im 4 x.d_]])])) (λp=>([(2,I_ (160:Int)),(3,I_ (-1:Int))],[])) n (zzq n x v2)
def zzr (n:Nat)(x:Xe)(v3:Unit)(q3:Yac):Pt P_ Ty_ [] (Bo (Yac) (Yac) Empty):=.ite (decide (q3.1<(x.a_.length:Int))) (.need ((q3.2.length+([false]:List Bool).length) * 1<=140737488355328) (.leaf (.go ((i64.wrap (q3.1+(1:Int))),(q3.2++([false]:List Bool)))))) (.leaf (.out (q3.1,q3.2)))
def zzl (n:Nat)(x:Xe)(v3:Unit):z15 P_ Ty_ []:=z1d (X:=Yac) (Y:=Yac) (Z:=Empty) (zje n) (z16 [1,1,1,1,1,1,0,1,0,0] (fnC P_ 26 zjf)) (λq3=>.no) 5 false ⟨[(1,.ref 1),(7,.own 600001 false 5),(8,.any)],[(1,.any),(600001,.any)]⟩ ⟨[(1,.ref 1),(7,.ref 600001),(8,.any),(71,.any)],[(1,.any),(600001,.any)]⟩ ⟨[],[]⟩ (λq3=>([(1,.pt 1 [] 0 0),(7,.sw 600001 []),(8,I_ q3.1)],[(1,.lit 4 [[.im 1 x.f_,.im 2 x.a_,.im 3 x.e_,.im 4 x.d_]]),(600001,.typ false 5 q3.2)])) (λp=>([(1,.pt 1 [] 0 0),(7,.sw 600001 []),(8,I_ p.1),(71,B_ false)],[(1,.lit 4 [[.im 1 x.f_,.im 2 x.a_,.im 3 x.e_,.im 4 x.d_]]),(600001,.typ false 5 p.2)])) (λp=>nomatch p) n (zzr n x v3)
def zzs (n:Nat)(x:Xe)(v4:Unit)(q4:Ybb):Pt P_ Ty_ [] (Bo (Ybb) (Ybb) Int):=.ite (decide (q4.1<(x.d_.length:Int))) (.bnd (idx x.d_ q4.1) λy9=>.call (k41 n) (x,y9,q4.2.1,q4.2.2) λ(y10:Bool)=>.ite (!y10) (.leaf (.ret q4.1)) (.join (S:=Ycz) (zzo x v4 q4) (.ite (y9.c_==34) (.leaf (.inl (true,y9.c_,y9.D_,y9.A_,y9.B_,y9.C_,y9.N_,y9.m_))) (.leaf (.inl ((y9.c_==36),y9.c_,y9.D_,y9.A_,y9.B_,y9.C_,y9.N_,y9.m_)))) λs2=>.ite s2.1 (.call (k42 n) q4.2.1 λ(y11:(List Bool))=>.need ((q4.2.2.length+([(⟨s2.2.1,s2.p6,y11⟩:Xi)]:List Xi).length) * 40<=140737488355328) (.leaf (.go ((i64.wrap (q4.1+(1:Int))),q4.2.1,(q4.2.2++([(⟨s2.2.1,s2.p6,y11⟩:Xi)]:List Xi)))))) (.ite (s2.2.1==35) (.need (0<=(i64.wrap ((q4.2.2.length:Int) - (1:Int)))/\(i64.wrap ((q4.2.2.length:Int) - (1:Int)))<(q4.2.2.length:Int)) (.bnd (q4.2.2[(i64.wrap ((q4.2.2.length:Int) - (1:Int))).toNat]?) λy12=>.bnd (q4.2.2[(i64.wrap ((q4.2.2.length:Int) - (1:Int))).toNat]?) λy13=>.call (k42 n) y13.G_ λ(y14:(List Bool))=>.need (0<=(i64.wrap ((q4.2.2.length:Int) - (1:Int)))/\(i64.wrap ((q4.2.2.length:Int) - (1:Int)))<=(q4.2.2.length:Int)) (.need ((i64.wrap ((q4.2.2.length:Int) - (1:Int))).toNat<=q4.2.2.length) (.leaf (.go ((i64.wrap (q4.1+(1:Int))),y14,(q4.2.2.take ((i64.wrap ((q4.2.2.length:Int) - (1:Int))).toNat)))))))) (.ite (s2.2.1==37) (.need (0<=(i64.wrap ((q4.2.2.length:Int) - (1:Int)))/\(i64.wrap ((q4.2.2.length:Int) - (1:Int)))<=(q4.2.2.length:Int)) (.need ((i64.wrap ((q4.2.2.length:Int) - (1:Int))).toNat<=q4.2.2.length) (.leaf (.go ((i64.wrap (q4.1+(1:Int))),q4.2.1,(q4.2.2.take ((i64.wrap ((q4.2.2.length:Int) - (1:Int))).toNat))))))) (.call (k12 n) (⟨s2.2.1,s2.2.2.1,s2.p3,s2.p4,s2.p5,s2.p6,s2.q7⟩:Xd) λ(y15:Bool)=>.ite y15 (.need (0<=s2.2.2.1/\s2.2.2.1<(q4.2.1.length:Int)) (.bnd (q4.2.1[s2.2.2.1.toNat]?) λy16=>.leaf (.go ((i64.wrap (q4.1+(1:Int))),(q4.2.1.set s2.2.2.1.toNat true),q4.2.2)))) (.leaf (.go ((i64.wrap (q4.1+(1:Int))),q4.2.1,q4.2.2)))))))) (.leaf (.out (q4.1,q4.2.1,q4.2.2)))
def zzm (n:Nat)(x:Xe)(v4:Unit):z15 P_ Ty_ []:=z1d (X:=Ybb) (Y:=Ybb) (Z:=Int) (zje n) (z16 [1,1,1,1,1,1,1,1,0,1,0,0] (fnC P_ 26 zjf)) (λq4=>.two .no (.two (.two (.two .no (.two .no (.two (.join (Ycz) (zzo x v4 q4) ⟨[(1,.ref 1),(7,.ref 600002),(9,.ref 600003),(10,.any),(11,.ref 11),(96,.any)],[(1,.any),(600002,.any),(600003,.any),(11,.any)]⟩ .no .no) .no))) .no) .no)) 7 true ⟨[(1,.ref 1),(7,.ref 600002),(9,.own 600003 true 13),(10,.any)],[(1,.any),(600002,.any),(600003,.any)]⟩ ⟨[(1,.ref 1),(7,.ref 600002),(9,.ref 600003),(10,.any),(81,.any)],[(1,.any),(600002,.any),(600003,.any)]⟩ ⟨[(2,.any),(3,.any)],[]⟩ (λq4=>([(1,.pt 1 [] 0 0),(7,.sw 600002 []),(9,.sw 600003 []),(10,I_ q4.1)],[(1,.lit 4 [[.im 1 x.f_,.im 2 x.a_,.im 3 x.e_,.im 4 x.d_]]),(600002,.typ false 5 q4.2.1),(600003,.typ true 13 q4.2.2)])) (λp=>([(1,.pt 1 [] 0 0),(7,.sw 600002 []),(9,.sw 600003 []),(10,I_ p.1),(81,B_ false)],[(1,.lit 4 [[.im 1 x.f_,.im 2 x.a_,.im 3 x.e_,.im 4 x.d_]]),(600002,.typ false 5 p.2.1),(600003,.typ true 13 p.2.2)])) (λp=>([(2,I_ (160:Int)),(3,I_ p)],[])) n (zzs n x v4)
def y7p (n:Nat)(x:Xe):Pt P_ Ty_ [] (Yaa):=.call (k38 n) x.f_ λ(y1:Int)=>.ite (y1 != (0:Int)) (.leaf (y1,(-1:Int))) (.join (S:=Bool) (zzn x) (.ite (decide ((x.a_.length:Int) > (16384:Int))) (.leaf (.inl true)) (.leaf (.inl (decide ((x.d_.length:Int) > (32768:Int)))))) λs1=>.ite s1 (.leaf ((181:Int),(-1:Int))) (.ite (decide ((x.e_.length:Int) > (4096:Int))) (.leaf ((180:Int),(-1:Int))) (.loopR (V:=Unit) (zzj n x) () (0:Int) (λ(v1:Unit) (y4:Int)=>.loopR (V:=Unit) (zzk n x) () (0:Int) (λ(v2:Unit) (y7:Int)=>.loop (V:=Unit) (zzl n x) () ((0:Int),([]:List Bool)) λ(v3:Unit) (y8:Yac)=>.loopR (V:=Unit) (zzm n x) () ((0:Int),y8.2,([]:List Xi)) (λ(v4:Unit) (y17:Ybb)=>.ite (decide ((y17.2.2.length:Int) > (0:Int))) (.leaf ((160:Int),(x.d_.length:Int))) (.leaf ((0:Int),(0:Int)))) λ(v4:Unit) (z3:Int)=>.leaf ((160:Int),z3)) λ(v2:Unit) (z2:Unit)=>.leaf ((160:Int),(-1:Int))) λ(v1:Unit) (z1:Unit)=>.leaf ((160:Int),(-1:Int)))))
def k21 (n:Nat):Con P_ Ty_:=zj (X:=Xe) (R:=Yaa) (pro:=[]) (zje n) 26 zjf (λx=>.two .no (.two .no (.two (.two (.two .no (.two .no (.join Bool (zzn x) ⟨[(1,.ref 1),(19,.any)],[(1,.any)]⟩ .no .no))) .no) (.two (.two .no (.two (.loop Unit (zzj n x) true ⟨[(1,.ref 1),(5,.any)],[(1,.any)]⟩) .no)) (.two (.two .no (.two (.loop Unit (zzk n x) true ⟨[(1,.ref 1),(6,.any)],[(1,.any)]⟩) .no)) (.two .no (.two (.two .no (.two (.loop Unit (zzl n x) false ⟨[(1,.ref 1),(7,.own 600001 false 5),(8,.any)],[(1,.any),(600001,.any)]⟩) .no)) (.two .no (.two (.two .no (.two (.loop Unit (zzm n x) true ⟨[(1,.ref 1),(7,.ref 600002),(9,.own 600003 true 13),(10,.any)],[(1,.any),(600002,.any),(600003,.any)]⟩) .no)) .no))))))))) [.ag [.im 1,.im 2,.im 3,.im 4]] [] [] ⟨[(2,.any),(3,.any)],[]⟩ [] true (λx=>[.ag [.im 1 x.f_,.im 2 x.a_,.im 3 x.e_,.im 4 x.d_]]) (λx=>[]) (λy=>([(2,I_ y.1),(3,I_ y.2)],[])) (λy=>.tu [I_ y.1,I_ y.2]) (λy=>[]) (y7p n)
def yex (n:Nat):Cx P_ Ty_:=⟨[],[],[],[]⟩
abbrev yey:List (List Nat):=[[2,3],[2,3,7],[4],[4]]
def yez (n:Nat)(x:Xe×Xb):Pt P_ Ty_ [] Int:=.ite (x.2.j_==3) (.bnd (idx x.1.f_ x.2.n_) λy1=>.leaf y1.r_) (.leaf (1:Int))
def zi1 (n:Nat):Con P_ Ty_:=zj (X:=Xe×Xb) (R:=Int) (pro:=[]) (yex n) 73 yey (λx=>.no) [.ag [.im 1,.im 2,.im 3,.im 4],.ag [.any,.any]] [] [] ⟨[(4,.any)],[]⟩ [] true (λx=>[.ag [.im 1 x.1.f_,.im 2 x.1.a_,.im 3 x.1.e_,.im 4 x.1.d_],.ag [I_ x.2.j_,I_ x.2.n_]]) (λx=>[]) (λy=>([(4,I_ y)],[])) (λy=>I_ y) (λy=>[]) (yez n)
def yf4 (n:Nat):Cx P_ Ty_:=⟨[],[],[],[]⟩
abbrev yf5:List (List Nat):=[[0],[2]]
def yf6 (n:Nat)(x:Int):Pt P_ Ty_ [] Bool:=.leaf (decide ((x.tmod (2147483648:Int)) > (2139095040:Int)))
def yio (n:Nat):Con P_ Ty_:=zj (X:=Int) (R:=Bool) (pro:=[]) (yf4 n) 99 yf5 (λx=>.no) [.any] [] [] ⟨[(2,.any)],[]⟩ [] true (λx=>[I_ x]) (λx=>[]) (λy=>([(2,B_ y)],[])) (λy=>B_ y) (λy=>[]) (yf6 n)
def yf1 (n:Nat):Cx P_ Ty_:=⟨[yio n],[],[],[]⟩
abbrev yf2:List (List Nat):=[[0],[0,4],[2],[2]]
def yf3 (n:Nat)(x:Int):Pt P_ Ty_ [] Int:=.call (yio n) x λ(y1:Bool)=>.ite y1 (.leaf (2143289344:Int)) (.leaf x)
def zkw (n:Nat):Con P_ Ty_:=zj (X:=Int) (R:=Int) (pro:=[]) (yf1 n) 86 yf2 (λx=>.no) [.any] [] [] ⟨[(2,.any)],[]⟩ [] true (λx=>[I_ x]) (λx=>[]) (λy=>([(2,I_ y)],[])) (λy=>I_ y) (λy=>[]) (yf3 n)
def zyr (n:Nat):Cx P_ Ty_:=⟨[zkw n],[(22,false,6),(23,false,6)],[],[]⟩
abbrev zys:List (List Nat):=[[0,1],[0,1,13],[4,5],[0,1,6],[0,1,6,7],[0,1,6,7,16],[0,1,6,7],[0,1,6,7],[4,5]]
def zrs (x:Yaa)(p:Bool):EH Ty_:=([(0,I_ x.1),(1,I_ x.2),(13,B_ p)],[])
def yap (n:Nat)(x:Yaa)(v1:Unit)(q1:Yab):Pt P_ Ty_ [] (Bo (Yab) (Yab) Empty):=.ite (decide (q1.1<x.1)) (.call (zkw n) x.2 λ(y1:Int)=>.need ((q1.2.length+([y1]:List Int).length) * 8<=140737488355328) (.leaf (.go ((i64.wrap (q1.1+(1:Int))),(q1.2++([y1]:List Int)))))) (.leaf (.out (q1.1,q1.2)))
def zrr (n:Nat)(x:Yaa)(v1:Unit):z15 P_ Ty_ []:=z1d (X:=Yab) (Y:=Yab) (Z:=Empty) (zyr n) (z16 [1,1,1,0,1,0,0] (fnC P_ 72 zys)) (λq1=>.no) 0 false ⟨[(0,.any),(1,.any),(6,.own 600001 false 6),(7,.any)],[(600001,.any)]⟩ ⟨[(0,.any),(1,.any),(6,.ref 600001),(7,.any),(16,.any)],[(600001,.any)]⟩ ⟨[],[]⟩ (λq1=>([(0,I_ x.1),(1,I_ x.2),(6,.sw 600001 []),(7,I_ q1.1)],[(600001,.typ false 6 q1.2)])) (λp=>([(0,I_ x.1),(1,I_ x.2),(6,.sw 600001 []),(7,I_ p.1),(16,B_ false)],[(600001,.typ false 6 p.2)])) (λp=>nomatch p) n (yap n x v1)
def yf0 (n:Nat)(x:Yaa):Pt P_ Ty_ [] (Yab):=.join (S:=Bool) (zrs x) (.ite (decide (x.1<(0:Int))) (.leaf (.inl true)) (.leaf (.inl (decide (x.1 > (65536:Int)))))) λs1=>.ite s1 (.leaf ((1:Int),([]:List Int))) (.loop (V:=Unit) (zrr n x) () ((0:Int),([]:List Int)) λ(v1:Unit) (y2:Yab)=>.leaf ((0:Int),y2.2))
def zkv (n:Nat):Con P_ Ty_:=zj (X:=Yaa) (R:=Yab) (pro:=[]) (zyr n) 72 zys (λx=>.two .no (.two (.join Bool (zrs x) ⟨[(0,.any),(1,.any),(13,.any)],[]⟩ .no .no) (.two .no (.two (.two .no (.two (.loop Unit (zrr n x) false ⟨[(0,.any),(1,.any),(6,.own 600001 false 6),(7,.any)],[(600001,.any)]⟩) .no)) .no)))) [.any,.any] [] [100000] ⟨[(4,.own 100000 false 6),(5,.any)],[(100000,.any)]⟩ [100000] true (λx=>[I_ x.1,I_ x.2]) (λx=>[]) (λy=>([(4,.sw 100000 []),(5,I_ y.1)],[(100000,.typ false 6 y.2)])) (λy=>.tu [.sw 100000 [],I_ y.1]) (λy=>[(100000,.typ false 6 y.2)]) (yf0 n)
def yeu (n:Nat):Cx P_ Ty_:=⟨[zi1 n,zkv n],[],[],[]⟩
abbrev yev:List (List Nat):=[[2,3,4],[2,3,4,10],[4],[4,5],[4]]
def yew (n:Nat)(x:Xe×Xc):Pt P_ Ty_ [] (Yau):=.ite (x.2.s_.j_==2) (.leaf (([]:List Int),x.2.u_)) (.call (zi1 n) (x.1,x.2.s_) λ(y1:Int)=>.call (zkv n) (y1,(i64.wrap x.2.m_)) λ(y2:Yab)=>.leaf (y2.2,(0:Int)))
def zwg (n:Nat):Con P_ Ty_:=zj (X:=Xe×Xc) (R:=Yau) (pro:=[]) (yeu n) 53 yev (λx=>.no) [.ag [.im 1,.im 2,.im 3,.im 4],.ag [.any,.any,.any,.any,.any]] [] [] ⟨[(4,.ref 100000)],[(100000,.fix [.im 6,.no])]⟩ [] false (λx=>[.ag [.im 1 x.1.f_,.im 2 x.1.a_,.im 3 x.1.e_,.im 4 x.1.d_],.ag [I_ x.2.s_.j_,I_ x.2.s_.n_,B_ x.2.O_,.sc (.int .u32 x.2.m_),I_ x.2.u_]]) (λx=>[]) (λy=>([(4,.pt 100000 [] 0 0)],[(100000,.lit 2 [[.im 6 y.1,I_ y.2]])])) (λy=>.ag [.im 6 y.1,I_ y.2]) (λy=>[]) (yew n)
def zyp (n:Nat):Cx P_ Ty_:=⟨[k21 n,zwg n],[(35,false,14),(36,false,14)],[],[]⟩
abbrev zyq:List (List Nat):=[[1,2],[1,2,4],[1,2,4,14],[2,3],[1,2,6],[1,2,6,7],[1,2,6,7,23],[1,2,6,7],[1,2,6,7],[2,3]]
def yao (n:Nat)(x:Xe)(v1:Unit)(q1:Yav):Pt P_ Ty_ [] (Bo (Yav) (Yav) Empty):=.ite (decide (q1.1<(x.e_.length:Int))) (.bnd (idx x.e_ q1.1) λy2=>.call (zwg n) (x,y2) λ(y3:Yau)=>.need ((q1.2.length+([(⟨y3.1,y3.2⟩:Xj)]:List Xj).length) * 32<=140737488355328) (.leaf (.go ((i64.wrap (q1.1+(1:Int))),(q1.2++([(⟨y3.1,y3.2⟩:Xj)]:List Xj)))))) (.leaf (.out (q1.1,q1.2)))
def zrq (n:Nat)(x:Xe)(v1:Unit):z15 P_ Ty_ []:=z1d (X:=Yav) (Y:=Yav) (Z:=Empty) (zyp n) (z16 [1,1,1,1,0,1,0,0] (fnC P_ 28 zyq)) (λq1=>.no) 0 false ⟨[(1,.ref 1),(2,.ref 2),(6,.ref 6),(7,.any)],[(1,.any),(2,.any),(6,.fix [.no,.no,.no,.no,.ow false 14])]⟩ ⟨[(1,.ref 1),(2,.ref 2),(6,.ref 6),(7,.any),(23,.any)],[(1,.any),(2,.any),(6,.any)]⟩ ⟨[],[]⟩ (λq1=>([(1,.pt 1 [] 0 0),(2,.pt 2 [] 0 0),(6,.pt 6 [] 0 0),(7,I_ q1.1)],[(1,.lit 4 [[.im 1 x.f_,.im 2 x.a_,.im 3 x.e_,.im 4 x.d_]]),(2,.lit 5 [[.zs,.zs,.zs,.zs,.zs]]),(6,.lit 5 [[.im 1 x.f_,.im 2 x.a_,.im 3 x.e_,.im 4 x.d_,.ow false 14 q1.2]])])) (λp=>([(1,.pt 1 [] 0 0),(2,.pt 2 [] 0 0),(6,.pt 6 [] 0 0),(7,I_ p.1),(23,B_ false)],[(1,.lit 4 [[.im 1 x.f_,.im 2 x.a_,.im 3 x.e_,.im 4 x.d_]]),(2,.lit 5 [[.zs,.zs,.zs,.zs,.zs]]),(6,.lit 5 [[.im 1 x.f_,.im 2 x.a_,.im 3 x.e_,.im 4 x.d_,.ow false 14 p.2]])])) (λp=>nomatch p) n (yao n x v1)
def yet (n:Nat)(x:Xe):Pt P_ Ty_ [] (Ycs):=.call (k21 n) x λ(y1:Yaa)=>.ite (y1.1 != (0:Int)) (.leaf (y1.1,([]:List Xa),([]:List Xb),([]:List Xc),([]:List Xd),([]:List Xj))) (.loop (V:=Unit) (zrq n x) () ((0:Int),([]:List Xj)) λ(v1:Unit) (y4:Yav)=>.leaf ((0:Int),x.f_,x.a_,x.e_,x.d_,y4.2))
def y63 (n:Nat):Con P_ Ty_:=zj (X:=Xe) (R:=Ycs) (pro:=[]) (zyp n) 28 zyq (λx=>.two .no (.two .no (.two .no (.two .no (.two (.two .no (.two (.loop Unit (zrq n x) false ⟨[(1,.ref 1),(2,.ref 2),(6,.ref 6),(7,.any)],[(1,.any),(2,.any),(6,.fix [.no,.no,.no,.no,.ow false 14])]⟩) .no)) .no))))) [.ag [.im 1,.im 2,.im 3,.im 4]] [] [] ⟨[(2,.ref 100000),(3,.any)],[(100000,.fix [.im 1,.im 2,.im 3,.im 4,.im 14])]⟩ [] false (λx=>[.ag [.im 1 x.f_,.im 2 x.a_,.im 3 x.e_,.im 4 x.d_]]) (λx=>[]) (λy=>([(2,.pt 100000 [] 0 0),(3,I_ y.1)],[(100000,.lit 5 [[.im 1 y.2.1,.im 2 y.2.2.1,.im 3 y.p3,.im 4 y.p4,.im 14 y.q5]])])) (λy=>.tu [.ag [.im 1 y.2.1,.im 2 y.2.2.1,.im 3 y.p3,.im 4 y.p4,.im 14 y.q5],I_ y.1]) (λy=>[]) (yet n)
def zyu (n:Nat):Cx P_ Ty_:=⟨[k64 n],[],[],[]⟩
abbrev zyv:List (List Nat):=[[0,1],[0,1,10],[4],[0,1,5],[0,1,5,14],[0,1,5,27],[4],[0,1,5],[4]]
def yat (n:Nat)(x:Yct)(v1:Unit)(q1:Int):Pt P_ Ty_ [] (Bo Int Int Unit):=.ite (decide (q1<(x.1.length:Int))) (.bnd (idx x.2 q1) λy1=>.bnd (idx x.1 q1) λy2=>.call (k64 n) y2 λ(y3:Int)=>.ite ((y1.length:Int) != y3) (.leaf (.ret ())) (.leaf (.go (i64.wrap (q1+(1:Int)))))) (.leaf (.out q1))
def zs2 (n:Nat)(x:Yct)(v1:Unit):z15 P_ Ty_ []:=z1d (X:=Int) (Y:=Int) (Z:=Unit) (zyu n) (z16 [1,1,0,1,0,0] (fnC P_ 74 zyv)) (λq1=>.no) 0 true ⟨[(0,.im 1),(1,.im 11),(5,.any)],[]⟩ ⟨[(0,.im 1),(1,.im 11),(5,.any),(14,.any)],[]⟩ ⟨[(4,.any)],[]⟩ (λq1=>([(0,.im 1 x.1),(1,.im 11 x.2),(5,I_ q1)],[])) (λp=>([(0,.im 1 x.1),(1,.im 11 x.2),(5,I_ p),(14,B_ false)],[])) (λp=>([(4,B_ false)],[])) n (yat n x v1)
def yfb (n:Nat)(x:Yct):Pt P_ Ty_ [] Bool:=.ite ((x.2.length:Int) != (x.1.length:Int)) (.leaf false) (.loopR (V:=Unit) (zs2 n x) () (0:Int) (λ(v1:Unit) (y4:Int)=>.leaf true) λ(v1:Unit) (z1:Unit)=>.leaf false)
def y65 (n:Nat):Con P_ Ty_:=zj (X:=Yct) (R:=Bool) (pro:=[]) (zyu n) 74 zyv (λx=>.two .no (.two .no (.two (.two .no (.two (.loop Unit (zs2 n x) true ⟨[(0,.im 1),(1,.im 11),(5,.any)],[]⟩) .no)) .no))) [.im 1,.im 11] [] [] ⟨[(4,.any)],[]⟩ [] true (λx=>[.im 1 x.1,.im 11 x.2]) (λx=>[]) (λy=>([(4,B_ y)],[])) (λy=>B_ y) (λy=>[]) (yfb n)
def yff (n:Nat):Cx P_ Ty_:=⟨[zi1 n],[],[],[]⟩
abbrev yfg:List (List Nat):=[[2,3],[2,3,5],[2,3,5],[2,3,5],[2,3,5],[4],[2,3,31],[4],[2,3,35],[2,3,35],[2,3,35],[2,3,35],[4],[4]]
def zs8 (x:Yai)(p:Bool):EH Ty_:=([(2,.pt 2 [] 0 0),(3,.pt 3 [] 0 0),(5,B_ p)],[(2,.lit 4 [[.im 1 x.1.f_,.im 2 x.1.a_,.im 3 x.1.e_,.im 4 x.1.d_]]),(3,.lit 7 [[I_ x.2.c_,I_ x.2.D_,I_ x.2.A_,I_ x.2.B_,I_ x.2.C_,I_ x.2.N_,.sc (.int .u32 x.2.m_)]])])
def zs9 (x:Yai)(p:Bool):EH Ty_:=([(2,.pt 2 [] 0 0),(3,.pt 3 [] 0 0),(5,B_ p)],[(2,.lit 4 [[.im 1 x.1.f_,.im 2 x.1.a_,.im 3 x.1.e_,.im 4 x.1.d_]]),(3,.lit 7 [[I_ x.2.c_,I_ x.2.D_,I_ x.2.A_,I_ x.2.B_,I_ x.2.C_,I_ x.2.N_,.sc (.int .u32 x.2.m_)]])])
def zsa (x:Yai)(p:Bool):EH Ty_:=([(2,.pt 2 [] 0 0),(3,.pt 3 [] 0 0),(35,B_ p)],[(2,.lit 4 [[.im 1 x.1.f_,.im 2 x.1.a_,.im 3 x.1.e_,.im 4 x.1.d_]]),(3,.lit 7 [[I_ x.2.c_,I_ x.2.D_,I_ x.2.A_,I_ x.2.B_,I_ x.2.C_,I_ x.2.N_,.sc (.int .u32 x.2.m_)]])])
def yfh (n:Nat)(x:Yai):Pt P_ Ty_ [] Int:=.join (S:=Bool) (zs9 x) (.join (S:=Bool) (zs8 x) (.ite (decide (x.2.c_>=(3:Int))) (.leaf (.inl (decide (x.2.c_<=(15:Int))))) (.leaf (.inl false))) λs1=>.ite s1 (.leaf (.inl true)) (.ite (x.2.c_==29) (.leaf (.inl true)) (.ite (x.2.c_==30) (.leaf (.inl true)) (.leaf (.inl (x.2.c_==32)))))) λs2=>.ite s2 (.bnd (idx x.1.a_ x.2.D_) λy1=>.call (zi1 n) (x.1,y1) λ(y2:Int)=>.leaf y2) (.ite (x.2.c_==16) (.leaf (62:Int)) (.join (S:=Bool) (zsa x) (.ite (x.2.c_==31) (.leaf (.inl true)) (.ite (x.2.c_==33) (.leaf (.inl true)) (.ite (x.2.c_==19) (.leaf (.inl true)) (.leaf (.inl (x.2.c_==20)))))) λs3=>.ite s3 (.bnd (idx x.1.a_ x.2.A_) λy3=>.call (zi1 n) (x.1,y3) λ(y4:Int)=>.leaf y4) (.leaf (1:Int))))
def yis (n:Nat):Con P_ Ty_:=zj (X:=Yai) (R:=Int) (pro:=[]) (yff n) 75 yfg (λx=>.two .no (.two (.two (.join Bool (zs9 x) ⟨[(2,.ref 2),(3,.ref 3),(5,.any)],[(2,.any),(3,.any)]⟩ (.join Bool (zs8 x) ⟨[(2,.ref 2),(3,.ref 3),(5,.any)],[(2,.any),(3,.any)]⟩ .no .no) (.two .no (.two .no (.two .no (.join Bool (zsa x) ⟨[(2,.ref 2),(3,.ref 3),(35,.any)],[(2,.any),(3,.any)]⟩ .no .no))))) .no) .no)) [.ag [.im 1,.im 2,.im 3,.im 4],.ag [.any,.any,.any,.any,.any,.any,.any]] [] [] ⟨[(4,.any)],[]⟩ [] true (λx=>[.ag [.im 1 x.1.f_,.im 2 x.1.a_,.im 3 x.1.e_,.im 4 x.1.d_],.ag [I_ x.2.c_,I_ x.2.D_,I_ x.2.A_,I_ x.2.B_,I_ x.2.C_,I_ x.2.N_,.sc (.int .u32 x.2.m_)]]) (λx=>[]) (λy=>([(4,I_ y)],[])) (λy=>I_ y) (λy=>[]) (yfh n)
def yh0 (n:Nat):Cx P_ Ty_:=⟨[],[],[],[]⟩
abbrev yh1:List (List Nat):=[[0],[3],[3,4],[3,4],[3,4],[3,4],[3,4],[2],[3,10],[3,10],[3,10],[3,10],[3,10],[3,10],[3,10],[2],[18],[2],[2]]
def zsy (x:Int)(p:Bool):EH Ty_:=([(3,I_ x),(4,B_ p)],[])
def zsz (x:Int)(p:Bool):EH Ty_:=([(3,I_ x),(10,B_ p)],[])
def yh2 (n:Nat)(x:Int):Pt P_ Ty_ [] Int:=.join (S:=Bool) (zsy x) (.ite (x==3) (.leaf (.inl true)) (.ite (x==11) (.leaf (.inl true)) (.ite (x==12) (.leaf (.inl true)) (.ite (x==13) (.leaf (.inl true)) (.leaf (.inl (x==14))))))) λs1=>.ite s1 (.leaf (1:Int)) (.join (S:=Bool) (zsz x) (.ite (x==4) (.leaf (.inl true)) (.ite (x==5) (.leaf (.inl true)) (.ite (x==6) (.leaf (.inl true)) (.ite (x==7) (.leaf (.inl true)) (.ite (x==8) (.leaf (.inl true)) (.ite (x==9) (.leaf (.inl true)) (.leaf (.inl (x==10))))))))) λs2=>.ite s2 (.leaf (2:Int)) (.ite (x==15) (.leaf (3:Int)) (.leaf (0:Int))))
def zwj (n:Nat):Con P_ Ty_:=zj (X:=Int) (R:=Int) (pro:=[]) (yh0 n) 101 yh1 (λx=>.two .no (.two (.two .no (.two (.join Bool (zsy x) ⟨[(3,.any),(4,.any)],[]⟩ .no (.two .no (.join Bool (zsz x) ⟨[(3,.any),(10,.any)],[]⟩ .no .no))) .no)) .no)) [.any] [] [] ⟨[(2,.any)],[]⟩ [] true (λx=>[I_ x]) (λx=>[]) (λy=>([(2,I_ y)],[])) (λy=>I_ y) (λy=>[]) (yh2 n)
def yh3 (n:Nat):Cx P_ Ty_:=⟨[],[],[],[]⟩
abbrev yh4:List (List Nat):=[[0,1],[0,1,7],[4],[4]]
def yh5 (n:Nat)(x:Yau):Pt P_ Ty_ [] Int:=.ite ((x.1.length:Int)==1) (.bnd (idx x.1 (0:Int)) λy1=>.leaf y1) (.bnd (idx x.1 x.2) λy2=>.leaf y2)
def yj1 (n:Nat):Con P_ Ty_:=zj (X:=Yau) (R:=Int) (pro:=[]) (yh3 n) 108 yh4 (λx=>.no) [.im 6,.any] [] [] ⟨[(4,.any)],[]⟩ [] true (λx=>[.im 6 x.1,I_ x.2]) (λx=>[]) (λy=>([(4,I_ y)],[])) (λy=>I_ y) (λy=>[]) (yh5 n)
def zzh (n:Nat):Cx P_ Ty_:=⟨[],[],[],[]⟩
abbrev zzi:List (List Nat):=[[1,2],[1,2,5],[1,2],[1,2],[2]]
def yb6 (n:Nat)(x:Xm)(v1:Unit)(q1:Yaa):Pt P_ Ty_ [] (Bo (Yaa) (Yaa) Empty):=.ite (decide (q1.1<(8388608:Int))) (.leaf (.go ((u64.wrap (q1.1 * (2:Int))),(i64.wrap (q1.2 - (1:Int)))))) (.leaf (.out (q1.1,q1.2)))
def zt4 (n:Nat)(x:Xm)(v1:Unit):z15 P_ Ty_ []:=z1d (X:=Yaa) (Y:=Yaa) (Z:=Empty) (zzh n) (z16 [1,0,0,0] (fnC P_ 128 zzi)) (λq1=>.no) 0 false ⟨[(1,.ref 1),(2,.ref 2)],[(1,.any),(2,.any)]⟩ ⟨[(1,.ref 1),(2,.ref 2),(5,.any)],[(1,.any),(2,.any)]⟩ ⟨[],[]⟩ (λq1=>([(1,.pt 1 [] 0 0),(2,.pt 2 [] 0 0)],[(1,.lit 5 [[B_ x.Q_,.sc (.int .u64 q1.1),I_ q1.2,B_ x.S_,B_ x.R_]]),(2,.lit 5 [[B_ false,.sc (.int .u64 (0:Int)),I_ (0:Int),B_ false,B_ false]])])) (λp=>([(1,.pt 1 [] 0 0),(2,.pt 2 [] 0 0),(5,B_ false)],[(1,.lit 5 [[B_ x.Q_,.sc (.int .u64 p.1),I_ p.2,B_ x.S_,B_ x.R_]]),(2,.lit 5 [[B_ false,.sc (.int .u64 (0:Int)),I_ (0:Int),B_ false,B_ false]])])) (λp=>nomatch p) n (yb6 n x v1)
def yha (n:Nat)(x:Xm):Pt P_ Ty_ [] (Yah):=.loop (V:=Unit) (zt4 n x) () (x.M_,x.E_) λ(v1:Unit) (y1:Yaa)=>.leaf (x.Q_,y1.1,y1.2,x.S_,x.R_)
def zph (n:Nat):Con P_ Ty_:=zj (X:=Xm) (R:=Yah) (pro:=[]) (zzh n) 128 zzi (λx=>.two .no (.two (.two (.loop Unit (zt4 n x) false ⟨[(1,.ref 1),(2,.ref 2)],[(1,.any),(2,.any)]⟩) .no) .no)) [.ag [.any,.any,.any,.any,.any]] [] [] ⟨[(2,.ref 100000)],[(100000,.any)]⟩ [] true (λx=>[.ag [B_ x.Q_,.sc (.int .u64 x.M_),I_ x.E_,B_ x.S_,B_ x.R_]]) (λx=>[]) (λy=>([(2,.pt 100000 [] 0 0)],[(100000,.lit 5 [[B_ y.1,.sc (.int .u64 y.2.1),I_ y.2.2.1,B_ y.p3,B_ y.q4]])])) (λy=>.ag [B_ y.1,.sc (.int .u64 y.2.1),I_ y.2.2.1,B_ y.p3,B_ y.q4]) (λy=>[]) (yha n)
def yfx (n:Nat):Cx P_ Ty_:=⟨[],[],[],[]⟩
abbrev yfy:List (List Nat):=[[0],[3],[2],[2]]
def yfz (n:Nat)(x:Bool):Pt P_ Ty_ [] Int:=.ite x (.leaf (2147483648:Int)) (.leaf (0:Int))
def zi2 (n:Nat):Con P_ Ty_:=zj (X:=Bool) (R:=Int) (pro:=[]) (yfx n) 114 yfy (λx=>.no) [.any] [] [] ⟨[(2,.any)],[]⟩ [] true (λx=>[B_ x]) (λx=>[]) (λy=>([(2,.sc (.int .u64 y))],[])) (λy=>.sc (.int .u64 y)) (λy=>[]) (yfz n)
def yg3 (n:Nat):Cx P_ Ty_:=⟨[zi2 n],[],[],[]⟩
abbrev yg4:List (List Nat):=[[0],[2]]
def yg5 (n:Nat)(x:Bool):Pt P_ Ty_ [] Int:=.call (zi2 n) x λ(y1:Int)=>.leaf (i64.wrap y1)
def zea (n:Nat):Con P_ Ty_:=zj (X:=Bool) (R:=Int) (pro:=[]) (yg3 n) 112 yg4 (λx=>.no) [.any] [] [] ⟨[(2,.any)],[]⟩ [] true (λx=>[B_ x]) (λx=>[]) (λy=>([(2,I_ y)],[])) (λy=>I_ y) (λy=>[]) (yg5 n)
def zz2 (n:Nat):Cx P_ Ty_:=⟨[],[],[],[]⟩
abbrev zz3:List (List Nat):=[[0],[0,3],[0,3,5],[0,3],[0,3],[2]]
def yb1 (n:Nat)(x:Int)(v1:Unit)(q1:Yaa):Pt P_ Ty_ [] (Bo (Yaa) (Yaa) Empty):=.ite (decide (q1.1 > (0:Int))) (.leaf (.go ((q1.1.fdiv (2 ^ min (1:Int).toNat u64.bits)),(i64.wrap (q1.2+(1:Int)))))) (.leaf (.out (q1.1,q1.2)))
def zsh (n:Nat)(x:Int)(v1:Unit):z15 P_ Ty_ []:=z1d (X:=Yaa) (Y:=Yaa) (Z:=Empty) (zz2 n) (z16 [1,1,0,0,0] (fnC P_ 102 zz3)) (λq1=>.no) 0 false ⟨[(0,.any),(3,.any)],[]⟩ ⟨[(0,.any),(3,.any),(5,.any)],[]⟩ ⟨[],[]⟩ (λq1=>([(0,.sc (.int .u64 q1.1)),(3,I_ q1.2)],[])) (λp=>([(0,.sc (.int .u64 p.1)),(3,I_ p.2),(5,B_ false)],[])) (λp=>nomatch p) n (yb1 n x v1)
def yfn (n:Nat)(x:Int):Pt P_ Ty_ [] Int:=.loop (V:=Unit) (zsh n x) () (x,(0:Int)) λ(v1:Unit) (y1:Yaa)=>.leaf y1.2
def zwh (n:Nat):Con P_ Ty_:=zj (X:=Int) (R:=Int) (pro:=[]) (zz2 n) 102 zz3 (λx=>.two .no (.two .no (.two (.two (.loop Unit (zsh n x) false ⟨[(0,.any),(3,.any)],[]⟩) .no) .no))) [.any] [] [] ⟨[(2,.any)],[]⟩ [] true (λx=>[.sc (.int .u64 x)]) (λx=>[]) (λy=>([(2,I_ y)],[])) (λy=>I_ y) (λy=>[]) (yfn n)
def yg6 (n:Nat):Cx P_ Ty_:=⟨[],[],[],[]⟩
abbrev yg7:List (List Nat):=[[0,1],[0,1,9],[4],[0,1,5],[0,1,5,6],[0,1,5,6,12],[0,1,5],[1,5,6],[5,6,7],[5,39],[5],[4]]
def zsm (x:Yaa)(p:Yaa):EH Ty_:=([(1,I_ x.2),(5,.sc (.int .u64 p.1)),(6,.sc (.int .u64 p.2))],[])
def zsn (x:Yaa)(p:Yag):EH Ty_:=([(5,.sc (.int .u64 p.1)),(39,B_ p.2)],[])
def yg8 (n:Nat)(x:Yaa):Pt P_ Ty_ [] Int:=.ite (decide (x.2 > (64:Int))) (.leaf (0:Int)) (.join (S:=Yaa) (zsm x) (.ite (decide (x.2<(64:Int))) (.need (0<=(u64.wrap x.2)) (.need (0<=(u64.wrap x.2)) (.leaf (.inl ((x.1.fdiv (2 ^ min (u64.wrap x.2).toNat u64.bits)),(u64.wrap (BitVec.ofInt u64.bits x.1 &&& BitVec.ofInt u64.bits (u64.wrap ((u64.wrap ((1:Int) * 2 ^ min (u64.wrap x.2).toNat u64.bits)) - (1:Int)))).toNat)))))) (.leaf (.inl ((0:Int),x.1)))) λs1=>.need (0<=(u64.wrap (i64.wrap (x.2 - (1:Int))))) (.join (S:=Yag) (zsn x) (.ite (decide (s1.2 > (u64.wrap ((1:Int) * 2 ^ min (u64.wrap (i64.wrap (x.2 - (1:Int)))).toNat u64.bits)))) (.leaf (.inl (s1.1,true))) (.ite (s1.2==(u64.wrap ((1:Int) * 2 ^ min (u64.wrap (i64.wrap (x.2 - (1:Int)))).toNat u64.bits))) (.leaf (.inl (s1.1,((s1.1.tmod (2:Int))==1)))) (.leaf (.inl (s1.1,false))))) λs2=>.ite s2.2 (.leaf (u64.wrap (s2.1+(1:Int)))) (.leaf s2.1)))
def yiv (n:Nat):Con P_ Ty_:=zj (X:=Yaa) (R:=Int) (pro:=[]) (yg6 n) 113 yg7 (λx=>.two .no (.two .no (.two .no (.two .no (.join (Yaa) (zsm x) ⟨[(1,.any),(5,.any),(6,.any)],[]⟩ .no (.two .no (.two (.join (Yag) (zsn x) ⟨[(5,.any),(39,.any)],[]⟩ .no .no) .no))))))) [.any,.any] [] [] ⟨[(4,.any)],[]⟩ [] true (λx=>[.sc (.int .u64 x.1),I_ x.2]) (λx=>[]) (λy=>([(4,.sc (.int .u64 y))],[])) (λy=>.sc (.int .u64 y)) (λy=>[]) (yg8 n)
def yfu (n:Nat):Cx P_ Ty_:=⟨[zi2 n],[],[],[]⟩
abbrev yfv:List (List Nat):=[[0],[2]]
def yfw (n:Nat)(x:Bool):Pt P_ Ty_ [] Int:=.call (zi2 n) x λ(y1:Int)=>.leaf (i64.wrap (u64.wrap (y1+(2139095040:Int))))
def ze9 (n:Nat):Con P_ Ty_:=zj (X:=Bool) (R:=Int) (pro:=[]) (yfu n) 111 yfv (λx=>.no) [.any] [] [] ⟨[(2,.any)],[]⟩ [] true (λx=>[B_ x]) (λx=>[]) (λy=>([(2,I_ y)],[])) (λy=>I_ y) (λy=>[]) (yfw n)
def yg0 (n:Nat):Cx P_ Ty_:=⟨[zea n,zwh n,yiv n,zi2 n,ze9 n],[],[],[]⟩
abbrev yg1:List (List Nat):=[[0,1,2],[0,1,2,12],[6],[0,1,2,7],[0,1,7,8],[0,1,7,8],[0,1,7,8,26],[0,7,9],[0,7,9],[0,7,9,36],[0,7,9],[0,7,9],[0,7,9,40],[6],[0,9,10],[0,9,10,49],[6],[6]]
def zsk (x:Ybm)(p:Yaa):EH Ty_:=([(0,B_ x.1),(7,I_ p.1),(9,.sc (.int .u64 p.2))],[])
def zsl (x:Ybm)(p:Yaa):EH Ty_:=([(0,B_ x.1),(7,I_ p.1),(9,.sc (.int .u64 p.2))],[])
def yg2 (n:Nat)(x:Ybm):Pt P_ Ty_ [] Int:=.ite (x.2.1==0) (.call (zea n) x.1 λ(y1:Int)=>.leaf y1) (.call (zwh n) x.2.1 λ(y2:Int)=>.join (S:=Yaa) (zsk x) (.ite (decide ((i64.wrap ((if (-149:Int) > (i64.wrap ((i64.wrap (x.2.2+y2)) - (24:Int))) then (-149:Int) else (i64.wrap ((i64.wrap (x.2.2+y2)) - (24:Int)))) - x.2.2))<=(0:Int))) (.need (0<=(u64.wrap (i64.wrap (0 - (i64.wrap ((if (-149:Int) > (i64.wrap ((i64.wrap (x.2.2+y2)) - (24:Int))) then (-149:Int) else (i64.wrap ((i64.wrap (x.2.2+y2)) - (24:Int)))) - x.2.2)))))) (.leaf (.inl ((if (-149:Int) > (i64.wrap ((i64.wrap (x.2.2+y2)) - (24:Int))) then (-149:Int) else (i64.wrap ((i64.wrap (x.2.2+y2)) - (24:Int)))),(u64.wrap (x.2.1 * 2 ^ min (u64.wrap (i64.wrap (0 - (i64.wrap ((if (-149:Int) > (i64.wrap ((i64.wrap (x.2.2+y2)) - (24:Int))) then (-149:Int) else (i64.wrap ((i64.wrap (x.2.2+y2)) - (24:Int)))) - x.2.2))))).toNat u64.bits)))))) (.call (yiv n) (x.2.1,(i64.wrap ((if (-149:Int) > (i64.wrap ((i64.wrap (x.2.2+y2)) - (24:Int))) then (-149:Int) else (i64.wrap ((i64.wrap (x.2.2+y2)) - (24:Int)))) - x.2.2))) λ(y3:Int)=>.leaf (.inl ((if (-149:Int) > (i64.wrap ((i64.wrap (x.2.2+y2)) - (24:Int))) then (-149:Int) else (i64.wrap ((i64.wrap (x.2.2+y2)) - (24:Int)))),y3)))) λs1=>.join (S:=Yaa) (zsl x) (.ite (s1.2==16777216) (.leaf (.inl ((i64.wrap (s1.1+(1:Int))),(8388608:Int)))) (.leaf (.inl (s1.1,s1.2)))) λs2=>.ite (decide (s2.2<(8388608:Int))) (.call (zi2 n) x.1 λ(y4:Int)=>.leaf (i64.wrap (u64.wrap (y4+s2.2)))) (.ite (decide ((i64.wrap (s2.1+(150:Int)))>=(255:Int))) (.call (ze9 n) x.1 λ(y5:Int)=>.leaf y5) (.call (zi2 n) x.1 λ(y6:Int)=>.leaf (i64.wrap (u64.wrap ((u64.wrap ((u64.wrap (y6+(u64.wrap ((u64.wrap (i64.wrap (s2.1+(150:Int)))) * 2 ^ min (23:Int).toNat u64.bits))))+s2.2)) - (8388608:Int)))))))
def z72 (n:Nat):Con P_ Ty_:=zj (X:=Ybm) (R:=Int) (pro:=[]) (yg0 n) 104 yg1 (λx=>.two .no (.two .no (.two .no (.two .no (.two .no (.join (Yaa) (zsk x) ⟨[(0,.any),(7,.any),(9,.any)],[]⟩ .no (.join (Yaa) (zsl x) ⟨[(0,.any),(7,.any),(9,.any)],[]⟩ .no .no))))))) [.any,.any,.any] [] [] ⟨[(6,.any)],[]⟩ [] true (λx=>[B_ x.1,.sc (.int .u64 x.2.1),I_ x.2.2]) (λx=>[]) (λy=>([(6,I_ y)],[])) (λy=>I_ y) (λy=>[]) (yg2 n)
def zzf (n:Nat):Cx P_ Ty_:=⟨[k69 n,zph n,z72 n],[],[],[]⟩
abbrev zzg:List (List Nat):=[[0],[0,3],[0,3,11],[2],[0,3,14],[2],[0,3,24],[2],[0,3,27],[2],[3],[3,4],[4,5],[4,5,41],[4,5],[4,5],[4,5,6],[4,5,6,7],[4,5,6,7,47],[4,5,6,7,58],[4,5,6,7],[4,5,6,7],[4,5,6,8],[5,8,68],[5,8],[2]]
def zt1 (x:Int)(p:Yda):EH Ty_:=([(0,I_ x),(3,.pt 3 [] 0 0),(14,B_ p.1)],[(3,.lit 5 [[B_ p.2.1,.sc (.int .u64 p.2.2.1),I_ p.p3,B_ p.p4,B_ p.q5]])])
def zt2 (x:Int)(p:Yaa):EH Ty_:=([(4,.sc (.int .u64 p.1)),(5,I_ p.2)],[])
def zt3 (x:Int)(p:Yaa):EH Ty_:=([(5,I_ p.1),(8,.sc (.int .u64 p.2))],[])
def yb5 (n:Nat)(x:Int)(v1:Yaa)(q1:Yaa):Pt P_ Ty_ [] (Bo (Yaa) (Yaa) Empty):=.ite (decide (q1.2 > (0:Int))) (.ite (decide ((u64.wrap ((u64.wrap (q1.1+q1.2)) * (u64.wrap (q1.1+q1.2))))<=v1.1)) (.leaf (.go ((u64.wrap (q1.1+q1.2)),(u64.wrap (q1.2.tdiv (2:Int)))))) (.leaf (.go (q1.1,(u64.wrap (q1.2.tdiv (2:Int))))))) (.leaf (.out (q1.1,q1.2)))
def zt0 (n:Nat)(x:Int)(v1:Yaa):z15 P_ Ty_ []:=z1d (X:=Yaa) (Y:=Yaa) (Z:=Empty) (zzf n) (z16 [1,1,1,1,1,1,1,1,0,1,0,0] (fnC P_ 118 zzg)) (λq1=>.no) 1 false ⟨[(4,.any),(5,.any),(6,.any),(7,.any)],[]⟩ ⟨[(4,.any),(5,.any),(6,.any),(7,.any),(47,.any)],[]⟩ ⟨[],[]⟩ (λq1=>([(4,.sc (.int .u64 v1.1)),(5,I_ v1.2),(6,.sc (.int .u64 q1.1)),(7,.sc (.int .u64 q1.2))],[])) (λp=>([(4,.sc (.int .u64 v1.1)),(5,I_ v1.2),(6,.sc (.int .u64 p.1)),(7,.sc (.int .u64 p.2)),(47,B_ false)],[])) (λp=>nomatch p) n (yb5 n x v1)
def yh9 (n:Nat)(x:Int):Pt P_ Ty_ [] Int:=.call (k69 n) x λ(y1:Yah)=>.ite y1.q4 (.leaf (2143289344:Int)) (.join (S:=Yda) (zt1 x) (.ite (!y1.p3) (.leaf (.inl ((y1.2.1==0),y1.1,y1.2.1,y1.2.2.1,y1.p3,y1.q4))) (.leaf (.inl (false,y1.1,y1.2.1,y1.2.2.1,y1.p3,y1.q4)))) λs1=>.ite s1.1 (.leaf x) (.ite s1.2.1 (.leaf (2143289344:Int)) (.ite s1.p4 (.leaf x) (.call (zph n) (⟨s1.2.1,s1.2.2.1,s1.p3,s1.p4,s1.q5⟩:Xm) λ(y2:Yah)=>.join (S:=Yaa) (zt2 x) (.ite (((i64.wrap (y2.2.2.1 - (36:Int))).tmod (2:Int)) != (0:Int)) (.leaf (.inl ((u64.wrap ((u64.wrap (y2.2.1 * 2 ^ min (36:Int).toNat u64.bits)) * (2:Int))),(i64.wrap ((i64.wrap (y2.2.2.1 - (36:Int))) - (1:Int)))))) (.leaf (.inl ((u64.wrap (y2.2.1 * 2 ^ min (36:Int).toNat u64.bits)),(i64.wrap (y2.2.2.1 - (36:Int))))))) λs2=>.loop (V:=Yaa) (zt0 n x) (s2.1,s2.2) ((0:Int),(2147483648:Int)) λ(v1:Yaa) (y3:Yaa)=>.join (S:=Yaa) (zt3 x) (.ite (decide ((u64.wrap (y3.1 * y3.1))<v1.1)) (.leaf (.inl (v1.2,(u64.wrap ((u64.wrap (y3.1 * (2:Int)))+(1:Int)))))) (.leaf (.inl (v1.2,(u64.wrap (y3.1 * (2:Int))))))) λs3=>.call (z72 n) (false,s3.2,(i64.wrap ((i64.wrap (s3.1.tdiv (2:Int))) - (1:Int)))) λ(y4:Int)=>.leaf y4))))
def yj3 (n:Nat):Con P_ Ty_:=zj (X:=Int) (R:=Int) (pro:=[]) (zzf n) 118 zzg (λx=>.two .no (.two .no (.two (.two (.two .no (.two .no (.join (Yda) (zt1 x) ⟨[(0,.any),(3,.ref 3),(14,.any)],[(3,.any)]⟩ .no .no))) .no) (.two .no (.two .no (.two .no (.join (Yaa) (zt2 x) ⟨[(4,.any),(5,.any)],[]⟩ .no (.two .no (.two (.two .no (.two (.loop (Yaa) (zt0 n x) false ⟨[(4,.any),(5,.any),(6,.any),(7,.any)],[]⟩) .no)) (.two .no (.join (Yaa) (zt3 x) ⟨[(5,.any),(8,.any)],[]⟩ .no .no))))))))))) [.any] [] [] ⟨[(2,.any)],[]⟩ [] true (λx=>[I_ x]) (λx=>[]) (λy=>([(2,I_ y)],[])) (λy=>I_ y) (λy=>[]) (yh9 n)
def yhb (n:Nat):Cx P_ Ty_:=⟨[k69 n],[],[],[]⟩
abbrev yhc:List (List Nat):=[[0],[0,5],[2],[2]]
def yhd (n:Nat)(x:Int):Pt P_ Ty_ [] Int:=.call (k69 n) x λ(y1:Yah)=>.ite y1.q4 (.leaf (2143289344:Int)) (.leaf (i64.wrap (BitVec.ofInt i64.bits x ^^^ BitVec.ofInt i64.bits (2147483648:Int)).toNat))
def zwk (n:Nat):Con P_ Ty_:=zj (X:=Int) (R:=Int) (pro:=[]) (yhb n) 119 yhc (λx=>.no) [.any] [] [] ⟨[(2,.any)],[]⟩ [] true (λx=>[I_ x]) (λx=>[]) (λy=>([(2,I_ y)],[])) (λy=>I_ y) (λy=>[]) (yhd n)
def yhe (n:Nat):Cx P_ Ty_:=⟨[k69 n],[],[],[]⟩
abbrev yhf:List (List Nat):=[[0],[0,5],[2],[2]]
def yhg (n:Nat)(x:Int):Pt P_ Ty_ [] Int:=.call (k69 n) x λ(y1:Yah)=>.ite y1.q4 (.leaf (2143289344:Int)) (.leaf (i64.wrap (BitVec.ofInt i64.bits x &&& ~~~BitVec.ofInt i64.bits (2147483648:Int)).toNat))
def yj4 (n:Nat):Con P_ Ty_:=zj (X:=Int) (R:=Int) (pro:=[]) (yhe n) 120 yhf (λx=>.no) [.any] [] [] ⟨[(2,.any)],[]⟩ [] true (λx=>[I_ x]) (λx=>[]) (λy=>([(2,I_ y)],[])) (λy=>I_ y) (λy=>[]) (yhg n)
def yhh (n:Nat):Cx P_ Ty_:=⟨[],[],[],[]⟩
abbrev yhi:List (List Nat):=[[0],[2]]
def yhj (n:Nat)(x:Int):Pt P_ Ty_ [] Bool:=.leaf (decide ((x.tmod (2147483648:Int))<(2139095040:Int)))
def yj5 (n:Nat):Con P_ Ty_:=zj (X:=Int) (R:=Bool) (pro:=[]) (yhh n) 122 yhi (λx=>.no) [.any] [] [] ⟨[(2,.any)],[]⟩ [] true (λx=>[I_ x]) (λx=>[]) (λy=>([(2,B_ y)],[])) (λy=>B_ y) (λy=>[]) (yhj n)
def yhk (n:Nat):Cx P_ Ty_:=⟨[],[],[],[]⟩
abbrev yhl:List (List Nat):=[[0],[3],[2],[2]]
def yhm (n:Nat)(x:Bool):Pt P_ Ty_ [] Int:=.ite x (.leaf (1065353216:Int)) (.leaf (0:Int))
def y6b (n:Nat):Con P_ Ty_:=zj (X:=Bool) (R:=Int) (pro:=[]) (yhk n) 121 yhl (λx=>.no) [.any] [] [] ⟨[(2,.any)],[]⟩ [] true (λx=>[B_ x]) (λx=>[]) (λy=>([(2,I_ y)],[])) (λy=>I_ y) (λy=>[]) (yhm n)
def yfr (n:Nat):Cx P_ Ty_:=⟨[],[],[],[]⟩
abbrev yfs:List (List Nat):=[[2,3],[4]]
def yft (n:Nat)(x:Xm×Xm):Pt P_ Ty_ [] Bool:=.ite x.1.R_ (.leaf true) (.leaf x.2.R_)
def z9j (n:Nat):Con P_ Ty_:=zj (X:=Xm×Xm) (R:=Bool) (pro:=[]) (yfr n) 110 yfs (λx=>.no) [.ag [.any,.any,.any,.any,.any],.ag [.any,.any,.any,.any,.any]] [] [] ⟨[(4,.any)],[]⟩ [] true (λx=>[.ag [B_ x.1.Q_,.sc (.int .u64 x.1.M_),I_ x.1.E_,B_ x.1.S_,B_ x.1.R_],.ag [B_ x.2.Q_,.sc (.int .u64 x.2.M_),I_ x.2.E_,B_ x.2.S_,B_ x.2.R_]]) (λx=>[]) (λy=>([(4,B_ y)],[])) (λy=>B_ y) (λy=>[]) (yft n)
def ygj (n:Nat):Cx P_ Ty_:=⟨[zea n,z72 n],[],[],[]⟩
abbrev ygk:List (List Nat):=[[2,3],[2,3,5],[2,3,5],[2,3,5,7],[2,3,5,7,16],[2,3,6,7],[2,3,6],[2,3,6,7],[2,3,6,7],[3,6,7,32],[3,6,7],[3,6,7,36],[6,7],[6,7],[6,7,48],[4],[6,7,51],[4],[4]]
def zss (x:Xm×Xm)(p:Yao):EH Ty_:=([(2,.pt 2 [] 0 0),(3,.pt 3 [] 0 0),(6,I_ p.1),(7,I_ p.2.1)],[(2,.lit 5 [[B_ x.1.Q_,.sc (.int .u64 x.1.M_),I_ x.1.E_,B_ x.1.S_,B_ x.1.R_]]),(3,.lit 5 [[B_ x.2.Q_,.sc (.int .u64 p.2.2),I_ x.2.E_,B_ x.2.S_,B_ x.2.R_]])])
def zst (x:Xm×Xm)(p:Yao):EH Ty_:=([(3,.pt 3 [] 0 0),(6,I_ p.1),(7,I_ p.2.1)],[(3,.lit 5 [[B_ x.2.Q_,.sc (.int .u64 p.2.2),I_ x.2.E_,B_ x.2.S_,B_ x.2.R_]])])
def zsu (x:Xm×Xm)(p:Yaa):EH Ty_:=([(6,I_ p.1),(7,I_ p.2)],[])
def ygl (n:Nat)(x:Xm×Xm):Pt P_ Ty_ [] Int:=.join (S:=Yao) (zss x) (.ite (decide ((i64.wrap (x.1.E_ - x.2.E_))<=(36:Int))) (.need (0<=(u64.wrap (i64.wrap (x.1.E_ - x.2.E_)))) (.leaf (.inl ((i64.wrap (u64.wrap (x.1.M_ * 2 ^ min (u64.wrap (i64.wrap (x.1.E_ - x.2.E_))).toNat u64.bits))),x.2.E_,x.2.M_)))) (.leaf (.inl ((i64.wrap (u64.wrap (x.1.M_ * 2 ^ min (36:Int).toNat u64.bits))),(i64.wrap (x.1.E_ - (36:Int))),(1:Int))))) λs1=>.join (S:=Yao) (zst x) (.ite x.1.Q_ (.leaf (.inl ((i64.wrap (0 - s1.1)),s1.2.1,s1.2.2))) (.leaf (.inl (s1.1,s1.2.1,s1.2.2)))) λs2=>.join (S:=Yaa) (zsu x) (.ite x.2.Q_ (.leaf (.inl ((i64.wrap (s2.1 - (i64.wrap s2.2.2))),s2.2.1))) (.leaf (.inl ((i64.wrap (s2.1+(i64.wrap s2.2.2))),s2.2.1)))) λs3=>.ite (s3.1==0) (.call (zea n) false λ(y1:Int)=>.leaf y1) (.ite (decide (s3.1<(0:Int))) (.call (z72 n) (true,(u64.wrap (i64.wrap (0 - s3.1))),s3.2) λ(y2:Int)=>.leaf y2) (.call (z72 n) (false,(u64.wrap s3.1),s3.2) λ(y3:Int)=>.leaf y3))
def yiy (n:Nat):Con P_ Ty_:=zj (X:=Xm×Xm) (R:=Int) (pro:=[]) (ygj n) 115 ygk (λx=>.two .no (.two .no (.two .no (.two .no (.join (Yao) (zss x) ⟨[(2,.ref 2),(3,.ref 3),(6,.any),(7,.any)],[(2,.any),(3,.any)]⟩ .no (.join (Yao) (zst x) ⟨[(3,.ref 3),(6,.any),(7,.any)],[(3,.any)]⟩ .no (.join (Yaa) (zsu x) ⟨[(6,.any),(7,.any)],[]⟩ .no .no))))))) [.ag [.any,.any,.any,.any,.any],.ag [.any,.any,.any,.any,.any]] [] [] ⟨[(4,.any)],[]⟩ [] true (λx=>[.ag [B_ x.1.Q_,.sc (.int .u64 x.1.M_),I_ x.1.E_,B_ x.1.S_,B_ x.1.R_],.ag [B_ x.2.Q_,.sc (.int .u64 x.2.M_),I_ x.2.E_,B_ x.2.S_,B_ x.2.R_]]) (λx=>[]) (λy=>([(4,I_ y)],[])) (λy=>I_ y) (λy=>[]) (ygl n)
def ygg (n:Nat):Cx P_ Ty_:=⟨[k69 n,z9j n,ze9 n,zea n,z72 n,yiy n],[],[],[]⟩
abbrev ygh:List (List Nat):=[[0,1],[1,5],[5,6],[5,6,11],[4],[5,6,30],[4],[5,6,36],[4],[5,6,42],[4],[5,6,58],[4],[5,6,69],[4],[5,6,84],[5,6],[4]]
def zsp (x:Yaa)(p:Ycd):EH Ty_:=([(5,.pt 5 [] 0 0),(6,.pt 6 [] 0 0),(11,B_ p.1)],[(5,.lit 5 [[B_ p.2.1,.sc (.int .u64 p.2.2.1),I_ p.p3,B_ p.p4,B_ p.p5]]),(6,.lit 5 [[B_ p.p6,.sc (.int .u64 p.p7),I_ p.p8,B_ p.p9,B_ p.q10]])])
def zsq (x:Yaa)(p:Ycd):EH Ty_:=([(5,.pt 5 [] 0 0),(6,.pt 6 [] 0 0),(42,B_ p.1)],[(5,.lit 5 [[B_ p.2.1,.sc (.int .u64 p.2.2.1),I_ p.p3,B_ p.p4,B_ p.p5]]),(6,.lit 5 [[B_ p.p6,.sc (.int .u64 p.p7),I_ p.p8,B_ p.p9,B_ p.q10]])])
def zsr (x:Yaa)(p:Ydb):EH Ty_:=([(5,.pt 5 [] 0 0),(6,.pt 6 [] 0 0)],[(5,.lit 5 [[B_ p.1,.sc (.int .u64 p.2.1),I_ p.2.2.1,B_ p.p3,B_ p.p4]]),(6,.lit 5 [[B_ p.p5,.sc (.int .u64 p.p6),I_ p.p7,B_ p.p8,B_ p.q9]])])
def ygi (n:Nat)(x:Yaa):Pt P_ Ty_ [] Int:=.call (k69 n) x.1 λ(y1:Yah)=>.call (k69 n) x.2 λ(y2:Yah)=>.join (S:=Ycd) (zsp x) (.call (z9j n) ((⟨y1.1,y1.2.1,y1.2.2.1,y1.p3,y1.q4⟩:Xm),(⟨y2.1,y2.2.1,y2.2.2.1,y2.p3,y2.q4⟩:Xm)) λ(y3:Bool)=>.ite y3 (.leaf (.inl (true,y1.1,y1.2.1,y1.2.2.1,y1.p3,y1.q4,y2.1,y2.2.1,y2.2.2.1,y2.p3,y2.q4))) (.ite y1.p3 (.ite y2.p3 (.leaf (.inl ((y1.1 != y2.1),y1.1,y1.2.1,y1.2.2.1,y1.p3,y1.q4,y2.1,y2.2.1,y2.2.2.1,y2.p3,y2.q4))) (.leaf (.inl (false,y1.1,y1.2.1,y1.2.2.1,y1.p3,y1.q4,y2.1,y2.2.1,y2.2.2.1,y2.p3,y2.q4)))) (.leaf (.inl (false,y1.1,y1.2.1,y1.2.2.1,y1.p3,y1.q4,y2.1,y2.2.1,y2.2.2.1,y2.p3,y2.q4))))) λs1=>.ite s1.1 (.leaf (2143289344:Int)) (.ite s1.p4 (.call (ze9 n) s1.2.1 λ(y4:Int)=>.leaf y4) (.ite s1.p9 (.call (ze9 n) s1.p6 λ(y5:Int)=>.leaf y5) (.join (S:=Ycd) (zsq x) (.ite (s1.2.2.1==0) (.leaf (.inl ((s1.p7==0),s1.2.1,s1.2.2.1,s1.p3,s1.p4,s1.p5,s1.p6,s1.p7,s1.p8,s1.p9,s1.q10))) (.leaf (.inl (false,s1.2.1,s1.2.2.1,s1.p3,s1.p4,s1.p5,s1.p6,s1.p7,s1.p8,s1.p9,s1.q10)))) λs2=>.ite s2.1 (.ite s2.2.1 (.call (zea n) s2.p6 λ(y6:Int)=>.leaf y6) (.call (zea n) false λ(y7:Int)=>.leaf y7)) (.ite (s2.2.2.1==0) (.call (z72 n) (s2.p6,s2.p7,s2.p8) λ(y8:Int)=>.leaf y8) (.ite (s2.p7==0) (.call (z72 n) (s2.2.1,s2.2.2.1,s2.p3) λ(y9:Int)=>.leaf y9) (.join (S:=Ydb) (zsr x) (.ite (decide (s2.p3<s2.p8)) (.leaf (.inl (s2.p6,s2.p7,s2.p8,s2.p9,s2.q10,s2.2.1,s2.2.2.1,s2.p3,s2.p4,s2.p5))) (.leaf (.inl (s2.2.1,s2.2.2.1,s2.p3,s2.p4,s2.p5,s2.p6,s2.p7,s2.p8,s2.p9,s2.q10)))) λs3=>.call (yiy n) ((⟨s3.1,s3.2.1,s3.2.2.1,s3.p3,s3.p4⟩:Xm),(⟨s3.p5,s3.p6,s3.p7,s3.p8,s3.q9⟩:Xm)) λ(y10:Int)=>.leaf y10))))))
def zkx (n:Nat):Con P_ Ty_:=zj (X:=Yaa) (R:=Int) (pro:=[]) (ygg n) 105 ygh (λx=>.two .no (.two .no (.two .no (.two (.two (.join (Ycd) (zsp x) ⟨[(5,.ref 5),(6,.ref 6),(11,.any)],[(5,.any),(6,.any)]⟩ .no (.two .no (.two .no (.two .no (.two .no (.two .no (.join (Ycd) (zsq x) ⟨[(5,.ref 5),(6,.ref 6),(42,.any)],[(5,.any),(6,.any)]⟩ .no .no))))))) .no) (.join (Ydb) (zsr x) ⟨[(5,.ref 5),(6,.ref 6)],[(5,.any),(6,.any)]⟩ .no .no))))) [.any,.any] [] [] ⟨[(4,.any)],[]⟩ [] true (λx=>[I_ x.1,I_ x.2]) (λx=>[]) (λy=>([(4,I_ y)],[])) (λy=>I_ y) (λy=>[]) (ygi n)
def yhn (n:Nat):Cx P_ Ty_:=⟨[zwk n,zkx n],[],[],[]⟩
abbrev yho:List (List Nat):=[[0,1],[4]]
def yhp (n:Nat)(x:Yaa):Pt P_ Ty_ [] Int:=.call (zwk n) x.2 λ(y1:Int)=>.call (zkx n) (x.1,y1) λ(y2:Int)=>.leaf y2
def yj6 (n:Nat):Con P_ Ty_:=zj (X:=Yaa) (R:=Int) (pro:=[]) (yhn n) 123 yho (λx=>.no) [.any,.any] [] [] ⟨[(4,.any)],[]⟩ [] true (λx=>[I_ x.1,I_ x.2]) (λx=>[]) (λy=>([(4,I_ y)],[])) (λy=>I_ y) (λy=>[]) (yhp n)
def yfo (n:Nat):Cx P_ Ty_:=⟨[k69 n,z9j n,ze9 n,z72 n],[],[],[]⟩
abbrev yfp:List (List Nat):=[[0,1],[1,5],[5,6],[5,6,7],[5,6,7,17],[4],[5,6,7,49],[4],[4]]
def zsi (x:Yaa)(p:Yap):EH Ty_:=([(5,.pt 5 [] 0 0),(6,.pt 6 [] 0 0),(7,B_ p.1),(17,B_ p.2.1)],[(5,.lit 5 [[B_ p.2.2.1,.sc (.int .u64 p.p3),I_ p.p4,B_ p.p5,B_ p.p6]]),(6,.lit 5 [[B_ p.p7,.sc (.int .u64 p.p8),I_ p.p9,B_ p.p10,B_ p.q11]])])
def zsj (x:Yaa)(p:Yap):EH Ty_:=([(5,.pt 5 [] 0 0),(6,.pt 6 [] 0 0),(7,B_ p.1),(49,B_ p.2.1)],[(5,.lit 5 [[B_ p.2.2.1,.sc (.int .u64 p.p3),I_ p.p4,B_ p.p5,B_ p.p6]]),(6,.lit 5 [[B_ p.p7,.sc (.int .u64 p.p8),I_ p.p9,B_ p.p10,B_ p.q11]])])
def yfq (n:Nat)(x:Yaa):Pt P_ Ty_ [] Int:=.call (k69 n) x.1 λ(y1:Yah)=>.call (k69 n) x.2 λ(y2:Yah)=>.join (S:=Yap) (zsi x) (.call (z9j n) ((⟨y1.1,y1.2.1,y1.2.2.1,y1.p3,y1.q4⟩:Xm),(⟨y2.1,y2.2.1,y2.2.2.1,y2.p3,y2.q4⟩:Xm)) λ(y3:Bool)=>.ite y3 (.leaf (.inl ((y1.1 != y2.1),true,y1.1,y1.2.1,y1.2.2.1,y1.p3,y1.q4,y2.1,y2.2.1,y2.2.2.1,y2.p3,y2.q4))) (.ite y1.p3 (.ite (!y2.p3) (.ite (y2.2.1==0) (.leaf (.inl ((y1.1 != y2.1),true,y1.1,y1.2.1,y1.2.2.1,y1.p3,y1.q4,y2.1,y2.2.1,y2.2.2.1,y2.p3,y2.q4))) (.ite y2.p3 (.ite (!y1.p3) (.leaf (.inl ((y1.1 != y2.1),(y1.2.1==0),y1.1,y1.2.1,y1.2.2.1,y1.p3,y1.q4,y2.1,y2.2.1,y2.2.2.1,y2.p3,y2.q4))) (.leaf (.inl ((y1.1 != y2.1),false,y1.1,y1.2.1,y1.2.2.1,y1.p3,y1.q4,y2.1,y2.2.1,y2.2.2.1,y2.p3,y2.q4)))) (.leaf (.inl ((y1.1 != y2.1),false,y1.1,y1.2.1,y1.2.2.1,y1.p3,y1.q4,y2.1,y2.2.1,y2.2.2.1,y2.p3,y2.q4))))) (.ite y2.p3 (.ite (!y1.p3) (.leaf (.inl ((y1.1 != y2.1),(y1.2.1==0),y1.1,y1.2.1,y1.2.2.1,y1.p3,y1.q4,y2.1,y2.2.1,y2.2.2.1,y2.p3,y2.q4))) (.leaf (.inl ((y1.1 != y2.1),false,y1.1,y1.2.1,y1.2.2.1,y1.p3,y1.q4,y2.1,y2.2.1,y2.2.2.1,y2.p3,y2.q4)))) (.leaf (.inl ((y1.1 != y2.1),false,y1.1,y1.2.1,y1.2.2.1,y1.p3,y1.q4,y2.1,y2.2.1,y2.2.2.1,y2.p3,y2.q4))))) (.ite y2.p3 (.ite (!y1.p3) (.leaf (.inl ((y1.1 != y2.1),(y1.2.1==0),y1.1,y1.2.1,y1.2.2.1,y1.p3,y1.q4,y2.1,y2.2.1,y2.2.2.1,y2.p3,y2.q4))) (.leaf (.inl ((y1.1 != y2.1),false,y1.1,y1.2.1,y1.2.2.1,y1.p3,y1.q4,y2.1,y2.2.1,y2.2.2.1,y2.p3,y2.q4)))) (.leaf (.inl ((y1.1 != y2.1),false,y1.1,y1.2.1,y1.2.2.1,y1.p3,y1.q4,y2.1,y2.2.1,y2.2.2.1,y2.p3,y2.q4)))))) λs1=>.ite s1.2.1 (.leaf (2143289344:Int)) (.join (S:=Yap) (zsj x) (.ite s1.p5 (.leaf (.inl (s1.1,true,s1.2.2.1,s1.p3,s1.p4,s1.p5,s1.p6,s1.p7,s1.p8,s1.p9,s1.p10,s1.q11))) (.leaf (.inl (s1.1,s1.p10,s1.2.2.1,s1.p3,s1.p4,s1.p5,s1.p6,s1.p7,s1.p8,s1.p9,s1.p10,s1.q11)))) λs2=>.ite s2.2.1 (.call (ze9 n) s2.1 λ(y4:Int)=>.leaf y4) (.call (z72 n) (s2.1,(u64.wrap (s2.p3 * s2.p8)),(i64.wrap (s2.p4+s2.p9))) λ(y5:Int)=>.leaf y5))
def zpg (n:Nat):Con P_ Ty_:=zj (X:=Yaa) (R:=Int) (pro:=[]) (yfo n) 103 yfp (λx=>.two .no (.two .no (.two .no (.two .no (.two (.two (.join (Yap) (zsi x) ⟨[(5,.ref 5),(6,.ref 6),(7,.any),(17,.any)],[(5,.any),(6,.any)]⟩ .no (.two .no (.join (Yap) (zsj x) ⟨[(5,.ref 5),(6,.ref 6),(7,.any),(49,.any)],[(5,.any),(6,.any)]⟩ .no .no))) .no) .no))))) [.any,.any] [] [] ⟨[(4,.any)],[]⟩ [] true (λx=>[I_ x.1,I_ x.2]) (λx=>[]) (λy=>([(4,I_ y)],[])) (λy=>I_ y) (λy=>[]) (yfq n)
def yhq (n:Nat):Cx P_ Ty_:=⟨[k69 n,z9j n,ze9 n,zea n,zph n,z72 n],[],[],[]⟩
abbrev yhr:List (List Nat):=[[0,1],[1,5],[5,6],[5,6,7],[5,6,7,20],[4],[5,6,7,52],[4],[5,6,7,67],[4],[5,6,7],[5,6,7],[5,6,7,8],[5,6,7,8,9],[5,6,7,9,10],[5,6,7,9,10],[5,6,7,9,95],[5,6,7,9],[4]]
def zt5 (x:Yaa)(p:Yap):EH Ty_:=([(5,.pt 5 [] 0 0),(6,.pt 6 [] 0 0),(7,B_ p.1),(20,B_ p.2.1)],[(5,.lit 5 [[B_ p.2.2.1,.sc (.int .u64 p.p3),I_ p.p4,B_ p.p5,B_ p.p6]]),(6,.lit 5 [[B_ p.p7,.sc (.int .u64 p.p8),I_ p.p9,B_ p.p10,B_ p.q11]])])
def zt6 (x:Yaa)(p:Yap):EH Ty_:=([(5,.pt 5 [] 0 0),(6,.pt 6 [] 0 0),(7,B_ p.1),(52,B_ p.2.1)],[(5,.lit 5 [[B_ p.2.2.1,.sc (.int .u64 p.p3),I_ p.p4,B_ p.p5,B_ p.p6]]),(6,.lit 5 [[B_ p.p7,.sc (.int .u64 p.p8),I_ p.p9,B_ p.p10,B_ p.q11]])])
def zt7 (x:Yaa)(p:Yap):EH Ty_:=([(5,.pt 5 [] 0 0),(6,.pt 6 [] 0 0),(7,B_ p.1),(67,B_ p.2.1)],[(5,.lit 5 [[B_ p.2.2.1,.sc (.int .u64 p.p3),I_ p.p4,B_ p.p5,B_ p.p6]]),(6,.lit 5 [[B_ p.p7,.sc (.int .u64 p.p8),I_ p.p9,B_ p.p10,B_ p.q11]])])
def zt8 (x:Yaa)(p:Ydc):EH Ty_:=([(5,.pt 5 [] 0 0),(6,.pt 6 [] 0 0),(7,B_ p.1),(9,.sc (.int .u64 p.2.1))],[(5,.lit 5 [[B_ p.2.2.1,.sc (.int .u64 p.p3),I_ p.p4,B_ p.p5,B_ p.p6]]),(6,.lit 5 [[B_ p.p7,.sc (.int .u64 p.p8),I_ p.p9,B_ p.p10,B_ p.q11]])])
def yhs (n:Nat)(x:Yaa):Pt P_ Ty_ [] Int:=.call (k69 n) x.1 λ(y1:Yah)=>.call (k69 n) x.2 λ(y2:Yah)=>.join (S:=Yap) (zt5 x) (.call (z9j n) ((⟨y1.1,y1.2.1,y1.2.2.1,y1.p3,y1.q4⟩:Xm),(⟨y2.1,y2.2.1,y2.2.2.1,y2.p3,y2.q4⟩:Xm)) λ(y3:Bool)=>.ite y3 (.leaf (.inl ((y1.1 != y2.1),true,y1.1,y1.2.1,y1.2.2.1,y1.p3,y1.q4,y2.1,y2.2.1,y2.2.2.1,y2.p3,y2.q4))) (.ite y1.p3 (.ite y2.p3 (.leaf (.inl ((y1.1 != y2.1),true,y1.1,y1.2.1,y1.2.2.1,y1.p3,y1.q4,y2.1,y2.2.1,y2.2.2.1,y2.p3,y2.q4))) (.ite (!y1.p3) (.ite (!y2.p3) (.ite (y1.2.1==0) (.leaf (.inl ((y1.1 != y2.1),(y2.2.1==0),y1.1,y1.2.1,y1.2.2.1,y1.p3,y1.q4,y2.1,y2.2.1,y2.2.2.1,y2.p3,y2.q4))) (.leaf (.inl ((y1.1 != y2.1),false,y1.1,y1.2.1,y1.2.2.1,y1.p3,y1.q4,y2.1,y2.2.1,y2.2.2.1,y2.p3,y2.q4)))) (.leaf (.inl ((y1.1 != y2.1),false,y1.1,y1.2.1,y1.2.2.1,y1.p3,y1.q4,y2.1,y2.2.1,y2.2.2.1,y2.p3,y2.q4)))) (.leaf (.inl ((y1.1 != y2.1),false,y1.1,y1.2.1,y1.2.2.1,y1.p3,y1.q4,y2.1,y2.2.1,y2.2.2.1,y2.p3,y2.q4))))) (.ite (!y1.p3) (.ite (!y2.p3) (.ite (y1.2.1==0) (.leaf (.inl ((y1.1 != y2.1),(y2.2.1==0),y1.1,y1.2.1,y1.2.2.1,y1.p3,y1.q4,y2.1,y2.2.1,y2.2.2.1,y2.p3,y2.q4))) (.leaf (.inl ((y1.1 != y2.1),false,y1.1,y1.2.1,y1.2.2.1,y1.p3,y1.q4,y2.1,y2.2.1,y2.2.2.1,y2.p3,y2.q4)))) (.leaf (.inl ((y1.1 != y2.1),false,y1.1,y1.2.1,y1.2.2.1,y1.p3,y1.q4,y2.1,y2.2.1,y2.2.2.1,y2.p3,y2.q4)))) (.leaf (.inl ((y1.1 != y2.1),false,y1.1,y1.2.1,y1.2.2.1,y1.p3,y1.q4,y2.1,y2.2.1,y2.2.2.1,y2.p3,y2.q4)))))) λs1=>.ite s1.2.1 (.leaf (2143289344:Int)) (.join (S:=Yap) (zt6 x) (.ite s1.p5 (.leaf (.inl (s1.1,true,s1.2.2.1,s1.p3,s1.p4,s1.p5,s1.p6,s1.p7,s1.p8,s1.p9,s1.p10,s1.q11))) (.ite (!s1.p10) (.leaf (.inl (s1.1,(s1.p8==0),s1.2.2.1,s1.p3,s1.p4,s1.p5,s1.p6,s1.p7,s1.p8,s1.p9,s1.p10,s1.q11))) (.leaf (.inl (s1.1,false,s1.2.2.1,s1.p3,s1.p4,s1.p5,s1.p6,s1.p7,s1.p8,s1.p9,s1.p10,s1.q11))))) λs2=>.ite s2.2.1 (.call (ze9 n) s2.1 λ(y4:Int)=>.leaf y4) (.join (S:=Yap) (zt7 x) (.ite s2.p10 (.leaf (.inl (s2.1,true,s2.2.2.1,s2.p3,s2.p4,s2.p5,s2.p6,s2.p7,s2.p8,s2.p9,s2.p10,s2.q11))) (.leaf (.inl (s2.1,(s2.p3==0),s2.2.2.1,s2.p3,s2.p4,s2.p5,s2.p6,s2.p7,s2.p8,s2.p9,s2.p10,s2.q11)))) λs3=>.ite s3.2.1 (.call (zea n) s3.1 λ(y5:Int)=>.leaf y5) (.call (zph n) (⟨s3.2.2.1,s3.p3,s3.p4,s3.p5,s3.p6⟩:Xm) λ(y6:Yah)=>.call (zph n) (⟨s3.p7,s3.p8,s3.p9,s3.p10,s3.q11⟩:Xm) λ(y7:Yah)=>.need (y7.2.1≠0) (.need (y7.2.1≠0) (.join (S:=Ydc) (zt8 x) (.ite (decide (((u64.wrap (y6.2.1 * 2 ^ min (38:Int).toNat u64.bits)).tmod y7.2.1) > (0:Int))) (.leaf (.inl (s3.1,(u64.wrap ((u64.wrap ((u64.wrap ((u64.wrap (y6.2.1 * 2 ^ min (38:Int).toNat u64.bits)).tdiv y7.2.1)) * (2:Int)))+(1:Int))),y6.1,y6.2.1,y6.2.2.1,y6.p3,y6.q4,y7.1,y7.2.1,y7.2.2.1,y7.p3,y7.q4))) (.leaf (.inl (s3.1,(u64.wrap ((u64.wrap ((u64.wrap (y6.2.1 * 2 ^ min (38:Int).toNat u64.bits)).tdiv y7.2.1)) * (2:Int))),y6.1,y6.2.1,y6.2.2.1,y6.p3,y6.q4,y7.1,y7.2.1,y7.2.2.1,y7.p3,y7.q4)))) λs4=>.call (z72 n) (s4.1,s4.2.1,(i64.wrap ((i64.wrap (s4.p4 - s4.p9)) - (39:Int)))) λ(y8:Int)=>.leaf y8)))))
def yj7 (n:Nat):Con P_ Ty_:=zj (X:=Yaa) (R:=Int) (pro:=[]) (yhq n) 124 yhr (λx=>.two .no (.two .no (.two .no (.two .no (.two (.two (.join (Yap) (zt5 x) ⟨[(5,.ref 5),(6,.ref 6),(7,.any),(20,.any)],[(5,.any),(6,.any)]⟩ .no (.two .no (.join (Yap) (zt6 x) ⟨[(5,.ref 5),(6,.ref 6),(7,.any),(52,.any)],[(5,.any),(6,.any)]⟩ .no (.two .no (.join (Yap) (zt7 x) ⟨[(5,.ref 5),(6,.ref 6),(7,.any),(67,.any)],[(5,.any),(6,.any)]⟩ .no .no))))) .no) (.two .no (.two .no (.two .no (.two .no (.two .no (.two .no (.join (Ydc) (zt8 x) ⟨[(5,.ref 5),(6,.ref 6),(7,.any),(9,.any)],[(5,.any),(6,.any)]⟩ .no .no)))))))))))) [.any,.any] [] [] ⟨[(4,.any)],[]⟩ [] true (λx=>[I_ x.1,I_ x.2]) (λx=>[]) (λy=>([(4,I_ y)],[])) (λy=>I_ y) (λy=>[]) (yhs n)
def ygq (n:Nat):Cx P_ Ty_:=⟨[],[],[],[]⟩
abbrev ygr:List (List Nat):=[[0],[0,3],[3,8],[2],[2]]
def ygs (n:Nat)(x:Int):Pt P_ Ty_ [] Int:=.ite ((x.fdiv (2 ^ min (31:Int).toNat i64.bits))==1) (.leaf (i64.wrap ((i64.wrap (0 - (i64.wrap (BitVec.ofInt i64.bits x &&& ~~~BitVec.ofInt i64.bits (2147483648:Int)).toNat))) - (1:Int)))) (.leaf (i64.wrap (BitVec.ofInt i64.bits x &&& ~~~BitVec.ofInt i64.bits (2147483648:Int)).toNat))
def zec (n:Nat):Con P_ Ty_:=zj (X:=Int) (R:=Int) (pro:=[]) (ygq n) 116 ygr (λx=>.no) [.any] [] [] ⟨[(2,.any)],[]⟩ [] true (λx=>[I_ x]) (λx=>[]) (λy=>([(2,I_ y)],[])) (λy=>I_ y) (λy=>[]) (ygs n)
def ygn (n:Nat):Cx P_ Ty_:=⟨[k69 n,z9j n,zec n],[],[],[]⟩
abbrev ygo:List (List Nat):=[[0,1],[0,1,9],[4],[0,1,14],[4],[4]]
def ygp (n:Nat)(x:Yaa):Pt P_ Ty_ [] Int:=.call (k69 n) x.1 λ(y1:Yah)=>.call (k69 n) x.2 λ(y2:Yah)=>.call (z9j n) ((⟨y1.1,y1.2.1,y1.2.2.1,y1.p3,y1.q4⟩:Xm),(⟨y2.1,y2.2.1,y2.2.2.1,y2.p3,y2.q4⟩:Xm)) λ(y3:Bool)=>.ite y3 (.leaf (2143289344:Int)) (.call (zec n) x.2 λ(y4:Int)=>.call (zec n) x.1 λ(y5:Int)=>.ite (decide (y4<y5)) (.leaf x.2) (.leaf x.1))
def zwi (n:Nat):Con P_ Ty_:=zj (X:=Yaa) (R:=Int) (pro:=[]) (ygn n) 106 ygo (λx=>.no) [.any,.any] [] [] ⟨[(4,.any)],[]⟩ [] true (λx=>[I_ x.1,I_ x.2]) (λx=>[]) (λy=>([(4,I_ y)],[])) (λy=>I_ y) (λy=>[]) (ygp n)
def yht (n:Nat):Cx P_ Ty_:=⟨[k69 n,z9j n,zec n],[],[],[]⟩
abbrev yhu:List (List Nat):=[[0,1],[0,1,9],[4],[0,1,14],[4],[4]]
def yhv (n:Nat)(x:Yaa):Pt P_ Ty_ [] Int:=.call (k69 n) x.1 λ(y1:Yah)=>.call (k69 n) x.2 λ(y2:Yah)=>.call (z9j n) ((⟨y1.1,y1.2.1,y1.2.2.1,y1.p3,y1.q4⟩:Xm),(⟨y2.1,y2.2.1,y2.2.2.1,y2.p3,y2.q4⟩:Xm)) λ(y3:Bool)=>.ite y3 (.leaf (2143289344:Int)) (.call (zec n) x.2 λ(y4:Int)=>.call (zec n) x.1 λ(y5:Int)=>.ite (decide (y4 > y5)) (.leaf x.2) (.leaf x.1))
def yj8 (n:Nat):Con P_ Ty_:=zj (X:=Yaa) (R:=Int) (pro:=[]) (yht n) 125 yhu (λx=>.no) [.any,.any] [] [] ⟨[(4,.any)],[]⟩ [] true (λx=>[I_ x.1,I_ x.2]) (λx=>[]) (λy=>([(4,I_ y)],[])) (λy=>I_ y) (λy=>[]) (yhv n)
def yhz (n:Nat):Cx P_ Ty_:=⟨[],[],[],[]⟩
abbrev yi0:List (List Nat):=[[0],[2]]
def yi1 (n:Nat)(x:Int):Pt P_ Ty_ [] Bool:=.leaf ((i64.wrap (BitVec.ofInt i64.bits x &&& ~~~BitVec.ofInt i64.bits (2147483648:Int)).toNat)==0)
def zpi (n:Nat):Con P_ Ty_:=zj (X:=Int) (R:=Bool) (pro:=[]) (yhz n) 129 yi0 (λx=>.no) [.any] [] [] ⟨[(2,.any)],[]⟩ [] true (λx=>[I_ x]) (λx=>[]) (λy=>([(2,B_ y)],[])) (λy=>B_ y) (λy=>[]) (yi1 n)
def yhw (n:Nat):Cx P_ Ty_:=⟨[k69 n,z9j n,zpi n,zec n],[],[],[]⟩
abbrev yhx:List (List Nat):=[[0,1],[0,1,17],[4],[4]]
def zt9 (x:Yaa)(p:Bool):EH Ty_:=([(0,I_ x.1),(1,I_ x.2),(17,B_ p)],[])
def yhy (n:Nat)(x:Yaa):Pt P_ Ty_ [] Bool:=.join (S:=Bool) (zt9 x) (.call (k69 n) x.1 λ(y1:Yah)=>.call (k69 n) x.2 λ(y2:Yah)=>.call (z9j n) ((⟨y1.1,y1.2.1,y1.2.2.1,y1.p3,y1.q4⟩:Xm),(⟨y2.1,y2.2.1,y2.2.2.1,y2.p3,y2.q4⟩:Xm)) λ(y3:Bool)=>.ite y3 (.leaf (.inl true)) (.call (zpi n) x.1 λ(y4:Bool)=>.ite y4 (.call (zpi n) x.2 λ(y5:Bool)=>.leaf (.inl y5)) (.leaf (.inl false)))) λs1=>.ite s1 (.leaf false) (.call (zec n) x.1 λ(y6:Int)=>.call (zec n) x.2 λ(y7:Int)=>.leaf (decide (y6<y7)))
def yj9 (n:Nat):Con P_ Ty_:=zj (X:=Yaa) (R:=Bool) (pro:=[]) (yhw n) 126 yhx (λx=>.two .no (.two (.join Bool (zt9 x) ⟨[(0,.any),(1,.any),(17,.any)],[]⟩ .no .no) .no)) [.any,.any] [] [] ⟨[(4,.any)],[]⟩ [] true (λx=>[I_ x.1,I_ x.2]) (λx=>[]) (λy=>([(4,B_ y)],[])) (λy=>B_ y) (λy=>[]) (yhy n)
def yi2 (n:Nat):Cx P_ Ty_:=⟨[k69 n,zpi n,k65 n],[],[],[]⟩
abbrev yi3:List (List Nat):=[[0,1,2],[1,2,13],[6],[6]]
def zta (x:Yao)(p:Bool):EH Ty_:=([(1,I_ x.2.1),(2,I_ x.2.2),(13,B_ p)],[])
def yi4 (n:Nat)(x:Yao):Pt P_ Ty_ [] Int:=.join (S:=Bool) (zta x) (.call (k69 n) x.1 λ(y1:Yah)=>.ite y1.q4 (.leaf (.inl true)) (.call (zpi n) x.1 λ(y2:Bool)=>.leaf (.inl y2))) λs1=>.ite s1 (.call (k65 n) x.2.2 λ(y3:Int)=>.leaf y3) (.call (k65 n) x.2.1 λ(y4:Int)=>.leaf y4)
def yja (n:Nat):Con P_ Ty_:=zj (X:=Yao) (R:=Int) (pro:=[]) (yi2 n) 127 yi3 (λx=>.two .no (.two (.join Bool (zta x) ⟨[(1,.any),(2,.any),(13,.any)],[]⟩ .no .no) .no)) [.any,.any,.any] [] [] ⟨[(6,.any)],[]⟩ [] true (λx=>[I_ x.1,I_ x.2.1,I_ x.2.2]) (λx=>[]) (λy=>([(6,I_ y)],[])) (λy=>I_ y) (λy=>[]) (yi4 n)
def yh6 (n:Nat):Cx P_ Ty_:=⟨[zkw n,yj3 n,zwk n,yj4 n,yj5 n,y6b n,zkx n,yj6 n,zpg n,yj7 n,zwi n,yj8 n,yj9 n,yja n],[],[],[]⟩
abbrev yh7:List (List Nat):=[[0,1,2,3],[1,2,3,9],[1,2,3,9,10],[8],[1,2,3,9,14],[8],[1,2,3,9,18],[8],[1,2,3,9,22],[8],[1,2,3,9,26],[8],[1,2,3,9,31],[8],[1,2,3,9,36],[8],[1,2,3,9,41],[8],[1,2,3,9,46],[8],[1,2,3,9,51],[8],[1,2,3,9,56],[8],[1,2,3,61],[8],[8]]
def yh8 (n:Nat)(x:Ybc):Pt P_ Ty_ [] Int:=.ite (x.1==3) (.call (zkw n) x.2.1 λ(y1:Int)=>.leaf y1) (.ite (x.1==11) (.call (yj3 n) x.2.1 λ(y2:Int)=>.leaf y2) (.ite (x.1==12) (.call (zwk n) x.2.1 λ(y3:Int)=>.leaf y3) (.ite (x.1==13) (.call (yj4 n) x.2.1 λ(y4:Int)=>.leaf y4) (.ite (x.1==14) (.call (yj5 n) x.2.1 λ(y5:Bool)=>.call (y6b n) y5 λ(y6:Int)=>.leaf y6) (.ite (x.1==4) (.call (zkx n) (x.2.1,x.2.2.1) λ(y7:Int)=>.leaf y7) (.ite (x.1==5) (.call (yj6 n) (x.2.1,x.2.2.1) λ(y8:Int)=>.leaf y8) (.ite (x.1==6) (.call (zpg n) (x.2.1,x.2.2.1) λ(y9:Int)=>.leaf y9) (.ite (x.1==7) (.call (yj7 n) (x.2.1,x.2.2.1) λ(y10:Int)=>.leaf y10) (.ite (x.1==8) (.call (zwi n) (x.2.1,x.2.2.1) λ(y11:Int)=>.leaf y11) (.ite (x.1==9) (.call (yj8 n) (x.2.1,x.2.2.1) λ(y12:Int)=>.leaf y12) (.ite (x.1==10) (.call (yj9 n) (x.2.1,x.2.2.1) λ(y13:Bool)=>.call (y6b n) y13 λ(y14:Int)=>.leaf y14) (.call (yja n) (x.2.1,x.2.2.1,x.q3) λ(y15:Int)=>.leaf y15))))))))))))
def yj2 (n:Nat):Con P_ Ty_:=zj (X:=Ybc) (R:=Int) (pro:=[]) (yh6 n) 109 yh7 (λx=>.no) [.any,.any,.any,.any] [] [] ⟨[(8,.any)],[]⟩ [] true (λx=>[I_ x.1,I_ x.2.1,I_ x.2.2.1,I_ x.q3]) (λx=>[]) (λy=>([(8,I_ y)],[])) (λy=>I_ y) (λy=>[]) (yh8 n)
def zfp (n:Nat):Cx P_ Ty_:=⟨[zwj n,yj1 n,yj2 n],[(100,false,6),(101,false,6)],[],[]⟩
abbrev zfq:List (List Nat):=[[0,1],[0,1,6],[0,1,6,23],[4,5],[0,1,6,7],[0,1,6,7,8],[0,1,6,7,8,30],[0,1,6,7,8,42],[0,1,6,7,8],[0,1,6,7,8],[0,1,6,7,9],[0,1,6,7,9,50],[0,1,6,7,9,71],[4,5],[0,1,6,7,9],[0,1,6,7,10],[0,1,6,7,10,11],[0,1,6,7,10,11,74],[0,1,6,7,10,11,12],[0,1,6,7,10,11,12,13],[0,1,6,7,10,11,12,13,80],[0,1,6,7,10,11,12,13],[0,1,6,7,10,11,12,13],[0,1,6,7,10,11],[0,1,6,7,10,11],[4,5]]
def ztg (x:Yaf)(p:Yag):EH Ty_:=([(0,I_ x.1),(1,.im 7 x.2),(6,I_ p.1),(23,B_ p.2)],[])
def zth (x:Yaf)(v1:Int)(q1:Yaa)(p:Bool):EH Ty_:=([(0,I_ x.1),(1,.im 7 x.2),(6,I_ v1),(7,I_ q1.1),(8,I_ q1.2),(42,B_ p)],[])
def zti (x:Yaf)(v2:Yaa)(q2:Int)(p:Bool):EH Ty_:=([(0,I_ x.1),(1,.im 7 x.2),(6,I_ v2.1),(7,I_ v2.2),(9,I_ q2),(71,B_ p)],[])
def yb7 (n:Nat)(x:Yaf)(v1:Int)(q1:Yaa):Pt P_ Ty_ [] (Bo (Yaa) (Yaa) Empty):=.ite (decide (q1.2<v1)) (.join (S:=Bool) (zth x v1 q1) (.ite (q1.1==1) (.leaf (.inl true)) (.bnd (idx x.2 q1.2) λy3=>.leaf (.inl ((y3.length:Int)==0)))) λs2=>.ite s2 (.bnd (idx x.2 q1.2) λy4=>.leaf (.go ((y4.length:Int),(i64.wrap (q1.2+(1:Int)))))) (.leaf (.go (q1.1,(i64.wrap (q1.2+(1:Int))))))) (.leaf (.out (q1.1,q1.2)))
def ztc (n:Nat)(x:Yaf)(v1:Int):z15 P_ Ty_ []:=z1d (X:=Yaa) (Y:=Yaa) (Z:=Empty) (zfp n) (z16 [1,1,1,1,0,1,0,0] (fnC P_ 100 zfq)) (λq1=>.two .no (.two (.two (.join Bool (zth x v1 q1) ⟨[(0,.any),(1,.im 7),(6,.any),(7,.any),(8,.any),(42,.any)],[]⟩ .no .no) .no) .no)) 0 false ⟨[(0,.any),(1,.im 7),(6,.any),(7,.any),(8,.any)],[]⟩ ⟨[(0,.any),(1,.im 7),(6,.any),(7,.any),(8,.any),(30,.any)],[]⟩ ⟨[],[]⟩ (λq1=>([(0,I_ x.1),(1,.im 7 x.2),(6,I_ v1),(7,I_ q1.1),(8,I_ q1.2)],[])) (λp=>([(0,I_ x.1),(1,.im 7 x.2),(6,I_ v1),(7,I_ p.1),(8,I_ p.2),(30,B_ false)],[])) (λp=>nomatch p) n (yb7 n x v1)
def yb8 (n:Nat)(x:Yaf)(v2:Yaa)(q2:Int):Pt P_ Ty_ [] (Bo Int Int Unit):=.ite (decide (q2<v2.1)) (.join (S:=Bool) (zti x v2 q2) (.bnd (idx x.2 q2) λy6=>.ite ((y6.length:Int) != v2.2) (.ite (v2.2==0) (.leaf (.inl true)) (.bnd (idx x.2 q2) λy7=>.leaf (.inl ((y7.length:Int) != (1:Int))))) (.leaf (.inl false))) λs3=>.ite s3 (.leaf (.ret ())) (.leaf (.go (i64.wrap (q2+(1:Int)))))) (.leaf (.out q2))
def ztd (n:Nat)(x:Yaf)(v2:Yaa):z15 P_ Ty_ []:=z1d (X:=Int) (Y:=Int) (Z:=Unit) (zfp n) (z16 [1,1,1,1,1,0,1,0,0] (fnC P_ 100 zfq)) (λq2=>.two .no (.two (.two (.join Bool (zti x v2 q2) ⟨[(0,.any),(1,.im 7),(6,.any),(7,.any),(9,.any),(71,.any)],[]⟩ .no .no) .no) .no)) 2 true ⟨[(0,.any),(1,.im 7),(6,.any),(7,.any),(9,.any)],[]⟩ ⟨[(0,.any),(1,.im 7),(6,.any),(7,.any),(9,.any),(50,.any)],[]⟩ ⟨[(4,.any),(5,.any)],[]⟩ (λq2=>([(0,I_ x.1),(1,.im 7 x.2),(6,I_ v2.1),(7,I_ v2.2),(9,I_ q2)],[])) (λp=>([(0,I_ x.1),(1,.im 7 x.2),(6,I_ v2.1),(7,I_ v2.2),(9,I_ p),(50,B_ false)],[])) (λp=>([(4,.zs),(5,I_ (50:Int))],[])) n (yb8 n x v2)
def yba (n:Nat)(x:Yaf)(v3:Yaa)(q3:Yab)(v4:Unit)(q4:Ybc):Pt P_ Ty_ [] (Bo (Ybc) (Ybc) Empty):=.ite (decide (q4.1<v3.1)) (.bnd (idx x.2 q4.1) λy9=>.call (yj1 n) (y9,q3.1) λ(y10:Int)=>.ite (q4.1==(0:Nat)) (.leaf (.go ((i64.wrap (q4.1+(1:Int))),y10,q4.2.2.1,q4.q3))) (.ite (q4.1==(1:Nat)) (.leaf (.go ((i64.wrap (q4.1+(1:Int))),q4.2.1,y10,q4.q3))) (.ite (q4.1==(2:Nat)) (.leaf (.go ((i64.wrap (q4.1+(1:Int))),q4.2.1,q4.2.2.1,y10))) .no))) (.leaf (.out (q4.1,q4.2.1,q4.2.2.1,q4.q3)))
def ztf (n:Nat)(x:Yaf)(v3:Yaa)(q3:Yab)(v4:Unit):z15 P_ Ty_ []:=z1d (X:=Ybc) (Y:=Ybc) (Z:=Empty) (zfp n) (z16 [1,1,1,1,1,1,1,0,1,0,0,1,0,0,1,0,1,0,0] (fnC P_ 100 zfq)) (λq4=>.no) 6 false ⟨[(0,.any),(1,.im 7),(6,.any),(7,.any),(10,.ref 600001),(11,.any),(12,.ref 12),(13,.any)],[(600001,.any),(12,.any)]⟩ ⟨[(0,.any),(1,.im 7),(6,.any),(7,.any),(10,.ref 600001),(11,.any),(12,.ref 12),(13,.any),(80,.any)],[(600001,.any),(12,.any)]⟩ ⟨[],[]⟩ (λq4=>([(0,I_ x.1),(1,.im 7 x.2),(6,I_ v3.1),(7,I_ v3.2),(10,.sw 600001 []),(11,I_ q3.1),(12,.pt 12 [] 0 0),(13,I_ q4.1)],[(600001,.typ false 6 q3.2),(12,.lit 3 [[I_ q4.2.1,I_ q4.2.2.1,I_ q4.q3]])])) (λp=>([(0,I_ x.1),(1,.im 7 x.2),(6,I_ v3.1),(7,I_ v3.2),(10,.sw 600001 []),(11,I_ q3.1),(12,.pt 12 [] 0 0),(13,I_ p.1),(80,B_ false)],[(600001,.typ false 6 q3.2),(12,.lit 3 [[I_ p.2.1,I_ p.2.2.1,I_ p.q3]])])) (λp=>nomatch p) n (yba n x v3 q3 v4)
def yb9 (n:Nat)(x:Yaf)(v3:Yaa)(q3:Yab):Pt P_ Ty_ [] (Bo (Yab) (Yab) Empty):=.ite (decide (q3.1<v3.2)) (.loop (V:=Unit) (ztf n x v3 q3) () ((0:Int),(0:Int),(0:Int),(0:Int)) λ(v4:Unit) (y11:Ybc)=>.call (yj2 n) (x.1,y11.2.1,y11.2.2.1,y11.q3) λ(y12:Int)=>.need ((q3.2.length+([y12]:List Int).length) * 8<=140737488355328) (.leaf (.go ((i64.wrap (q3.1+(1:Int))),(q3.2++([y12]:List Int)))))) (.leaf (.out (q3.1,q3.2)))
def zte (n:Nat)(x:Yaf)(v3:Yaa):z15 P_ Ty_ []:=z1d (X:=Yab) (Y:=Yab) (Z:=Empty) (zfp n) (z16 [1,1,1,1,1,1,1,0,1,0,0] (fnC P_ 100 zfq)) (λq3=>.two .no (.two (.two (.two .no (.two (.two .no (.two (.loop Unit (ztf n x v3 q3) false ⟨[(0,.any),(1,.im 7),(6,.any),(7,.any),(10,.ref 600001),(11,.any),(12,.ref 12),(13,.any)],[(600001,.any),(12,.any)]⟩) .no)) .no)) .no) .no)) 4 false ⟨[(0,.any),(1,.im 7),(6,.any),(7,.any),(10,.own 600001 false 6),(11,.any)],[(600001,.any)]⟩ ⟨[(0,.any),(1,.im 7),(6,.any),(7,.any),(10,.ref 600001),(11,.any),(74,.any)],[(600001,.any)]⟩ ⟨[],[]⟩ (λq3=>([(0,I_ x.1),(1,.im 7 x.2),(6,I_ v3.1),(7,I_ v3.2),(10,.sw 600001 []),(11,I_ q3.1)],[(600001,.typ false 6 q3.2)])) (λp=>([(0,I_ x.1),(1,.im 7 x.2),(6,I_ v3.1),(7,I_ v3.2),(10,.sw 600001 []),(11,I_ p.1),(74,B_ false)],[(600001,.typ false 6 p.2)])) (λp=>nomatch p) n (yb9 n x v3)
def yi8 (n:Nat)(x:Yaf):Pt P_ Ty_ [] (Yab):=.call (zwj n) x.1 λ(y1:Int)=>.join (S:=Yag) (ztg x) (.ite (y1==0) (.leaf (.inl (y1,true))) (.leaf (.inl (y1,((x.2.length:Int) != y1))))) λs1=>.ite s1.2 (.leaf ((1:Int),([]:List Int))) (.bnd (idx x.2 (0:Int)) λy2=>.loop (V:=Int) (ztc n x) s1.1 ((y2.length:Int),(0:Int)) λ(v1:Int) (y5:Yaa)=>.loopR (V:=Yaa) (ztd n x) (v1,y5.1) (0:Int) (λ(v2:Yaa) (y8:Int)=>.loop (V:=Yaa) (zte n x) (v2.1,v2.2) ((0:Int),([]:List Int)) λ(v3:Yaa) (y13:Yab)=>.leaf ((0:Int),y13.2)) λ(v2:Yaa) (z1:Unit)=>.leaf ((50:Int),([]:List Int)))
def yjc (n:Nat):Con P_ Ty_:=zj (X:=Yaf) (R:=Yab) (pro:=[]) (zfp n) 100 zfq (λx=>.two .no (.two .no (.two (.join (Yag) (ztg x) ⟨[(0,.any),(1,.im 7),(6,.any),(23,.any)],[]⟩ .no .no) (.two .no (.two (.two .no (.two (.loop Int (ztc n x) false ⟨[(0,.any),(1,.im 7),(6,.any),(7,.any),(8,.any)],[]⟩) .no)) (.two (.two .no (.two (.loop (Yaa) (ztd n x) true ⟨[(0,.any),(1,.im 7),(6,.any),(7,.any),(9,.any)],[]⟩) .no)) (.two .no (.two (.two .no (.two (.loop (Yaa) (zte n x) false ⟨[(0,.any),(1,.im 7),(6,.any),(7,.any),(10,.own 600001 false 6),(11,.any)],[(600001,.any)]⟩) .no)) .no)))))))) [.any,.im 7] [] [100000] ⟨[(4,.own 100000 false 6),(5,.any)],[(100000,.any)]⟩ [100000] true (λx=>[I_ x.1,.im 7 x.2]) (λx=>[]) (λy=>([(4,.sw 100000 []),(5,I_ y.1)],[(100000,.typ false 6 y.2)])) (λy=>.tu [.sw 100000 [],I_ y.1]) (λy=>[(100000,.typ false 6 y.2)]) (yi8 n)
def yi5 (n:Nat):Cx P_ Ty_:=⟨[zwj n,yjc n,zi1 n,zkv n],[(46,false,7)],[],[]⟩
abbrev yi6:List (List Nat):=[[2,3,4],[2,3,4,5],[2,3,4,5,18],[4],[2,3,4,5,6],[2,4,5,7],[2,4,5,7,60],[4,7],[4]]
def ztb (x:Ybo)(p:(List Int)):EH Ty_:=([(4,.pt 4 [] 0 0),(7,.sw 600001 [])],[(4,.lit 2 [[.zs,I_ (0:Int)]]),(600001,.typ false 6 p)])
def yi7 (n:Nat)(x:Ybo):Pt P_ Ty_ [] (Yau):=.bnd (idx x.1.C_.a_ x.2.D_) λy1=>.ite (y1.j_==2) (.bnd (idx x.1.a_ x.2.A_) λy2=>.leaf (y2.y_,y2.u_)) (.bnd (idx x.1.a_ x.2.A_) λy3=>.bnd (idx x.1.a_ x.2.B_) λy4=>.bnd (idx x.1.a_ x.2.C_) λy5=>.call (zwj n) x.2.c_ λ(y6:Int)=>.need (0<=y6/\y6<=(([y3.y_,y4.y_,y5.y_]:List (List Int)).length:Int)) (.need (0+y6.toNat<=([y3.y_,y4.y_,y5.y_]:List (List Int)).length) (.call (yjc n) (x.2.c_,((([y3.y_,y4.y_,y5.y_]:List (List Int)).drop 0).take y6.toNat)) λ(y7:Yab)=>.join (S:=(List Int)) (ztb x) (.ite ((y7.2.length:Int)==1) (.call (zi1 n) (x.1.C_,y1) λ(y8:Int)=>.need (0<=(0:Int)/\(0:Int)<(y7.2.length:Int)) (.bnd (y7.2[(0:Int).toNat]?) λy9=>.call (zkv n) (y8,y9) λ(y10:Yab)=>.leaf (.inl y10.2))) (.leaf (.inl y7.2))) λs1=>.leaf (s1,(0:Int)))))
def yjb (n:Nat):Con P_ Ty_:=zj (X:=Ybo) (R:=Yau) (pro:=[]) (yi5 n) 87 yi6 (λx=>.two .no (.two .no (.two .no (.two .no (.two .no (.join (List Int) (ztb x) ⟨[(4,.ref 4),(7,.ref 600001)],[(4,.any),(600001,.any)]⟩ .no .no)))))) [.ag [.im 1,.im 2,.im 3,.im 4,.im 14,.im 14,.im 7,.im 11,.im 11,.any],.ag [.any,.any,.any,.any,.any,.any,.any]] [] [] ⟨[(4,.ref 100000)],[(100000,.fix [.im 6,.no])]⟩ [] false (λx=>[.ag [.im 1 x.1.C_.f_,.im 2 x.1.C_.a_,.im 3 x.1.C_.e_,.im 4 x.1.C_.d_,.im 14 x.1.a_,.im 14 x.1.e_,.im 7 x.1.H_,.im 11 x.1.z_,.im 11 x.1.F_,I_ x.1.L_],.ag [I_ x.2.c_,I_ x.2.D_,I_ x.2.A_,I_ x.2.B_,I_ x.2.C_,I_ x.2.N_,.sc (.int .u32 x.2.m_)]]) (λx=>[]) (λy=>([(4,.pt 100000 [] 0 0)],[(100000,.lit 2 [[.im 6 y.1,I_ y.2]])])) (λy=>.ag [.im 6 y.1,I_ y.2]) (λy=>[]) (yi7 n)
end
end Loom
