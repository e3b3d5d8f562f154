/- What the functions that FuseLong reaches answer,and that they do (part 1 of 2). -/
import Derived.Test.YtkdodmdcmakdgaaGreatLoomC
import Derived.Test.YtkdodmdcmakdgaaGreatChecked
import Derived.KernelRfl
import Derived.WalkKit
import Derived.WalkSpells
import Derived.WalkLawsBesides
import Derived.Lib.Bytealg
set_option linter.unusedVariables false
set_option linter.unusedSimpArgs false
namespace Loom
open Go Go.RowKit
set_option maxRecDepth 100000
noncomputable abbrev P_:=Go.Proofs.Tryz.prog
abbrev W_ (x:Int):=IntKind.i64.wrap x
structure Xa where
 Many_:Int
 Params_:Int
 Whens_:Int
structure Xb where
 Kind_:Int
 Param_:Int
structure Xc where
 Op_:Int
 D_:Int
 A_:Int
 B_:Int
 C_:Int
 N_:Int
 Bits_:Int
structure Xd where
 Name_:ByteArray
 Kind_:Int
 Len_:Int
structure Xe where
 Type_:Xb
 Keep_:Bool
 Bits_:Int
 Int_:Int
structure Xf where
 Sign_:(List Xd)
 Regs_:(List Xb)
 Slots_:(List Xe)
 List_:(List Xc)
structure Xg where
 Op_:Int
 Param_:Int
 Set_:(List Bool)
structure Xh where
 Grads_:(List (List Int))
 Params_:(List (List Int))
structure Xi where
 Nums_:(List Int)
 Int_:Int
structure Xj where
 C_:Xf
 Slots_:(List Xi)
structure Xk where
 C_:Xf
 Regs_:(List Xi)
 Slots_:(List Xi)
 Out_:(List (List Int))
 Grads_:(List (List Int))
 Params_:(List (List Int))
 Cost_:Int
structure Xl where
 Minus_:Bool
 M_:Int
 E_:Int
 Inf_:Bool
 Nan_:Bool
def El_:Nat→Type
 | 0=>Int
 | 1=>Xb
 | 2=>Xc
 | 3=>Xd
 | 4=>Xe
 | 5=>Bool
 | 6=>Int
 | 7=>(List Int)
 | 8=>Xg
 | 9=>Int
 | 10=>(List Int)
 | 11=>Xh
 | 12=>Xi
 | 13=>Xa
 | _+14=>Empty
def c0 (_:Bool) (x:Int):List AV:=[.sc (.int .u8 x)]
def d0 (_:Bool) (x:Int):List (TV El_):=[.sc (.int .u8 x)]
def c1 (_:Bool) (x:Xb):List AV:=[.sc (.int .i64 x.Kind_),.sc (.int .i64 x.Param_)]
def d1 (_:Bool) (x:Xb):List (TV El_):=[.sc (.int .i64 x.Kind_),.sc (.int .i64 x.Param_)]
def c2 (_:Bool) (x:Xc):List AV:=[.sc (.int .i64 x.Op_),.sc (.int .i64 x.D_),.sc (.int .i64 x.A_),.sc (.int .i64 x.B_),.sc (.int .i64 x.C_),.sc (.int .i64 x.N_),.sc (.int .u32 x.Bits_)]
def d2 (_:Bool) (x:Xc):List (TV El_):=[.sc (.int .i64 x.Op_),.sc (.int .i64 x.D_),.sc (.int .i64 x.A_),.sc (.int .i64 x.B_),.sc (.int .i64 x.C_),.sc (.int .i64 x.N_),.sc (.int .u32 x.Bits_)]
def c3 (_:Bool) (x:Xd):List AV:=[.sc (.string x.Name_),.sc (.int .i64 x.Kind_),.sc (.int .i64 x.Len_)]
def d3 (_:Bool) (x:Xd):List (TV El_):=[.sc (.string x.Name_),.sc (.int .i64 x.Kind_),.sc (.int .i64 x.Len_)]
def c4 (_:Bool) (x:Xe):List AV:=[.sc (.int .i64 x.Type_.Kind_),.sc (.int .i64 x.Type_.Param_),.sc (.bool x.Keep_),.sc (.int .u32 x.Bits_),.sc (.int .i64 x.Int_)]
def d4 (_:Bool) (x:Xe):List (TV El_):=[.sc (.int .i64 x.Type_.Kind_),.sc (.int .i64 x.Type_.Param_),.sc (.bool x.Keep_),.sc (.int .u32 x.Bits_),.sc (.int .i64 x.Int_)]
def c5 (_:Bool) (x:Bool):List AV:=[.sc (.bool x)]
def d5 (_:Bool) (x:Bool):List (TV El_):=[.sc (.bool x)]
def c6 (_:Bool) (x:Int):List AV:=[.sc (.int .i64 x)]
def d6 (_:Bool) (x:Int):List (TV El_):=[.sc (.int .i64 x)]
def c7:Bool→(List Int)→List AV
 | true,x=>[.ow 1 (x.map (c6 false))]
 | false,x=>[.im 1 (x.map (c6 false))]
def d7:Bool→(List Int)→List (TV El_)
 | true,x=>[.ow false 6 x]
 | false,x=>[.im 6 x]
def c8:Bool→Xg→List AV
 | true,x=>[.sc (.int .i64 x.Op_),.sc (.int .i64 x.Param_),.ow 1 (x.Set_.map (c5 false))]
 | false,x=>[.sc (.int .i64 x.Op_),.sc (.int .i64 x.Param_),.im 1 (x.Set_.map (c5 false))]
def d8:Bool→Xg→List (TV El_)
 | true,x=>[.sc (.int .i64 x.Op_),.sc (.int .i64 x.Param_),.ow false 5 x.Set_]
 | false,x=>[.sc (.int .i64 x.Op_),.sc (.int .i64 x.Param_),.im 5 x.Set_]
def c9 (_:Bool) (x:Int):List AV:=[.sc (.int .u32 x)]
def d9 (_:Bool) (x:Int):List (TV El_):=[.sc (.int .u32 x)]
def c10:Bool→(List Int)→List AV
 | true,x=>[.ow 1 (x.map (c9 false))]
 | false,x=>[.im 1 (x.map (c9 false))]
def d10:Bool→(List Int)→List (TV El_)
 | true,x=>[.ow false 9 x]
 | false,x=>[.im 9 x]
def c11:Bool→Xh→List AV
 | true,x=>[.ow 1 (x.Grads_.map (c10 true)),.ow 1 (x.Params_.map (c10 true))]
 | false,x=>[.im 1 (x.Grads_.map (c10 false)),.im 1 (x.Params_.map (c10 false))]
def d11:Bool→Xh→List (TV El_)
 | true,x=>[.ow true 10 x.Grads_,.ow true 10 x.Params_]
 | false,x=>[.im 10 x.Grads_,.im 10 x.Params_]
def c12:Bool→Xi→List AV
 | true,x=>[.ow 1 (x.Nums_.map (c6 false)),.sc (.int .i64 x.Int_)]
 | false,x=>[.im 1 (x.Nums_.map (c6 false)),.sc (.int .i64 x.Int_)]
def d12:Bool→Xi→List (TV El_)
 | true,x=>[.ow false 6 x.Nums_,.sc (.int .i64 x.Int_)]
 | false,x=>[.im 6 x.Nums_,.sc (.int .i64 x.Int_)]
def c13 (_:Bool) (x:Xa):List AV:=[.sc (.int .i64 x.Many_),.sc (.int .i64 x.Params_),.sc (.int .i64 x.Whens_)]
def d13 (_:Bool) (x:Xa):List (TV El_):=[.sc (.int .i64 x.Many_),.sc (.int .i64 x.Params_),.sc (.int .i64 x.Whens_)]
def ca_ (m:Bool):(t:Nat)→El_ t→List AV
 | 0=>c0 m
 | 1=>c1 m
 | 2=>c2 m
 | 3=>c3 m
 | 4=>c4 m
 | 5=>c5 m
 | 6=>c6 m
 | 7=>c7 m
 | 8=>c8 m
 | 9=>c9 m
 | 10=>c10 m
 | 11=>c11 m
 | 12=>c12 m
 | 13=>c13 m
 | _+14=>fun _=>[]
def ct_ (m:Bool):(t:Nat)→El_ t→List (TV El_)
 | 0=>d0 m
 | 1=>d1 m
 | 2=>d2 m
 | 3=>d3 m
 | 4=>d4 m
 | 5=>d5 m
 | 6=>d6 m
 | 7=>d7 m
 | 8=>d8 m
 | 9=>d9 m
 | 10=>d10 m
 | 11=>d11 m
 | 12=>d12 m
 | 13=>d13 m
 | _+14=>fun _=>[]
def sz_:Nat→Nat
 | 0=>1
 | 1=>2
 | 2=>7
 | 3=>3
 | 4=>5
 | 5=>1
 | 6=>1
 | 7=>1
 | 8=>3
 | 9=>1
 | 10=>1
 | 11=>2
 | 12=>2
 | 13=>3
 | _+14=>0
def ks_ (m:Bool):Nat→List Kd
 | 0=>[]
 | 1=>[]
 | 2=>[]
 | 3=>[]
 | 4=>[]
 | 5=>[]
 | 6=>[]
 | 7=>bif m then [.ow false 6] else [.im 6]
 | 8=>bif m then [.no,.no,.ow false 5] else [.no,.no,.im 5]
 | 9=>[]
 | 10=>bif m then [.ow false 9] else [.im 9]
 | 11=>bif m then [.ow true 10,.ow true 10] else [.im 10,.im 10]
 | 12=>bif m then [.ow false 6,.no] else [.im 6,.no]
 | 13=>[]
 | _+14=>[]
abbrev T0_:TT0:=⟨El_,sz_,ca_⟩
def u0 (m:Bool):List (TV El_)→Option Int
 | [v0]=>((gI .u8 v0).bind fun a0=>some a0)
 | _=>none
def u1 (m:Bool):List (TV El_)→Option Xb
 | [v0,v1]=>((gI .i64 v0).bind fun a0=>(gI .i64 v1).bind fun a1=>some ⟨a0,a1⟩)
 | _=>none
def u2 (m:Bool):List (TV El_)→Option Xc
 | [v0,v1,v2,v3,v4,v5,v6]=>((gI .i64 v0).bind fun a0=>(gI .i64 v1).bind fun a1=>(gI .i64 v2).bind fun a2=>(gI .i64 v3).bind fun a3=>(gI .i64 v4).bind fun a4=>(gI .i64 v5).bind fun a5=>(gI .u32 v6).bind fun a6=>some ⟨a0,a1,a2,a3,a4,a5,a6⟩)
 | _=>none
def u3 (m:Bool):List (TV El_)→Option Xd
 | [v0,v1,v2]=>((gS v0).bind fun a0=>(gI .i64 v1).bind fun a1=>(gI .i64 v2).bind fun a2=>some ⟨a0,a1,a2⟩)
 | _=>none
def u4 (m:Bool):List (TV El_)→Option Xe
 | [v0,v1,v2,v3,v4]=>((gI .i64 v0).bind fun a0=>(gI .i64 v1).bind fun a1=>(gB v2).bind fun a2=>(gI .u32 v3).bind fun a3=>(gI .i64 v4).bind fun a4=>some ⟨⟨a0,a1⟩,a2,a3,a4⟩)
 | _=>none
def u5 (m:Bool):List (TV El_)→Option Bool
 | [v0]=>((gB v0).bind fun a0=>some a0)
 | _=>none
def u6 (m:Bool):List (TV El_)→Option Int
 | [v0]=>((gI .i64 v0).bind fun a0=>some a0)
 | _=>none
def u7 (m:Bool):List (TV El_)→Option (List Int)
 | [v0]=>bif m then ((gO false 6 v0).bind fun a0=>some a0) else ((gM 6 v0).bind fun a0=>some a0)
 | _=>none
def u8 (m:Bool):List (TV El_)→Option Xg
 | [v0,v1,v2]=>bif m then ((gI .i64 v0).bind fun a0=>(gI .i64 v1).bind fun a1=>(gO false 5 v2).bind fun a2=>some ⟨a0,a1,a2⟩) else ((gI .i64 v0).bind fun a0=>(gI .i64 v1).bind fun a1=>(gM 5 v2).bind fun a2=>some ⟨a0,a1,a2⟩)
 | _=>none
def u9 (m:Bool):List (TV El_)→Option Int
 | [v0]=>((gI .u32 v0).bind fun a0=>some a0)
 | _=>none
def u10 (m:Bool):List (TV El_)→Option (List Int)
 | [v0]=>bif m then ((gO false 9 v0).bind fun a0=>some a0) else ((gM 9 v0).bind fun a0=>some a0)
 | _=>none
def u11 (m:Bool):List (TV El_)→Option Xh
 | [v0,v1]=>bif m then ((gO true 10 v0).bind fun a0=>(gO true 10 v1).bind fun a1=>some ⟨a0,a1⟩) else ((gM 10 v0).bind fun a0=>(gM 10 v1).bind fun a1=>some ⟨a0,a1⟩)
 | _=>none
def u12 (m:Bool):List (TV El_)→Option Xi
 | [v0,v1]=>bif m then ((gO false 6 v0).bind fun a0=>(gI .i64 v1).bind fun a1=>some ⟨a0,a1⟩) else ((gM 6 v0).bind fun a0=>(gI .i64 v1).bind fun a1=>some ⟨a0,a1⟩)
 | _=>none
def u13 (m:Bool):List (TV El_)→Option Xa
 | [v0,v1,v2]=>((gI .i64 v0).bind fun a0=>(gI .i64 v1).bind fun a1=>(gI .i64 v2).bind fun a2=>some ⟨a0,a1,a2⟩)
 | _=>none
def un_ (m:Bool):(t:Nat)→List (TV El_)→Option (El_ t)
 | 0=>u0 m
 | 1=>u1 m
 | 2=>u2 m
 | 3=>u3 m
 | 4=>u4 m
 | 5=>u5 m
 | 6=>u6 m
 | 7=>u7 m
 | 8=>u8 m
 | 9=>u9 m
 | 10=>u10 m
 | 11=>u11 m
 | 12=>u12 m
 | 13=>u13 m
 | _+14=>fun _=>none
theorem u0_ok (m:Bool) (l:List (TV El_)) (x:Int) (h:u0 m l=some x):denL T0_ [] l=c0 m x:=by
 unfold u0 at h
 split at h
 ·skip
  obtain ⟨a0,h0,h⟩:=bind_some' h
  cases h
  simp only [denL,gI_ok (T:=T0_) h0]
  rfl
 ·cases h
theorem u1_ok (m:Bool) (l:List (TV El_)) (x:Xb) (h:u1 m l=some x):denL T0_ [] l=c1 m x:=by
 unfold u1 at h
 split at h
 ·skip
  obtain ⟨a0,h0,h⟩:=bind_some' h
  obtain ⟨a1,h1,h⟩:=bind_some' h
  cases h
  simp only [denL,gI_ok (T:=T0_) h0,gI_ok (T:=T0_) h1]
  rfl
 ·cases h
theorem u2_ok (m:Bool) (l:List (TV El_)) (x:Xc) (h:u2 m l=some x):denL T0_ [] l=c2 m x:=by
 unfold u2 at h
 split at h
 ·skip
  obtain ⟨a0,h0,h⟩:=bind_some' h
  obtain ⟨a1,h1,h⟩:=bind_some' h
  obtain ⟨a2,h2,h⟩:=bind_some' h
  obtain ⟨a3,h3,h⟩:=bind_some' h
  obtain ⟨a4,h4,h⟩:=bind_some' h
  obtain ⟨a5,h5,h⟩:=bind_some' h
  obtain ⟨a6,h6,h⟩:=bind_some' h
  cases h
  simp only [denL,gI_ok (T:=T0_) h0,gI_ok (T:=T0_) h1,gI_ok (T:=T0_) h2,gI_ok (T:=T0_) h3,gI_ok (T:=T0_) h4,gI_ok (T:=T0_) h5,gI_ok (T:=T0_) h6]
  rfl
 ·cases h
theorem u3_ok (m:Bool) (l:List (TV El_)) (x:Xd) (h:u3 m l=some x):denL T0_ [] l=c3 m x:=by
 unfold u3 at h
 split at h
 ·skip
  obtain ⟨a0,h0,h⟩:=bind_some' h
  obtain ⟨a1,h1,h⟩:=bind_some' h
  obtain ⟨a2,h2,h⟩:=bind_some' h
  cases h
  simp only [denL,gS_ok (T:=T0_) h0,gI_ok (T:=T0_) h1,gI_ok (T:=T0_) h2]
  rfl
 ·cases h
theorem u4_ok (m:Bool) (l:List (TV El_)) (x:Xe) (h:u4 m l=some x):denL T0_ [] l=c4 m x:=by
 unfold u4 at h
 split at h
 ·skip
  obtain ⟨a0,h0,h⟩:=bind_some' h
  obtain ⟨a1,h1,h⟩:=bind_some' h
  obtain ⟨a2,h2,h⟩:=bind_some' h
  obtain ⟨a3,h3,h⟩:=bind_some' h
  obtain ⟨a4,h4,h⟩:=bind_some' h
  cases h
  simp only [denL,gI_ok (T:=T0_) h0,gI_ok (T:=T0_) h1,gB_ok (T:=T0_) h2,gI_ok (T:=T0_) h3,gI_ok (T:=T0_) h4]
  rfl
 ·cases h
theorem u5_ok (m:Bool) (l:List (TV El_)) (x:Bool) (h:u5 m l=some x):denL T0_ [] l=c5 m x:=by
 unfold u5 at h
 split at h
 ·skip
  obtain ⟨a0,h0,h⟩:=bind_some' h
  cases h
  simp only [denL,gB_ok (T:=T0_) h0]
  rfl
 ·cases h
theorem u6_ok (m:Bool) (l:List (TV El_)) (x:Int) (h:u6 m l=some x):denL T0_ [] l=c6 m x:=by
 unfold u6 at h
 split at h
 ·skip
  obtain ⟨a0,h0,h⟩:=bind_some' h
  cases h
  simp only [denL,gI_ok (T:=T0_) h0]
  rfl
 ·cases h
theorem u7_ok (m:Bool) (l:List (TV El_)) (x:(List Int)) (h:u7 m l=some x):denL T0_ [] l=c7 m x:=by
 unfold u7 at h
 split at h
 ·cases m
  ·simp only [cond_false] at h
   obtain ⟨a0,h0,h⟩:=bind_some' h
   cases h
   simp only [denL,gM_ok (T:=T0_) h0]
   rfl
  ·simp only [cond_true] at h
   obtain ⟨a0,h0,h⟩:=bind_some' h
   cases h
   simp only [denL,gO_ok (T:=T0_) h0]
   rfl
 ·cases h
theorem u8_ok (m:Bool) (l:List (TV El_)) (x:Xg) (h:u8 m l=some x):denL T0_ [] l=c8 m x:=by
 unfold u8 at h
 split at h
 ·cases m
  ·simp only [cond_false] at h
   obtain ⟨a0,h0,h⟩:=bind_some' h
   obtain ⟨a1,h1,h⟩:=bind_some' h
   obtain ⟨a2,h2,h⟩:=bind_some' h
   cases h
   simp only [denL,gI_ok (T:=T0_) h0,gI_ok (T:=T0_) h1,gM_ok (T:=T0_) h2]
   rfl
  ·simp only [cond_true] at h
   obtain ⟨a0,h0,h⟩:=bind_some' h
   obtain ⟨a1,h1,h⟩:=bind_some' h
   obtain ⟨a2,h2,h⟩:=bind_some' h
   cases h
   simp only [denL,gI_ok (T:=T0_) h0,gI_ok (T:=T0_) h1,gO_ok (T:=T0_) h2]
   rfl
 ·cases h
theorem u9_ok (m:Bool) (l:List (TV El_)) (x:Int) (h:u9 m l=some x):denL T0_ [] l=c9 m x:=by
 unfold u9 at h
 split at h
 ·skip
  obtain ⟨a0,h0,h⟩:=bind_some' h
  cases h
  simp only [denL,gI_ok (T:=T0_) h0]
  rfl
 ·cases h
theorem u10_ok (m:Bool) (l:List (TV El_)) (x:(List Int)) (h:u10 m l=some x):denL T0_ [] l=c10 m x:=by
 unfold u10 at h
 split at h
 ·cases m
  ·simp only [cond_false] at h
   obtain ⟨a0,h0,h⟩:=bind_some' h
   cases h
   simp only [denL,gM_ok (T:=T0_) h0]
   rfl
  ·simp only [cond_true] at h
   obtain ⟨a0,h0,h⟩:=bind_some' h
   cases h
   simp only [denL,gO_ok (T:=T0_) h0]
   rfl
 ·cases h
theorem u11_ok (m:Bool) (l:List (TV El_)) (x:Xh) (h:u11 m l=some x):denL T0_ [] l=c11 m x:=by
 unfold u11 at h
 split at h
 ·cases m
  ·simp only [cond_false] at h
   obtain ⟨a0,h0,h⟩:=bind_some' h
   obtain ⟨a1,h1,h⟩:=bind_some' h
   cases h
   simp only [denL,gM_ok (T:=T0_) h0,gM_ok (T:=T0_) h1]
   rfl
  ·simp only [cond_true] at h
   obtain ⟨a0,h0,h⟩:=bind_some' h
   obtain ⟨a1,h1,h⟩:=bind_some' h
   cases h
   simp only [denL,gO_ok (T:=T0_) h0,gO_ok (T:=T0_) h1]
   rfl
 ·cases h
theorem u12_ok (m:Bool) (l:List (TV El_)) (x:Xi) (h:u12 m l=some x):denL T0_ [] l=c12 m x:=by
 unfold u12 at h
 split at h
 ·cases m
  ·simp only [cond_false] at h
   obtain ⟨a0,h0,h⟩:=bind_some' h
   obtain ⟨a1,h1,h⟩:=bind_some' h
   cases h
   simp only [denL,gM_ok (T:=T0_) h0,gI_ok (T:=T0_) h1]
   rfl
  ·simp only [cond_true] at h
   obtain ⟨a0,h0,h⟩:=bind_some' h
   obtain ⟨a1,h1,h⟩:=bind_some' h
   cases h
   simp only [denL,gO_ok (T:=T0_) h0,gI_ok (T:=T0_) h1]
   rfl
 ·cases h
theorem u13_ok (m:Bool) (l:List (TV El_)) (x:Xa) (h:u13 m l=some x):denL T0_ [] l=c13 m x:=by
 unfold u13 at h
 split at h
 ·skip
  obtain ⟨a0,h0,h⟩:=bind_some' h
  obtain ⟨a1,h1,h⟩:=bind_some' h
  obtain ⟨a2,h2,h⟩:=bind_some' h
  cases h
  simp only [denL,gI_ok (T:=T0_) h0,gI_ok (T:=T0_) h1,gI_ok (T:=T0_) h2]
  rfl
 ·cases h
theorem im7:∀ (m:Bool) (x:(List Int)),toImC (c7 m x)=c7 false x
 | true,x=>by simp only [c7,toImC,toIm,toImE_map (o:=c6 false) (c:=c6 false) (fun _=>rfl)]
 | false,_=>rfl
theorem ow7 (x:(List Int)):noImC (c7 true x)=true:=by simp [c7,noImC,noIm,noImE_map (o:=c6 false) (fun _=>rfl)]
theorem im8:∀ (m:Bool) (x:Xg),toImC (c8 m x)=c8 false x
 | true,x=>by simp only [c8,toImC,toIm,toImE_map (o:=c5 false) (c:=c5 false) (fun _=>rfl)]
 | false,_=>rfl
theorem ow8 (x:Xg):noImC (c8 true x)=true:=by simp [c8,noImC,noIm,noImE_map (o:=c5 false) (fun _=>rfl)]
theorem im10:∀ (m:Bool) (x:(List Int)),toImC (c10 m x)=c10 false x
 | true,x=>by simp only [c10,toImC,toIm,toImE_map (o:=c9 false) (c:=c9 false) (fun _=>rfl)]
 | false,_=>rfl
theorem ow10 (x:(List Int)):noImC (c10 true x)=true:=by simp [c10,noImC,noIm,noImE_map (o:=c9 false) (fun _=>rfl)]
theorem im11:∀ (m:Bool) (x:Xh),toImC (c11 m x)=c11 false x
 | true,x=>by simp only [c11,toImC,toIm,toImE_map (o:=c10 true) (c:=c10 false) (fun _=>im10 true _)]
 | false,_=>rfl
theorem ow11 (x:Xh):noImC (c11 true x)=true:=by simp [c11,noImC,noIm,noImE_map (o:=c10 true) (fun _=>ow10 _)]
theorem im12:∀ (m:Bool) (x:Xi),toImC (c12 m x)=c12 false x
 | true,x=>by simp only [c12,toImC,toIm,toImE_map (o:=c6 false) (c:=c6 false) (fun _=>rfl)]
 | false,_=>rfl
theorem ow12 (x:Xi):noImC (c12 true x)=true:=by simp [c12,noImC,noIm,noImE_map (o:=c6 false) (fun _=>rfl)]
theorem ct_ok_:∀ (m:Bool) (t:Nat) (x:El_ t),denL T0_ [] (ct_ m t x)=ca_ m t x
 | m,0,x=>rfl
 | m,1,x=>rfl
 | m,2,x=>rfl
 | m,3,x=>rfl
 | m,4,x=>rfl
 | m,5,x=>rfl
 | m,6,x=>rfl
 | m,7,x=>by cases m <;> rfl
 | m,8,x=>by cases m <;> rfl
 | m,9,x=>rfl
 | m,10,x=>by cases m <;> rfl
 | m,11,x=>by cases m <;> rfl
 | m,12,x=>by cases m <;> rfl
 | m,13,x=>rfl
 | _,_+14,x=>rfl
theorem ct_in_:∀ (m:Bool) (t:Nat) (x:El_ t),inRL (T:=T0_) (ct_ m t x)=true
 | m,0,x=>rfl
 | m,1,x=>rfl
 | m,2,x=>rfl
 | m,3,x=>rfl
 | m,4,x=>rfl
 | m,5,x=>rfl
 | m,6,x=>rfl
 | m,7,x=>by cases m <;> rfl
 | m,8,x=>by cases m <;> rfl
 | m,9,x=>rfl
 | m,10,x=>by cases m <;> rfl
 | m,11,x=>by cases m <;> rfl
 | m,12,x=>by cases m <;> rfl
 | m,13,x=>rfl
 | _,_+14,x=>rfl
theorem un_ok_:∀ (m:Bool) (t:Nat) (cs:List (TV El_)) (x:El_ t),un_ m t cs=some x→denL T0_ [] cs=ca_ m t x
 | m,0,cs,x=>u0_ok m cs x
 | m,1,cs,x=>u1_ok m cs x
 | m,2,cs,x=>u2_ok m cs x
 | m,3,cs,x=>u3_ok m cs x
 | m,4,cs,x=>u4_ok m cs x
 | m,5,cs,x=>u5_ok m cs x
 | m,6,cs,x=>u6_ok m cs x
 | m,7,cs,x=>u7_ok m cs x
 | m,8,cs,x=>u8_ok m cs x
 | m,9,cs,x=>u9_ok m cs x
 | m,10,cs,x=>u10_ok m cs x
 | m,11,cs,x=>u11_ok m cs x
 | m,12,cs,x=>u12_ok m cs x
 | m,13,cs,x=>u13_ok m cs x
 | _,_+14,_,x=>fun _=>nomatch x
theorem im_ok_:∀ (m:Bool) (t:Nat) (x:El_ t),toImC (ca_ m t x)=ca_ false t x
 | m,0,x=>rfl
 | m,1,x=>rfl
 | m,2,x=>rfl
 | m,3,x=>rfl
 | m,4,x=>rfl
 | m,5,x=>rfl
 | m,6,x=>rfl
 | m,7,x=>im7 m x
 | m,8,x=>im8 m x
 | m,9,x=>rfl
 | m,10,x=>im10 m x
 | m,11,x=>im11 m x
 | m,12,x=>im12 m x
 | m,13,x=>rfl
 | _,_+14,x=>rfl
def po_:Nat→Bool
 | 0=>true
 | 1=>true
 | 2=>true
 | 3=>true
 | 4=>true
 | 5=>true
 | 6=>true
 | 7=>true
 | 8=>true
 | 9=>true
 | 10=>true
 | 11=>true
 | 12=>true
 | 13=>true
 | _+14=>true
theorem ow_ok_:∀ (t:Nat) (x:El_ t),po_ t=true→noImC (ca_ true t x)=true
 | 0,x=>fun _=>rfl
 | 1,x=>fun _=>rfl
 | 2,x=>fun _=>rfl
 | 3,x=>fun _=>rfl
 | 4,x=>fun _=>rfl
 | 5,x=>fun _=>rfl
 | 6,x=>fun _=>rfl
 | 7,x=>fun _=>ow7 x
 | 8,x=>fun _=>ow8 x
 | 9,x=>fun _=>rfl
 | 10,x=>fun _=>ow10 x
 | 11,x=>fun _=>ow11 x
 | 12,x=>fun _=>ow12 x
 | 13,x=>fun _=>rfl
 | _+14,x=>fun _=>rfl
def pl_:Nat→Bool
 | 0=>true
 | 1=>true
 | 2=>true
 | 3=>true
 | 4=>true
 | 5=>true
 | 6=>true
 | 7=>false
 | 8=>false
 | 9=>true
 | 10=>false
 | 11=>false
 | 12=>false
 | 13=>true
 | _+14=>true
theorem pl_ok_:∀ (t:Nat) (x:El_ t),pl_ t=true→noImC (ca_ false t x)=true
 | 0,x=>fun _=>rfl
 | 1,x=>fun _=>rfl
 | 2,x=>fun _=>rfl
 | 3,x=>fun _=>rfl
 | 4,x=>fun _=>rfl
 | 5,x=>fun _=>rfl
 | 6,x=>fun _=>rfl
 | 7,x=>fun h=>nomatch h
 | 8,x=>fun h=>nomatch h
 | 9,x=>fun _=>rfl
 | 10,x=>fun h=>nomatch h
 | 11,x=>fun h=>nomatch h
 | 12,x=>fun h=>nomatch h
 | 13,x=>fun _=>rfl
 | _+14,x=>fun _=>rfl
theorem fl_ok_:∀ (t:Nat) (x:El_ t),(ca_ false t x).all flatAV=true
 | 0,x=>rfl
 | 1,x=>rfl
 | 2,x=>rfl
 | 3,x=>rfl
 | 4,x=>rfl
 | 5,x=>rfl
 | 6,x=>rfl
 | 7,x=>rfl
 | 8,x=>rfl
 | 9,x=>rfl
 | 10,x=>rfl
 | 11,x=>rfl
 | 12,x=>rfl
 | 13,x=>rfl
 | _+14,x=>rfl
theorem nz_ok_:∀ (m:Bool) (t:Nat) (x:El_ t),∀ a ∈ ca_ m t x,isZ a=false
 | m,0,x=>nz_all rfl
 | m,1,x=>nz_all rfl
 | m,2,x=>nz_all rfl
 | m,3,x=>nz_all rfl
 | m,4,x=>nz_all rfl
 | m,5,x=>nz_all rfl
 | m,6,x=>nz_all rfl
 | m,7,x=>by cases m <;> exact nz_all rfl
 | m,8,x=>by cases m <;> exact nz_all rfl
 | m,9,x=>nz_all rfl
 | m,10,x=>by cases m <;> exact nz_all rfl
 | m,11,x=>by cases m <;> exact nz_all rfl
 | m,12,x=>by cases m <;> exact nz_all rfl
 | m,13,x=>nz_all rfl
 | _,_+14,x=>nz_all rfl
abbrev Ty_:TT where
 El:=El_
 sz:=sz_
 ca:=ca_
 ks:=ks_
 ct:=ct_
 un:=un_
 ct_ok:=ct_ok_
 ct_in:=ct_in_
 un_ok:=un_ok_
 im_ok:=im_ok_
 po:=po_
 ow_ok:=ow_ok_
 nz_ok:=nz_ok_
 fl_ok:=fl_ok_
 pl:=pl_
 pl_ok:=pl_ok_
 u8:=0
 bs:=fun l=>l
 bs_ok:=fun _=>rfl
 bs_sz:=rfl
noncomputable def g101_c (n:Nat):Cx P_ Ty_:=⟨[],[(9,false,3),(15,false,1),(21,false,4),(27,false,2)],[],[]⟩
abbrev g101_k:List (List Nat):=[[1,2],[1,2,3],[1,2,3],[1,2,3],[1,2,3],[2,3],[2]]
noncomputable def g101_t (n:Nat) (x:Xf):Pt P_ Ty_ [] ((List Xd)×(List Xb)×(List Xe)×(List Xc)):=.need (x.Sign_.length * 32≤140737488355328) (.need (x.Regs_.length * 16≤140737488355328) (.need (x.Slots_.length * 32≤140737488355328) (.need (x.List_.length * 56≤140737488355328) (.leaf (x.Sign_,x.Regs_,x.Slots_,x.List_)))))
noncomputable def k101 (n:Nat):Con P_ Ty_:=conOf (X:=Xf) (R:=(List Xd)×(List Xb)×(List Xe)×(List Xc)) (pro:=[]) (g101_c n) 8 g101_k (by kernel_rfl) (fun x=>.no) [.ag [.im 3,.im 1,.im 4,.im 2]] [] [100000] ⟨[(2,.ref 100000)],[(100000,.any)]⟩ [100000] true (fun x=>[.ag [.im 3 x.Sign_,.im 1 x.Regs_,.im 4 x.Slots_,.im 2 x.List_]]) (fun x=>[]) (fun y=>([(2,.pt 100000 [] 0 0)],[(100000,.lit 4 [[.ow false 3 y.1,.ow false 1 y.2.1,.ow false 4 y.2.2.1,.ow false 2 y.2.2.2]])])) (fun y=>.ag [.sw 100000 [(0,0)],.sw 100000 [(0,1)],.sw 100000 [(0,2)],.sw 100000 [(0,3)]]) (fun y=>[(100000,.lit 4 [[.ow false 3 y.1,.ow false 1 y.2.1,.ow false 4 y.2.2.1,.ow false 2 y.2.2.2]])]) (g101_t n) (fun x=>by kernel_rfl) (fun x=>by kernel_rfl) (by kernel_rfl) (fun y=>by kernel_rfl) (fun _ y=>by kernel_rfl)
set_option maxHeartbeats 1000000 in
theorem walk71 (s:ByteArray) (c:Int) (w:World) :
  Calls Go.Proofs.Tryz.prog 110 #[.string s,.int .u8 c] w fun e w'=>e = .returned (.int .i64 (Lib.indexByte s.data.toList c.toNat.toUInt8))∧w'=w:=by
 go_enter Go.Proofs.Tryz.func110,Go.Proofs.Tryz.ntmps110
 go_wp2
 rw [run_callFunc_extern Go.Proofs.Tryz.func120 (by kernel_rfl) (by kernel_rfl) (by kernel_rfl) (e:=Extern.BytealgIndexByte.indexByte) (by kernel_rfl),Lib.run_indexByteString]
 simp only [Result.andThen]
 rw [Oper.upon_value]
 go_wp2
 go_ret
 exact ⟨rfl,rfl⟩
noncomputable def g71 (_:Nat) (a0:ByteArray) (a1:Int):Option Int:=some (Lib.indexByte a0.data.toList a1.toNat.toUInt8)
theorem g71_ok (n:Nat) (a0:ByteArray) (a1:Int) (r:Int) (hg:g71 n a0 a1=some r):CallOk Go.Proofs.Tryz.prog 110 [St a0,.sc (.int .u8 a1)] [] (I64 r) []:=by
 obtain rfl:=Option.some.inj hg
 exact CallOk.quiet (vs:=[.string a0,.int .u8 a1]) fun w=>walk71 a0 a1 w
noncomputable def k71 (n:Nat):Con Go.Proofs.Tryz.prog Ty_ where
 f:=110
 X:=ByteArray×Int
 Y:=Int
 A:=[.any,.any]
 H:=[]
 N:=[]
 encA:=fun x=>[.sc (.string x.1),.sc (.int .u8 x.2)]
 encH:=fun _=>[]
 G:=fun x=>g71 n x.1 x.2
 encR:=fun y=>.sc (.int .i64 y)
 encO:=fun _=>[]
 strong:=true
 ok:=fun x y h=>⟨fun _=>g71_ok n x.1 x.2 y h,CallOk.toG (g71_ok n x.1 x.2 y h)⟩
noncomputable def g68_c (n:Nat):Cx P_ Ty_:=⟨[k71 n],[],[],[]⟩
abbrev g68_k:List (List Nat):=[[0,1],[4]]
noncomputable def g68_t (n:Nat) (x:ByteArray×Int):Pt P_ Ty_ [] Int:=.call (k71 n) (x.1,x.2) fun (y1:Int)=>.leaf y1
noncomputable def k68 (n:Nat):Con P_ Ty_:=conOf (X:=ByteArray×Int) (R:=Int) (pro:=[]) (g68_c n) 99 g68_k (by kernel_rfl) (fun x=>.no) [.any,.any] [] [] ⟨[(4,.any)],[]⟩ [] true (fun x=>[.sc (.string x.1),.sc (.int .u8 x.2)]) (fun x=>[]) (fun y=>([(4,.sc (.int .i64 y))],[])) (fun y=>.sc (.int .i64 y)) (fun y=>[]) (g68_t n) (fun x=>by kernel_rfl) (fun x=>by kernel_rfl) (by kernel_rfl) (fun y=>by kernel_rfl) (fun _ y=>by kernel_rfl)
noncomputable def g61_c (n:Nat):Cx P_ Ty_:=⟨[k68 n],[],[],[]⟩
abbrev g61_k:List (List Nat):=[[0],[0,11],[2],[13,14,15],[13,14,15,16],[4,13,14,15],[4,13,14,15,19],[4,13,14,15,19],[4,13,14,15,19],[13,14,15,19],[2],[13,14,15],[2]]
noncomputable def g61_e1 (x:ByteArray) (p:Bool):EH Ty_:=([(0,.sc (.string x)),(11,.sc (.bool p))],[])
noncomputable def g61_e2 (x:ByteArray) (v1:Unit) (q1:Int) (p:Int×Bool):EH Ty_:=([(4,.sc (.int .u8 p.1)),(13,.im 0 (bytesOf x)),(14,.sc (.int .i64 ((bytesOf x).length:Int))),(15,.sc (.int .i64 q1)),(19,.sc (.bool p.2))],[])
noncomputable def g61_e3 (x:ByteArray) (v1:Unit) (q1:Int) (p:Int×Bool):EH Ty_:=([(4,.sc (.int .u8 p.1)),(13,.im 0 (bytesOf x)),(14,.sc (.int .i64 ((bytesOf x).length:Int))),(15,.sc (.int .i64 q1)),(19,.sc (.bool p.2))],[])
noncomputable def g61_e4 (x:ByteArray) (v1:Unit) (q1:Int) (p:Int×Bool):EH Ty_:=([(4,.sc (.int .u8 p.1)),(13,.im 0 (bytesOf x)),(14,.sc (.int .i64 ((bytesOf x).length:Int))),(15,.sc (.int .i64 q1)),(19,.sc (.bool p.2))],[])
noncomputable def g61_e5 (x:ByteArray) (v1:Unit) (q1:Int) (p:Bool):EH Ty_:=([(13,.im 0 (bytesOf x)),(14,.sc (.int .i64 ((bytesOf x).length:Int))),(15,.sc (.int .i64 q1)),(19,.sc (.bool p))],[])
noncomputable def g61_t1 (n:Nat) (x:ByteArray) (v1:Unit) (q1:Int):Pt P_ Ty_ [] (Bo Int Int Unit):=.ite (decide (q1<((bytesOf x).length:Int))) (.bnd (idx (bytesOf x) q1) fun y1=>.join (S:=Bool) (g61_e5 x v1 q1) (.join (S:=Int×Bool) (g61_e2 x v1 q1) (.ite (decide (y1≥(65:Int))) (.leaf (.inl (y1,(decide (y1≤(90:Int)))))) (.leaf (.inl (y1,false)))) fun s2=>.ite s2.2 (.leaf (.inl true)) (.join (S:=Int×Bool) (g61_e3 x v1 q1) (.ite (decide (s2.1≥(97:Int))) (.leaf (.inl (s2.1,(decide (s2.1≤(122:Int)))))) (.leaf (.inl (s2.1,false)))) fun s3=>.ite s3.2 (.leaf (.inl true)) (.join (S:=Int×Bool) (g61_e4 x v1 q1) (.ite (decide (s3.1≥(48:Int))) (.leaf (.inl (s3.1,(decide (s3.1≤(57:Int)))))) (.leaf (.inl (s3.1,false)))) fun s4=>.ite s4.2 (.leaf (.inl true)) (.call (k68 n) ((⟨#[95,46,47,45]⟩:ByteArray),s4.1) fun (y2:Int)=>.leaf (.inl (decide (y2≥(0:Int)))))))) fun s5=>.ite s5 (.leaf (.go (W_ (q1+(1:Int))))) (.leaf (.ret ()))) (.leaf (.out q1))
noncomputable def g61_L1 (n:Nat) (x:ByteArray) (v1:Unit):LCon P_ Ty_ []:=lcon (X:=Int) (Y:=Int) (Z:=Unit) (g61_c n) (subC [1,1,0,1,0,0] (fnC P_ 82 g61_k)) (fun q1=>.two .no (.two .no (.two (.two (.two .no (.two (.join Bool (g61_e5 x v1 q1) ⟨[(13,.im 0),(14,.any),(15,.any),(19,.any)],[]⟩ (.join (Int×Bool) (g61_e2 x v1 q1) ⟨[(4,.any),(13,.im 0),(14,.any),(15,.any),(19,.any)],[]⟩ .no (.two .no (.join (Int×Bool) (g61_e3 x v1 q1) ⟨[(4,.any),(13,.im 0),(14,.any),(15,.any),(19,.any)],[]⟩ .no (.two .no (.join (Int×Bool) (g61_e4 x v1 q1) ⟨[(4,.any),(13,.im 0),(14,.any),(15,.any),(19,.any)],[]⟩ .no .no))))) .no) .no)) .no) .no))) 0 true ⟨[(13,.im 0),(14,.any),(15,.any)],[]⟩ ⟨[(13,.im 0),(14,.any),(15,.any),(16,.any)],[]⟩ ⟨[(2,.any)],[]⟩ (fun q1=>([(13,.im 0 (bytesOf x)),(14,.sc (.int .i64 ((bytesOf x).length:Int))),(15,.sc (.int .i64 q1))],[])) (fun p=>([(13,.im 0 (bytesOf x)),(14,.sc (.int .i64 ((bytesOf x).length:Int))),(15,.sc (.int .i64 p)),(16,.sc (.bool false))],[])) (fun p=>([(2,.sc (.bool false))],[])) n (g61_t1 n x v1) (fun h=>nomatch h) (fun q1=>by kernel_rfl)
noncomputable def g61_t (n:Nat) (x:ByteArray):Pt P_ Ty_ [] Bool:=.join (S:=Bool) (g61_e1 x) (.ite (x==(⟨#[]⟩:ByteArray)) (.leaf (.inl true)) (.leaf (.inl (decide ((x.size:Int) > (64:Int)))))) fun s1=>.ite s1 (.leaf false) (.loopR (V:=Unit) (g61_L1 n x) () (0:Int) (fun (v1:Unit) (y3:Int)=>.leaf true) fun (v1:Unit) (z1:Unit)=>.leaf false)
noncomputable def k61 (n:Nat):Con P_ Ty_:=conOf (X:=ByteArray) (R:=Bool) (pro:=[]) (g61_c n) 82 g61_k (by kernel_rfl) (fun x=>.two .no (.two (.join Bool (g61_e1 x) ⟨[(0,.any),(11,.any)],[]⟩ .no .no) (.two (.two .no (.two (.loop Unit (g61_L1 n x) true ⟨[(13,.im 0),(14,.any),(15,.any)],[]⟩) .no)) .no))) [.any] [] [] ⟨[(2,.any)],[]⟩ [] true (fun x=>[.sc (.string x)]) (fun x=>[]) (fun y=>([(2,.sc (.bool y))],[])) (fun y=>.sc (.bool y)) (fun y=>[]) (g61_t n) (fun x=>by kernel_rfl) (fun x=>by kernel_rfl) (by kernel_rfl) (fun y=>by kernel_rfl) (fun _ y=>by kernel_rfl)
noncomputable def g48_c (n:Nat):Cx P_ Ty_:=⟨[k61 n],[],[],[]⟩
abbrev g48_k:List (List Nat):=[[1],[2]]
noncomputable def g48_t (n:Nat) (x:Xd):Pt P_ Ty_ [] Bool:=.call (k61 n) x.Name_ fun (y1:Bool)=>.ite y1 (.ite (x.Kind_==(1:Int)) (.ite (decide (x.Len_≥(1:Int))) (.leaf (decide (x.Len_≤(4096:Int)))) (.leaf false)) (.ite (x.Kind_==(2:Int)) (.ite (decide (x.Len_≥(1:Int))) (.leaf (decide (x.Len_≤(4096:Int)))) (.leaf false)) (.leaf false))) (.leaf false)
noncomputable def k48 (n:Nat):Con P_ Ty_:=conOf (X:=Xd) (R:=Bool) (pro:=[]) (g48_c n) 60 g48_k (by kernel_rfl) (fun x=>.no) [.ag [.any,.any,.any]] [] [] ⟨[(2,.any)],[]⟩ [] true (fun x=>[.ag [.sc (.string x.Name_),.sc (.int .i64 x.Kind_),.sc (.int .i64 x.Len_)]]) (fun x=>[]) (fun y=>([(2,.sc (.bool y))],[])) (fun y=>.sc (.bool y)) (fun y=>[]) (g48_t n) (fun x=>by kernel_rfl) (fun x=>by kernel_rfl) (by kernel_rfl) (fun y=>by kernel_rfl) (fun _ y=>by kernel_rfl)
noncomputable def g62_c (n:Nat):Cx P_ Ty_:=⟨[k48 n],[],[],[]⟩
abbrev g62_k:List (List Nat):=[[1],[1,3],[2],[1,7],[2],[2]]
noncomputable def g62_t (n:Nat) (x:Xd):Pt P_ Ty_ [] Int:=.call (k48 n) x fun (y1:Bool)=>.ite (!y1) (.leaf (0:Int)) (.ite (x.Kind_==(2:Int)) (.leaf (W_ ((2:Int) * x.Len_))) (.leaf x.Len_))
noncomputable def k62 (n:Nat):Con P_ Ty_:=conOf (X:=Xd) (R:=Int) (pro:=[]) (g62_c n) 83 g62_k (by kernel_rfl) (fun x=>.no) [.ag [.any,.any,.any]] [] [] ⟨[(2,.any)],[]⟩ [] true (fun x=>[.ag [.sc (.string x.Name_),.sc (.int .i64 x.Kind_),.sc (.int .i64 x.Len_)]]) (fun x=>[]) (fun y=>([(2,.sc (.int .i64 y))],[])) (fun y=>.sc (.int .i64 y)) (fun y=>[]) (g62_t n) (fun x=>by kernel_rfl) (fun x=>by kernel_rfl) (by kernel_rfl) (fun y=>by kernel_rfl) (fun _ y=>by kernel_rfl)
noncomputable def g49_c (n:Nat):Cx P_ Ty_:=⟨[k62 n],[],[],[]⟩
abbrev g49_k:List (List Nat):=[[0],[0,3],[3,6,7,8],[3,6,7,8,9],[3,5,6,7,8],[3,6,7,8],[3,6,7,8],[2]]
noncomputable def g49_t1 (n:Nat) (x:(List Xd)) (v1:Unit) (q1:Int×Int):Pt P_ Ty_ [] (Bo (Int×Int) (Int×Int) Empty):=.ite (decide (q1.2<(x.length:Int))) (.bnd (idx x q1.2) fun y1=>.call (k62 n) y1 fun (y2:Int)=>.leaf (.go ((W_ (q1.1+y2)),(W_ (q1.2+(1:Int)))))) (.leaf (.out (q1.1,q1.2)))
noncomputable def g49_L1 (n:Nat) (x:(List Xd)) (v1:Unit):LCon P_ Ty_ []:=lcon (X:=Int×Int) (Y:=Int×Int) (Z:=Empty) (g49_c n) (subC [1,1,0,1,0,0] (fnC P_ 61 g49_k)) (fun q1=>.no) 0 false ⟨[(3,.any),(6,.im 3),(7,.any),(8,.any)],[]⟩ ⟨[(3,.any),(6,.im 3),(7,.any),(8,.any),(9,.any)],[]⟩ ⟨[],[]⟩ (fun q1=>([(3,.sc (.int .i64 q1.1)),(6,.im 3 x),(7,.sc (.int .i64 (x.length:Int))),(8,.sc (.int .i64 q1.2))],[])) (fun p=>([(3,.sc (.int .i64 p.1)),(6,.im 3 x),(7,.sc (.int .i64 (x.length:Int))),(8,.sc (.int .i64 p.2)),(9,.sc (.bool false))],[])) (fun p=>nomatch p) n (g49_t1 n x v1) (fun _ z=>nomatch z) (fun q1=>by kernel_rfl)
noncomputable def g49_t (n:Nat) (x:(List Xd)):Pt P_ Ty_ [] Int:=.loop (V:=Unit) (g49_L1 n x) () ((0:Int),(0:Int)) fun (v1:Unit) (y3:Int×Int)=>.leaf y3.1
noncomputable def k49 (n:Nat):Con P_ Ty_:=conOf (X:=(List Xd)) (R:=Int) (pro:=[]) (g49_c n) 61 g49_k (by kernel_rfl) (fun x=>.two .no (.two .no (.two (.two .no (.two (.loop Unit (g49_L1 n x) false ⟨[(3,.any),(6,.im 3),(7,.any),(8,.any)],[]⟩) .no)) .no))) [.im 3] [] [] ⟨[(2,.any)],[]⟩ [] true (fun x=>[.im 3 x]) (fun x=>[]) (fun y=>([(2,.sc (.int .i64 y))],[])) (fun y=>.sc (.int .i64 y)) (fun y=>[]) (g49_t n) (fun x=>by kernel_rfl) (fun x=>by kernel_rfl) (by kernel_rfl) (fun y=>by kernel_rfl) (fun _ y=>by kernel_rfl)
noncomputable def g28_49 (n:Nat) (a0:List Xd):Option Int:=(k49 n).G a0
noncomputable def g28_48 (n:Nat) (a0:Xd):Option Bool:=(k48 n).G a0
theorem g48_ok (n:Nat) (p:Xd) (v:Bool) (hv:(k48 n).G p=some v):CallOk Go.Proofs.Tryz.prog 60 [.ag [St p.Name_,I64 p.Kind_,I64 p.Len_]] [] (Bl v) []:=((k48 n).ok p v hv).1 rfl
theorem g49_ok (n:Nat) (p:List Xd) (v:Int) (hv:(k49 n).G p=some v):CallOk Go.Proofs.Tryz.prog 61 [.im 3 (p.map (c3 false))] [] (I64 v) []:=((k49 n).ok p v hv).1 rfl
/-- sign.Check over the parameters: none: one may not be; else the names,each once. -/
noncomputable def g28_l (n:Nat):List Xd→List ByteArray→Option (Option (List ByteArray))
 | [],ks=>some (some ks)
 | p::l,ks=>(g28_48 n p).bind fun v=>bif v then g28_l n l (bif has p.Name_ ks then ks else ks++[p.Name_]) else some none
noncomputable def g28_r (n:Nat) (a0:List Xd):Option (List ByteArray)→Option Int
 | none=>some 100
 | some ks=>bif decide ((ks.length:Int)<((a0.map (c3 false)).length:Int)) then some 101 else (g28_49 n a0).bind fun v=>bif decide (v > 65536) then some 102 else some 0
noncomputable def g28 (n:Nat) (a0:List Xd):Option Int:=bif decide (((a0.map (c3 false)).length:Int) > 64) then some 2 else (g28_l n a0 []).bind (g28_r n a0)

namespace F28
noncomputable abbrev P:Program:=Go.Proofs.Tryz.prog
noncomputable def b:Code:=(Go.Proofs.Tryz.f35.body).getD .skip
theorem body:Go.Proofs.Tryz.f35.body=some b:=by kernel_rfl
theorem e1:b = .seq (lf b) (.seq (lf (rt b)) (.seq (.region (rid (lf (rt (rt b)))) (rops (lf (rt (rt b)))) false) (.seq (lf (rt (rt (rt b)))) (rt (rt (rt (rt b))))))):=by kernel_rfl
noncomputable abbrev R3:Array Oper:=rops (lf (rt (rt b)))
noncomputable def z:Code:=lf (rt (rt (rt b)))
noncomputable def q:Code:=rt (rt (rt (rt b)))
noncomputable def l:Code:=lf (lf (rt z))
theorem e2:z = .seq (lf z) (.block 0 (.loop l)):=by kernel_rfl
theorem e3:l = .seq (lf l) (.seq (.cond (.tmp 13) .skip (.exit 0)) (.seq (.block 1 (.seq (lf (lf (lf (rt (rt l))))) (.seq (lf (rt (lf (lf (rt (rt l)))))) (.region (rid (rt (rt (lf (lf (rt (rt l))))))) (rops (rt (rt (lf (lf (rt (rt l))))))) false)))) (rt (rt (rt l))))):=by kernel_rfl
noncomputable abbrev R9:Array Oper:=rops (rt (rt (lf (lf (rt (rt l))))))
theorem e4:q = .seq (.block 2 (.seq (.region (rid (lf (lf (lf q)))) (rops (lf (lf (lf q)))) false) (rt (lf (lf q))))) (rt q):=by kernel_rfl
noncomputable abbrev R11:Array Oper:=rops (lf (lf (lf q)))
end F28
namespace F28
abbrev xs (a0:List Xd):Els:=a0.map (c3 false)
abbrev mp (b:Nat):AV:=.sc (.map (some b))
/-- The slots at the loop's head. -/
abbrev EL (a0:List Xd) (b:Nat) (i:Int):Env:=envOf [(0,.im 3 (xs a0)),(3,mp b),(10,.im 3 (xs a0)),(11,I64 ((xs a0).length:Int)),(12,I64 i)]
abbrev EL' (a0:List Xd) (b:Nat) (i:Int):Env:=envOf [(0,.im 3 (xs a0)),(3,mp b),(10,.im 3 (xs a0)),(11,I64 ((xs a0).length:Int)),(12,I64 i),(13,Bl (decide (i<((xs a0).length:Int))))]
theorem ut:P.underlying 111=some (.map 9 3):=by kernel_rfl
theorem uk:P.underlying 9=some .string:=by kernel_rfl
theorem uz (w:World):(zeroValue 3).run P w = .ok (.int .i64 0) w:=by kernel_rfl

theorem body9 {w0 w:World} {a:Act} {a0:List Xd} {bm:Nat} {ks:List ByteArray} {i:Int} {p:Xd} {Q:Exit→Act→World→Prop}
  (n:Now 35 w0 (some (bm,ks)) (envOf [(0,.im 3 (xs a0)),(3,mp bm),(5,.pt 5 [] 0 0),(10,.im 3 (xs a0)),(11,I64 ((xs a0).length:Int)),(12,I64 i),(18,Bl false)]) [(5,⟨3,[[St p.Name_,I64 p.Kind_,I64 p.Len_]]⟩)] a w)
  (hK:∀ a' w',Now 35 w0 (some (bm,bif has p.Name_ ks then ks else ks++[p.Name_])) (EL a0 bm i) [] a' w'→Q .normal a' w') :
  (Code.region (rid (rt (rt (lf (lf (rt (rt l))))))) R9 false).wp P Q a w:=by
 refine wp_region ?_
 have hr:List.range R9.size=[0,1,2,3,4,5]:=by kernel_rfl
 rw [hr]
 refine n.rda (d:=19) (b:=.mov (.tmp 3)) (mp bm) (by kernel_rfl) (by kernel_rfl) fun a w n=>?_
 refine n.rda (d:=20) (b:=.fad 0 (.tmp 5)) (.pt 5 [] 0 0) (by kernel_rfl) (by kernel_rfl) fun a w n=>?_
 refine n.rda (d:=21) (b:=.load false 1 (.tmp 20)) (St p.Name_) (by kernel_rfl) (by kernel_rfl) fun a w n=>?_
 obtain ⟨o,ho,hg,hd,hop⟩:=op_is (ops:=R9) (i:=3) (g:=none) (d:=some 22) (op:=.lookup 111 (.tmp 19) (.tmp 21) false) (by kernel_rfl)
 obtain ⟨c,hc⟩:=(n.km bm ks rfl).1.lookup (P:=P) ut uk (uz w) p.Name_
 have hm:a.eval (.tmp 19) = .map (some bm):=n.eval rfl
 have hk:a.eval (.tmp 21) = .string p.Name_:=n.eval rfl
 refine n.val (v:=.int .i64 c) ho hg hd (by decide) (by simp only [execOp,hop,hm,hk,Sem.run_bind,hc,Result.andThen]; rfl) fun a n=>?_
 refine n.rda (d:=23) (b:=.bin .add (.tmp 22) (.const (.int .i64 1))) (I64 (IntKind.i64.wrap (c+1))) (by kernel_rfl) (by kernel_rfl) fun a w n=>?_
 obtain ⟨o,ho,hg,hd,hop⟩:=op_is (ops:=R9) (i:=5) (g:=none) (d:=none) (op:=.mapUpdate 111 (.tmp 19) (.tmp 21) (.tmp 23)) (by kernel_rfl)
 refine n.upd ho hg hd hop ut uk rfl rfl rfl fun a w n=>?_
 exact hK _ _ (n.gh (Ghost.norm (P:=P) (bm:=[]) (S:=[0,3,10,11,12]) (by kernel_rfl)))

theorem loop {n:Nat} {w0:World} {a0:List Xd} {bm:Nat} {r:Int} {Q:Exit→Act→World→Prop} (he:∀ ks a w,g28_r n a0 (some ks)=some r→Now 35 w0 (some (bm,ks)) (EL' a0 bm a0.length) [] a w→Q (.exit 0) a w)
  (hr:∀ m e' h' a' w',resAV e' h' [.t 2]=some (I64 r)→Now 35 w0 m e' h' a' w'→Q .ret a' w'):∀ (rest pre:List Xd) (ks:List ByteArray) (a:Act) (w:World),a0=pre++rest→a0.length≤64→(g28_l n rest ks).bind (g28_r n a0)=some r →
  Now 35 w0 (some (bm,ks)) (EL a0 bm pre.length) [] a w→LoopAt P F28.l Q a w:=by
 intro rest
 induction rest with
 | nil =>
  intro pre ks a w hp hlen hg nw
  refine LoopAt.step (Eq.mpr (congrArg (fun X:Code=>X.wp P (Exit.then (LoopAt P F28.l Q) Q) a w) e3) ?_)
  focus
   refine wp_seq (nw.ex (c:=.reg [0,3,10,11,12,13] [⟨13,none,.rd (.bin .lss (.tmp 12) (.tmp 11))⟩]) (R:=fun o e h=>o = .normal∧e=EL' a0 bm pre.length∧h=[]) ⟨[[0,3,10,11,12,13]],[],by kernel_rfl⟩ (W.regG (RG.fin 1 [] _ [] (by kernel_rfl) ⟨rfl,rfl,rfl⟩)) ?_)
   rintro o e h a w ⟨rfl,rfl,rfl⟩ nw
   refine wp_seq (wp_cond (t:=false) ?_ (wp_exit ?_))
   ·rw [nw.eval (v:=.bool (decide ((pre.length:Int)<((xs a0).length:Int)))) rfl]
    simp [xs,hp]
   ·refine he ks a w ?_ ?_
    ·simpa [g28_l] using hg
    ·have:pre.length=a0.length:=by simp [hp]
     rw [← this]; exact nw
 | cons p rest ih =>
  intro pre ks a w hp hlen hg nw
  have hi:idx a0 (pre.length:Int)=some p:=by
   simp [idx,hp]
  have hl:pre.length<a0.length:=by simp [hp]
  refine LoopAt.step (Eq.mpr (congrArg (fun X:Code=>X.wp P (Exit.then (LoopAt P F28.l Q) Q) a w) e3) ?_)
  focus
   refine wp_seq (nw.ex (c:=.reg [0,3,10,11,12,13] [⟨13,none,.rd (.bin .lss (.tmp 12) (.tmp 11))⟩]) (R:=fun o e h=>o = .normal∧e=EL' a0 bm pre.length∧h=[]) ⟨[[0,3,10,11,12,13]],[],by kernel_rfl⟩ (W.regG (RG.fin 1 [] _ [] (by kernel_rfl) ⟨rfl,rfl,rfl⟩)) ?_)
   rintro o e h a w ⟨rfl,rfl,rfl⟩ nw
   refine wp_seq (wp_cond (t:=true) ?_ (wp_skip ?_))
   ·rw [nw.eval (v:=.bool (decide ((pre.length:Int)<((xs a0).length:Int)))) rfl]
    simp [xs,hp]
    omega
   show (Code.seq _ _).wp _ _ _ _
   refine wp_seq (wp_block (wp_seq (nw.ex (c:=.reg [0,3,5,10,11,12] [⟨14,none,.rd (.iad 3 (.tmp 10) (.tmp 12))⟩,⟨15,none,.rd (.load true 3 (.tmp 14))⟩,⟨5,none,.mk (.box 3 (.const (.agg #[(.string ⟨#[]⟩),(.int .i64 (0)),(.int .i64 (0))])))⟩,⟨35,none,.st 3 (.tmp 5) (.tmp 15)⟩])
    (R:=fun o e h=>o = .normal∧e=envOf [(0,.im 3 (xs a0)),(3,mp bm),(5,.pt 5 [] 0 0),(10,.im 3 (xs a0)),(11,I64 ((xs a0).length:Int)),(12,I64 pre.length)]∧h=[(5,⟨3,[[St p.Name_,I64 p.Kind_,I64 p.Len_]]⟩)])
    ⟨[[0,3,5,10,11,12]],[],by kernel_rfl⟩ (W.regG ?_) ?_)))
   ·refine RG.iadIm (R:=Xd) (r:=p) (E:=some) (c:=(c3 false)) (xs:=a0) (i:=pre.length) (k:=.i64) (by kernel_rfl) (by kernel_rfl) (by kernel_rfl) (by rw [hi]; rfl) (fun y2 _ hg=>?_)
    cases hg
    exact RG.fin 3 [(5,5)] _ _ (by kernel_rfl) ⟨rfl,rfl,rfl⟩
   rintro o e h a w ⟨rfl,rfl,rfl⟩ nw
   obtain ⟨v,hv,hg⟩:=Option.bind_eq_some_iff.1 (show ((g28_48 n p).bind fun v=>(bif v then g28_l n rest (bif has p.Name_ ks then ks else ks++[p.Name_]) else some none).bind (g28_r n a0))=some r by rw [← Option.bind_assoc]; exact hg)
   show (Code.seq _ _).wp _ _ _ _
   refine wp_seq (nw.ex (c:=.seq (.reg [0,3,5,10,11,12,18] [⟨16,none,.rd (.load true 3 (.tmp 5))⟩,⟨17,none,.call 60 [(.tmp 16)]⟩,⟨18,none,.rd (.un1 .not (.tmp 17))⟩]) (.cond (.tmp 18) (.seq (.reg [2] [⟨2,none,.rd (.mov (.const (.int .i64 100)))⟩]) .ret) .skip))
    (R:=fun o e h=>(o = .ret∧v=false∧e=envOf [(2,I64 100)])∨(o = .normal∧v=true∧e=envOf [(0,.im 3 (xs a0)),(3,mp bm),(5,.pt 5 [] 0 0),(10,.im 3 (xs a0)),(11,I64 ((xs a0).length:Int)),(12,I64 pre.length),(18,Bl false)]∧h=[(5,⟨3,[[St p.Name_,I64 p.Kind_,I64 p.Len_]]⟩)]))
    ⟨[[0,3,5,10,11,12,18],[2]],[],by kernel_rfl⟩ ?_ ?_)
   ·refine W.seq (W.regG ?_)
    refine RG.cut 1 [(5,5)] [0,3,5,10,11,12,16] (envOf [(0,.im 3 (xs a0)),(3,mp bm),(5,.pt 5 [] 0 0),(10,.im 3 (xs a0)),(11,I64 ((xs a0).length:Int)),(12,I64 pre.length),(16,.ag [St p.Name_,I64 p.Kind_,I64 p.Len_])]) [(5,⟨3,[[St p.Name_,I64 p.Kind_,I64 p.Len_]]⟩)] (by kernel_rfl) ?_
    refine RG.callP (R:=Bool) (r:=v) (E:=some) [] [(5,5)] [0,3,5,10,11,12,17] false [.ag [St p.Name_,I64 p.Kind_,I64 p.Len_]] (fun v2=>Bl v2) (fun v2=>[]) (fun v2=>envOf [(0,.im 3 (xs a0)),(3,mp bm),(5,.pt 5 [] 0 0),(10,.im 3 (xs a0)),(11,I64 ((xs a0).length:Int)),(12,I64 pre.length),(17,Bl v2)]) (fun v2=>[(5,⟨3,[[St p.Name_,I64 p.Kind_,I64 p.Len_]]⟩)]) (by kernel_rfl) (gv:=g28_48 n p) (by rw [hv]; rfl) (by kernel_rfl) (fun v2 hv=>CallOk.toG (g48_ok n p v2 hv)) (by kernel_rfl) (fun v2=>by kernel_rfl) (fun h=>by cases h) (fun v2 hv' hg'=>?_)
    cases hg'
    refine RG.fin 1 [(5,5)] (envOf [(0,.im 3 (xs a0)),(3,mp bm),(5,.pt 5 [] 0 0),(10,.im 3 (xs a0)),(11,I64 ((xs a0).length:Int)),(12,I64 pre.length),(18,Bl (!v))]) [(5,⟨3,[[St p.Name_,I64 p.Kind_,I64 p.Len_]]⟩)] (by kernel_rfl) ?_
    cases v with
    | true=>exact W.condF (by kernel_rfl) (W.skip (.inr ⟨rfl,rfl,rfl,rfl⟩))
    | false=>exact W.condT (by kernel_rfl) (W.seq (W.regG (RG.fin 1 [] (envOf [(2,I64 100)]) [] (by kernel_rfl) (W.ret (.inl ⟨rfl,rfl,rfl⟩)))))
   rintro o e h a w (⟨rfl,rfl,rfl⟩ | ⟨rfl,rfl,rfl,rfl⟩) nw
   ·simp only [g28_r,cond_false,Option.bind_some,Option.some.injEq] at hg
    subst hg
    exact hr _ _ _ _ _ rfl nw
   ·refine body9 nw fun a w nw=>?_
    refine nw.ex (c:=.reg [0,3,10,11,12] [⟨24,none,.rd (.bin .add (.tmp 12) (.const (.int .i64 1)))⟩,⟨12,none,.rd (.mov (.tmp 24))⟩]) (R:=fun o e h=>o = .normal∧e=EL a0 bm (IntKind.i64.wrap (pre.length+1))∧h=[]) ⟨[[0,3,10,11,12]],[],by kernel_rfl⟩ (W.regG (RG.fin 2 [] _ [] (by kernel_rfl) ⟨rfl,rfl,rfl⟩)) ?_
    rintro o e h a w ⟨rfl,rfl,rfl⟩ nw
    have hw:IntKind.i64.wrap ((pre.length:Int)+1)=((pre++[p]).length:Int):=by
     have:(pre.length:Int)<64:=by omega
     simp only [List.length_append,List.length_singleton]
     rw [wrapI (by omega) (by omega)]
     simp
    rw [hw] at nw
    exact ih (pre++[p]) _ a w (by simp [hp]) hlen hg nw

theorem tail {n:Nat} {w0 w:World} {a:Act} {a0:List Xd} {bm:Nat} {ks:List ByteArray} {r:Int} {Q:Exit→Act→World→Prop} (hg:g28_r n a0 (some ks)=some r) (nw:Now 35 w0 (some (bm,ks)) (EL' a0 bm a0.length) [] a w)
  (hr:∀ m e' h' a' w',resAV e' h' [.t 2]=some (I64 r)→Now 35 w0 m e' h' a' w'→Q .ret a' w'):q.wp P Q a w:=by
 rw [e4]
 refine wp_seq (wp_block (wp_seq (wp_region ?_)))
 have h11:List.range (rops (lf (lf (lf q)))).size=[0,1,2,3,4,5]:=by kernel_rfl
 rw [h11]
 refine nw.rda (d:=26) (b:=.mov (.tmp 3)) (mp bm) (by kernel_rfl) (by kernel_rfl) fun a w nw=>?_
 obtain ⟨o,ho,hgd,hd,hop⟩:=op_is (ops:=R11) (i:=1) (g:=none) (d:=some 27) (op:=.call { callee:=.builtin .len,args:=#[.tmp 26],argTypes:=#[111] }) (by kernel_rfl)
 have hm:a.eval (.tmp 26) = .map (some bm):=nw.eval rfl
 have hc:=(nw.km bm ks rfl).1.len (P:=P) ut o.type
 refine nw.val (v:=.int .i64 ks.length) ho hgd hd (by decide) (by simp [execOp,hop,resolve,invoke,builtin,hm,hc,Result.andThen]) fun a nw=>?_
 refine nw.rda (d:=28) (b:=.mov (.tmp 0)) (.im 3 (xs a0)) (by kernel_rfl) (by kernel_rfl) fun a w nw=>?_
 refine nw.rda (d:=29) (b:=.len (.tmp 28)) (I64 ((xs a0).length:Int)) (by kernel_rfl) (by kernel_rfl) fun a w nw=>?_
 refine nw.rda (d:=30) (b:=.bin .lss (.tmp 27) (.tmp 29)) (Bl (decide ((ks.length:Int)<((xs a0).length:Int)))) (by kernel_rfl) (by kernel_rfl) fun a w nw=>?_
 refine nw.rda (d:=25) (b:=.mov (.tmp 30)) (Bl (decide ((ks.length:Int)<((xs a0).length:Int)))) (by kernel_rfl) (by kernel_rfl) fun a w nw=>?_
 have nw:=nw.gh (Ghost.norm (P:=P) (bm:=[]) (S:=[0,25]) (e1:=envOf [(0,.im 3 (xs a0)),(25,Bl (decide ((ks.length:Int)<((xs a0).length:Int))))]) (h1:=[]) (by kernel_rfl))
 refine nw.ex (c:=.cond (.tmp 25) (.seq (.reg [2] [⟨2,none,.rd (.mov (.const (.int .i64 101)))⟩]) .ret)
   (.seq (.reg [31] [⟨32,none,.rd (.mov (.tmp 0))⟩,⟨33,none,.call 61 [(.tmp 32)]⟩,⟨34,none,.rd (.bin .gtr (.tmp 33) (.const (.int .i64 65536)))⟩,⟨31,none,.rd (.mov (.tmp 34))⟩]) (.cond (.tmp 31) (.seq (.reg [2] [⟨2,none,.rd (.mov (.const (.int .i64 102)))⟩]) .ret) .skip)))
  (R:=fun o e h=>(o = .ret∧e=envOf [(2,I64 r)])∨(o = .normal∧r=0∧h=[]))
  ⟨[[2],[31],[2]],[],by kernel_rfl⟩ ?_ ?_
 ·unfold g28_r at hg
  refine W.condB (by kernel_rfl) hg (fun hg=>?_) (fun hg=>?_)
  ·obtain rfl:=Option.some.inj hg
   exact W.seq (W.regG (RG.fin 1 [] (envOf [(2,I64 101)]) [] (by kernel_rfl) (W.ret (.inl ⟨rfl,rfl⟩))))
  ·refine W.seq (W.regG ?_)
   refine RG.cut 1 [] [32] (envOf [(32,.im 3 (xs a0))]) [] (by kernel_rfl) ?_
   refine RG.callP [] [] [33] false [.im 3 (xs a0)] (fun v2=>I64 v2) (fun v2=>[]) (fun v2=>envOf [(33,I64 v2)]) (fun v2=>[]) (by kernel_rfl) hg (by kernel_rfl) (fun v2 hv=>CallOk.toG (g49_ok n a0 v2 hv)) (by kernel_rfl) (fun v2=>by kernel_rfl) (fun h=>by cases h) (fun v2 hv hg=>?_)
   refine RG.fin 2 [] (envOf [(31,Bl (decide (v2 > 65536)))]) [] (by kernel_rfl) ?_
   refine W.condB (by kernel_rfl) hg (fun hg=>?_) (fun hg=>?_)
   ·obtain rfl:=Option.some.inj hg
    exact W.seq (W.regG (RG.fin 1 [] (envOf [(2,I64 102)]) [] (by kernel_rfl) (W.ret (.inl ⟨rfl,rfl⟩))))
   ·obtain rfl:=Option.some.inj hg
    exact W.skip (.inr ⟨rfl,rfl,rfl⟩)
 rintro o e h a w (⟨rfl,rfl⟩ | ⟨rfl,rfl,rfl⟩) nw
 ·exact hr _ _ _ _ _ rfl nw
 ·refine nw.ex (c:=.seq (.reg [2] [⟨2,none,.rd (.mov (.const (.int .i64 0)))⟩]) .ret) (R:=fun o e h=>o = .ret∧e=envOf [(2,I64 0)]) ⟨[[2]],[],by kernel_rfl⟩ (W.seq (W.regG (RG.fin 1 [] (envOf [(2,I64 0)]) [] (by kernel_rfl) (W.ret ⟨rfl,rfl⟩)))) ?_
  rintro o e h a w ⟨rfl,rfl⟩ nw
  exact hr _ _ _ _ _ rfl nw
end F28
open F28 in
theorem g28_ok (n:Nat) (a0:List Xd) (r:Int) (hg:g28 n a0=some r):CallOk Go.Proofs.Tryz.prog 35 [.im 3 (a0.map (c3 false))] [] (I64 r) []:=by
 refine Now.call (P:=P) (N:=35) (fn:=Go.Proofs.Tryz.f35) (ts:=[.t 2]) (by kernel_rfl) F28.body (by kernel_rfl) (by kernel_rfl) fun a w0 Q nw hr=>?_
 rw [e1]
 refine wp_seq (nw.ex (c:=.reg [0] [⟨2,none,.rd (.mov (.const (.int .i64 0)))⟩]) (R:=fun o e h=>o = .normal∧e=envOf [(0,.im 3 (xs a0))]∧h=[]) ⟨[[0]],[],by kernel_rfl⟩ (W.regG (RG.fin 1 [] _ [] (by kernel_rfl) ⟨rfl,rfl,rfl⟩)) ?_)
 rintro o e h a w ⟨rfl,rfl,rfl⟩ nw
 show (Code.seq _ _).wp _ _ _ _
 unfold g28 at hg
 refine wp_seq (nw.ex (c:=.seq (.reg [0,8] [⟨6,none,.rd (.mov (.tmp 0))⟩,⟨7,none,.rd (.len (.tmp 6))⟩,⟨8,none,.rd (.bin .gtr (.tmp 7) (.const (.int .i64 64)))⟩]) (.cond (.tmp 8) (.seq (.reg [2] [⟨2,none,.rd (.mov (.const (.int .i64 2)))⟩]) .ret) .skip))
  (R:=fun o e h=>(o = .ret∧e=envOf [(2,I64 r)])∨(o = .normal∧a0.length≤64∧(g28_l n a0 []).bind (g28_r n a0)=some r∧e=envOf [(0,.im 3 (xs a0)),(8,Bl (decide (((xs a0).length:Int) > 64)))]∧h=[])) ⟨[[0,8],[2]],[],by kernel_rfl⟩ ?_ ?_)
 ·refine W.seq (W.regG (RG.fin 3 [] (envOf [(0,.im 3 (xs a0)),(8,Bl (decide (((xs a0).length:Int) > 64)))]) [] (by kernel_rfl) ?_))
  cases hd:decide (((xs a0).length:Int) > 64) with
  | true =>
   rw [hd] at hg
   obtain rfl:=Option.some.inj hg
   exact W.condT (by kernel_rfl) (W.seq (W.regG (RG.fin 1 [] (envOf [(2,I64 2)]) [] (by kernel_rfl) (W.ret (.inl ⟨rfl,rfl⟩)))))
  | false =>
   rw [hd] at hg
   refine W.condF (by kernel_rfl) (W.skip (.inr ⟨rfl,?_,hg,rfl,rfl⟩))
   simp [xs] at hd
   omega
 rintro o e h a w (⟨rfl,rfl⟩ | ⟨rfl,hlen,hg,rfl,rfl⟩) nw
 ·exact hr _ _ _ _ _ rfl nw
 show (Code.seq _ _).wp _ _ _ _
 refine wp_seq (wp_region ?_)
 have h3:List.range (rops (lf (rt (rt b)))).size=[0,1]:=by kernel_rfl
 rw [h3]
 obtain ⟨o,ho,hgd,hd,hop⟩:=op_is (ops:=R3) (i:=0) (g:=none) (d:=some 9) (op:=.makeMap 111 none) (by kernel_rfl)
 refine nw.make ho hgd hd (by decide) hop fun bm a w nw=>?_
 refine nw.rda (d:=3) (b:=.mov (.tmp 9)) (mp bm) (by kernel_rfl) (by kernel_rfl) fun a w nw=>?_
 have nw:=nw.gh (Ghost.norm (P:=P) (bm:=[]) (S:=[0,3]) (e1:=envOf [(0,.im 3 (xs a0)),(3,mp bm)]) (h1:=[]) (by kernel_rfl))
 show (Code.seq z q).wp _ _ _ _
 refine wp_seq ?_
 rw [e2]
 refine wp_seq (nw.ex (c:=.reg [0,3,10,11,12] [⟨10,none,.rd (.mov (.tmp 0))⟩,⟨11,none,.rd (.len (.tmp 10))⟩,⟨12,none,.rd (.mov (.const (.int .i64 0)))⟩]) (R:=fun o e h=>o = .normal∧e=EL a0 bm 0∧h=[]) ⟨[[0,3,10,11,12]],[],by kernel_rfl⟩ (W.regG (RG.fin 3 [] _ [] (by kernel_rfl) ⟨rfl,rfl,rfl⟩)) ?_)
 rintro o e h a w ⟨rfl,rfl,rfl⟩ nw
 refine wp_block (LoopAt.wp (loop (n:=n) (Q:=Exit.inBlock 0 (Exit.then (q.wp P Q) Q)) (w0:=w0) (a0:=a0) (bm:=bm) (r:=r) (fun ks a w hg nw=>?_) (fun m e h a w hv nw=>hr m e h a w hv nw) a0 [] [] a w rfl hlen hg nw))
 exact tail hg nw hr
noncomputable def k28 (n:Nat):Con Go.Proofs.Tryz.prog Ty_ where
 f:=35
 X:=(List Xd)
 Y:=Int
 A:=[.im 3]
 H:=[]
 N:=[]
 encA:=fun x=>[.im 3 x]
 encH:=fun _=>[]
 G:=fun x=>g28 n x
 encR:=fun y=>.sc (.int .i64 y)
 encO:=fun _=>[]
 strong:=true
 ok:=fun x y h=>⟨fun _=>g28_ok n x y h,CallOk.toG (g28_ok n x y h)⟩
noncomputable def g31_c (n:Nat):Cx P_ Ty_:=⟨[],[],[],[]⟩
abbrev g31_k:List (List Nat):=[[2,3],[2,3,6],[2,3,6,7],[2,3,6,7],[4],[2,3,13],[4],[4]]
noncomputable def g31_e1 (x:Xf×Xb) (p:Bool):EH Ty_:=([(2,.pt 2 [] 0 0),(3,.pt 3 [] 0 0),(6,.sc (.int .i64 x.2.Kind_)),(7,.sc (.bool p))],[(2,.lit 4 [[.im 3 x.1.Sign_,.im 1 x.1.Regs_,.im 4 x.1.Slots_,.im 2 x.1.List_]]),(3,.lit 2 [[.sc (.int .i64 x.2.Kind_),.sc (.int .i64 x.2.Param_)]])])
noncomputable def g31_t (n:Nat) (x:Xf×Xb):Pt P_ Ty_ [] Bool:=.join (S:=Bool) (g31_e1 x) (.ite (x.2.Kind_==(1:Int)) (.leaf (.inl true)) (.leaf (.inl (x.2.Kind_==(2:Int))))) fun s1=>.ite s1 (.leaf (x.2.Param_==(0:Int))) (.ite (x.2.Kind_==(3:Int)) (.ite (decide (x.2.Param_≥(0:Int))) (.leaf (decide (x.2.Param_<(x.1.Sign_.length:Int)))) (.leaf false)) (.leaf false))
noncomputable def k31 (n:Nat):Con P_ Ty_:=conOf (X:=Xf×Xb) (R:=Bool) (pro:=[]) (g31_c n) 38 g31_k (by kernel_rfl) (fun x=>.two .no (.two (.two .no (.two (.join Bool (g31_e1 x) ⟨[(2,.ref 2),(3,.ref 3),(6,.any),(7,.any)],[(2,.any),(3,.any)]⟩ .no .no) .no)) .no)) [.ag [.im 3,.im 1,.im 4,.im 2],.ag [.any,.any]] [] [] ⟨[(4,.any)],[]⟩ [] true (fun x=>[.ag [.im 3 x.1.Sign_,.im 1 x.1.Regs_,.im 4 x.1.Slots_,.im 2 x.1.List_],.ag [.sc (.int .i64 x.2.Kind_),.sc (.int .i64 x.2.Param_)]]) (fun x=>[]) (fun y=>([(4,.sc (.bool y))],[])) (fun y=>.sc (.bool y)) (fun y=>[]) (g31_t n) (fun x=>by kernel_rfl) (fun x=>by kernel_rfl) (by kernel_rfl) (fun y=>by kernel_rfl) (fun _ y=>by kernel_rfl)
noncomputable def g30_c (n:Nat):Cx P_ Ty_:=⟨[k31 n],[],[],[]⟩
abbrev g30_k:List (List Nat):=[[1,2],[3]]
noncomputable def g30_t (n:Nat) (x:Xb×(List Xd)×(List Xb)×(List Xe)×(List Xc)):Pt P_ Ty_ [200000] (Bool×(List Xd)×(List Xb)×(List Xe)×(List Xc)):=.call (k31 n) ((⟨x.2.1,x.2.2.1,x.2.2.2.1,x.2.2.2.2⟩:Xf),x.1) fun (y1:Bool)=>.leaf ((!y1),x.2.1,x.2.2.1,x.2.2.2.1,x.2.2.2.2)
noncomputable def k30 (n:Nat):Con P_ Ty_:=conOf (X:=Xb×(List Xd)×(List Xb)×(List Xe)×(List Xc)) (R:=Bool×(List Xd)×(List Xb)×(List Xe)×(List Xc)) (pro:=[200000]) (g30_c n) 37 g30_k (by kernel_rfl) (fun x=>.no) [.ag [.any,.any],.pt 200000] [(200000,[.im 3,.im 1,.im 4,.im 2])] [] ⟨[(3,.any)],[(200000,.any)]⟩ [200000] false (fun x=>[.ag [.sc (.int .i64 x.1.Kind_),.sc (.int .i64 x.1.Param_)],.pt 200000 [] 0 0]) (fun x=>[(200000,.lit 4 [[.im 3 x.2.1,.im 1 x.2.2.1,.im 4 x.2.2.2.1,.im 2 x.2.2.2.2]])]) (fun y=>([(3,.sc (.bool y.1))],[(200000,.lit 4 [[.im 3 y.2.1,.im 1 y.2.2.1,.im 4 y.2.2.2.1,.im 2 y.2.2.2.2]])])) (fun y=>.sc (.bool y.1)) (fun y=>[(200000,.lit 4 [[.im 3 y.2.1,.im 1 y.2.2.1,.im 4 y.2.2.2.1,.im 2 y.2.2.2.2]])]) (g30_t n) (fun x=>by kernel_rfl) (fun x=>by kernel_rfl) (by kernel_rfl) (fun y=>by kernel_rfl) (fun h=>nomatch h)
noncomputable def g50_c (n:Nat):Cx P_ Ty_:=⟨[k30 n],[],[],[]⟩
abbrev g50_k:List (List Nat):=[[0,1],[0,1,7,8],[0,1,7,8,9],[0,1,5,7,8],[0,1,5,7,8,16],[4],[0,1,7,8],[4]]
noncomputable def g50_t1 (n:Nat) (x:(List Xb)×(List Xd)×(List Xb)×(List Xe)×(List Xc)) (v1:Unit) (q1:Int×(List Xd)×(List Xb)×(List Xe)×(List Xc)):Pt P_ Ty_ [200000] (Bo (Int×(List Xd)×(List Xb)×(List Xe)×(List Xc)) (Int×(List Xd)×(List Xb)×(List Xe)×(List Xc)) (Int×(List Xd)×(List Xb)×(List Xe)×(List Xc))):=.ite (decide (q1.1<(x.1.length:Int))) (.bnd (idx x.1 q1.1) fun y1=>.call (k30 n) (y1,q1.2.1,q1.2.2.1,q1.2.2.2.1,q1.2.2.2.2) fun (y2:Bool×(List Xd)×(List Xb)×(List Xe)×(List Xc))=>.ite y2.1 (.leaf (.ret (q1.1,y2.2.1,y2.2.2.1,y2.2.2.2.1,y2.2.2.2.2))) (.leaf (.go ((W_ (q1.1+(1:Int))),y2.2.1,y2.2.2.1,y2.2.2.2.1,y2.2.2.2.2)))) (.leaf (.out (q1.1,q1.2.1,q1.2.2.1,q1.2.2.2.1,q1.2.2.2.2)))
noncomputable def g50_L1 (n:Nat) (x:(List Xb)×(List Xd)×(List Xb)×(List Xe)×(List Xc)) (v1:Unit):LCon P_ Ty_ [200000]:=lcon (X:=Int×(List Xd)×(List Xb)×(List Xe)×(List Xc)) (Y:=Int×(List Xd)×(List Xb)×(List Xe)×(List Xc)) (Z:=Int×(List Xd)×(List Xb)×(List Xe)×(List Xc)) (g50_c n) (subC [1,0,1,0,0] (fnC P_ 62 g50_k)) (fun q1=>.no) 0 true ⟨[(0,.im 1),(1,.fn [.ref 200000]),(7,.any),(8,.any)],[(200000,.any)]⟩ ⟨[(0,.im 1),(1,.fn [.ref 200000]),(7,.any),(8,.any),(9,.any)],[(200000,.any)]⟩ ⟨[(4,.any)],[(200000,.any)]⟩ (fun q1=>([(0,.im 1 x.1),(1,.fn 37 [.pt 200000 [] 0 0]),(7,.sc (.int .i64 (x.1.length:Int))),(8,.sc (.int .i64 q1.1))],[(200000,.lit 4 [[.im 3 q1.2.1,.im 1 q1.2.2.1,.im 4 q1.2.2.2.1,.im 2 q1.2.2.2.2]])])) (fun p=>([(0,.im 1 x.1),(1,.fn 37 [.pt 200000 [] 0 0]),(7,.sc (.int .i64 (x.1.length:Int))),(8,.sc (.int .i64 p.1)),(9,.sc (.bool false))],[(200000,.lit 4 [[.im 3 p.2.1,.im 1 p.2.2.1,.im 4 p.2.2.2.1,.im 2 p.2.2.2.2]])])) (fun p=>([(4,.sc (.int .i64 p.1))],[(200000,.lit 4 [[.im 3 p.2.1,.im 1 p.2.2.1,.im 4 p.2.2.2.1,.im 2 p.2.2.2.2]])])) n (g50_t1 n x v1) (fun h=>nomatch h) (fun q1=>by kernel_rfl)
noncomputable def g50_t (n:Nat) (x:(List Xb)×(List Xd)×(List Xb)×(List Xe)×(List Xc)):Pt P_ Ty_ [200000] (Int×(List Xd)×(List Xb)×(List Xe)×(List Xc)):=.loopR (V:=Unit) (g50_L1 n x) () ((0:Int),x.2.1,x.2.2.1,x.2.2.2.1,x.2.2.2.2) (fun (v1:Unit) (y3:Int×(List Xd)×(List Xb)×(List Xe)×(List Xc))=>.leaf ((-1:Int),y3.2.1,y3.2.2.1,y3.2.2.2.1,y3.2.2.2.2)) fun (v1:Unit) (z1:Int×(List Xd)×(List Xb)×(List Xe)×(List Xc))=>.leaf (z1.1,z1.2.1,z1.2.2.1,z1.2.2.2.1,z1.2.2.2.2)
noncomputable def k50 (n:Nat):Con P_ Ty_:=conOf (X:=(List Xb)×(List Xd)×(List Xb)×(List Xe)×(List Xc)) (R:=Int×(List Xd)×(List Xb)×(List Xe)×(List Xc)) (pro:=[200000]) (g50_c n) 62 g50_k (by kernel_rfl) (fun x=>.two .no (.two (.two .no (.two (.loop Unit (g50_L1 n x) true ⟨[(0,.im 1),(1,.fn [.ref 200000]),(7,.any),(8,.any)],[(200000,.any)]⟩) .no)) .no)) [.im 1,.fn 37 [.pt 200000]] [(200000,[.im 3,.im 1,.im 4,.im 2])] [] ⟨[(4,.any)],[(200000,.any)]⟩ [200000] false (fun x=>[.im 1 x.1,.fn 37 [.pt 200000 [] 0 0]]) (fun x=>[(200000,.lit 4 [[.im 3 x.2.1,.im 1 x.2.2.1,.im 4 x.2.2.2.1,.im 2 x.2.2.2.2]])]) (fun y=>([(4,.sc (.int .i64 y.1))],[(200000,.lit 4 [[.im 3 y.2.1,.im 1 y.2.2.1,.im 4 y.2.2.2.1,.im 2 y.2.2.2.2]])])) (fun y=>.sc (.int .i64 y.1)) (fun y=>[(200000,.lit 4 [[.im 3 y.2.1,.im 1 y.2.2.1,.im 4 y.2.2.2.1,.im 2 y.2.2.2.2]])]) (g50_t n) (fun x=>by kernel_rfl) (fun x=>by kernel_rfl) (by kernel_rfl) (fun y=>by kernel_rfl) (fun h=>nomatch h)
noncomputable def g29_c (n:Nat):Cx P_ Ty_:=⟨[k50 n],[],[],[]⟩
abbrev g29_k:List (List Nat):=[[0,1],[4]]
noncomputable def g29_t (n:Nat) (x:(List Xb)×(List Xd)×(List Xb)×(List Xe)×(List Xc)):Pt P_ Ty_ [200000] (Bool×(List Xd)×(List Xb)×(List Xe)×(List Xc)):=.call (k50 n) (x.1,x.2.1,x.2.2.1,x.2.2.2.1,x.2.2.2.2) fun (y1:Int×(List Xd)×(List Xb)×(List Xe)×(List Xc))=>.leaf ((decide (y1.1≥(0:Int))),y1.2.1,y1.2.2.1,y1.2.2.2.1,y1.2.2.2.2)
noncomputable def k29 (n:Nat):Con P_ Ty_:=conOf (X:=(List Xb)×(List Xd)×(List Xb)×(List Xe)×(List Xc)) (R:=Bool×(List Xd)×(List Xb)×(List Xe)×(List Xc)) (pro:=[200000]) (g29_c n) 36 g29_k (by kernel_rfl) (fun x=>.no) [.im 1,.fn 37 [.pt 200000]] [(200000,[.im 3,.im 1,.im 4,.im 2])] [] ⟨[(4,.any)],[(200000,.any)]⟩ [200000] false (fun x=>[.im 1 x.1,.fn 37 [.pt 200000 [] 0 0]]) (fun x=>[(200000,.lit 4 [[.im 3 x.2.1,.im 1 x.2.2.1,.im 4 x.2.2.2.1,.im 2 x.2.2.2.2]])]) (fun y=>([(4,.sc (.bool y.1))],[(200000,.lit 4 [[.im 3 y.2.1,.im 1 y.2.2.1,.im 4 y.2.2.2.1,.im 2 y.2.2.2.2]])])) (fun y=>.sc (.bool y.1)) (fun y=>[(200000,.lit 4 [[.im 3 y.2.1,.im 1 y.2.2.1,.im 4 y.2.2.2.1,.im 2 y.2.2.2.2]])]) (g29_t n) (fun x=>by kernel_rfl) (fun x=>by kernel_rfl) (by kernel_rfl) (fun y=>by kernel_rfl) (fun h=>nomatch h)
noncomputable def g52_c (n:Nat):Cx P_ Ty_:=⟨[],[],[],[]⟩
abbrev g52_k:List (List Nat):=[[0],[2]]
noncomputable def g52_t (n:Nat) (x:Int):Pt P_ Ty_ [] Bool:=.ite (decide ((IntKind.u32.wrap (BitVec.ofInt IntKind.u32.bits x &&& ~~~BitVec.ofInt IntKind.u32.bits (2147483648:Int)).toNat)≤(2139095040:Int))) (.leaf true) (.leaf (x==(2143289344:Int)))
noncomputable def k52 (n:Nat):Con P_ Ty_:=conOf (X:=Int) (R:=Bool) (pro:=[]) (g52_c n) 64 g52_k (by kernel_rfl) (fun x=>.no) [.any] [] [] ⟨[(2,.any)],[]⟩ [] true (fun x=>[.sc (.int .u32 x)]) (fun x=>[]) (fun y=>([(2,.sc (.bool y))],[])) (fun y=>.sc (.bool y)) (fun y=>[]) (g52_t n) (fun x=>by kernel_rfl) (fun x=>by kernel_rfl) (by kernel_rfl) (fun y=>by kernel_rfl) (fun _ y=>by kernel_rfl)
noncomputable def g34_c (n:Nat):Cx P_ Ty_:=⟨[k31 n,k52 n],[],[],[]⟩
abbrev g34_k:List (List Nat):=[[2,3],[3,9],[4],[3,13],[4],[4]]
noncomputable def g34_t (n:Nat) (x:Xf×Xe):Pt P_ Ty_ [] Bool:=.call (k31 n) (x.1,x.2.Type_) fun (y1:Bool)=>.ite (!y1) (.leaf false) (.ite (x.2.Type_.Kind_==(2:Int)) (.ite (x.2.Bits_==(0:Int)) (.ite (decide (x.2.Int_≥(0:Int))) (.leaf (decide (x.2.Int_≤(2147483647:Int)))) (.leaf false)) (.leaf false)) (.ite (x.2.Int_==(0:Int)) (.call (k52 n) x.2.Bits_ fun (y2:Bool)=>.leaf y2) (.leaf false)))
noncomputable def k34 (n:Nat):Con P_ Ty_:=conOf (X:=Xf×Xe) (R:=Bool) (pro:=[]) (g34_c n) 41 g34_k (by kernel_rfl) (fun x=>.no) [.ag [.im 3,.im 1,.im 4,.im 2],.ag [.any,.any,.any,.any,.any]] [] [] ⟨[(4,.any)],[]⟩ [] true (fun x=>[.ag [.im 3 x.1.Sign_,.im 1 x.1.Regs_,.im 4 x.1.Slots_,.im 2 x.1.List_],.ag [.sc (.int .i64 x.2.Type_.Kind_),.sc (.int .i64 x.2.Type_.Param_),.sc (.bool x.2.Keep_),.sc (.int .u32 x.2.Bits_),.sc (.int .i64 x.2.Int_)]]) (fun x=>[]) (fun y=>([(4,.sc (.bool y))],[])) (fun y=>.sc (.bool y)) (fun y=>[]) (g34_t n) (fun x=>by kernel_rfl) (fun x=>by kernel_rfl) (by kernel_rfl) (fun y=>by kernel_rfl) (fun _ y=>by kernel_rfl)
noncomputable def g33_c (n:Nat):Cx P_ Ty_:=⟨[k34 n],[],[],[]⟩
abbrev g33_k:List (List Nat):=[[1,2],[3]]
noncomputable def g33_t (n:Nat) (x:Xe×(List Xd)×(List Xb)×(List Xe)×(List Xc)):Pt P_ Ty_ [200000] (Bool×(List Xd)×(List Xb)×(List Xe)×(List Xc)):=.call (k34 n) ((⟨x.2.1,x.2.2.1,x.2.2.2.1,x.2.2.2.2⟩:Xf),x.1) fun (y1:Bool)=>.leaf ((!y1),x.2.1,x.2.2.1,x.2.2.2.1,x.2.2.2.2)
noncomputable def k33 (n:Nat):Con P_ Ty_:=conOf (X:=Xe×(List Xd)×(List Xb)×(List Xe)×(List Xc)) (R:=Bool×(List Xd)×(List Xb)×(List Xe)×(List Xc)) (pro:=[200000]) (g33_c n) 40 g33_k (by kernel_rfl) (fun x=>.no) [.ag [.any,.any,.any,.any,.any],.pt 200000] [(200000,[.im 3,.im 1,.im 4,.im 2])] [] ⟨[(3,.any)],[(200000,.any)]⟩ [200000] false (fun x=>[.ag [.sc (.int .i64 x.1.Type_.Kind_),.sc (.int .i64 x.1.Type_.Param_),.sc (.bool x.1.Keep_),.sc (.int .u32 x.1.Bits_),.sc (.int .i64 x.1.Int_)],.pt 200000 [] 0 0]) (fun x=>[(200000,.lit 4 [[.im 3 x.2.1,.im 1 x.2.2.1,.im 4 x.2.2.2.1,.im 2 x.2.2.2.2]])]) (fun y=>([(3,.sc (.bool y.1))],[(200000,.lit 4 [[.im 3 y.2.1,.im 1 y.2.2.1,.im 4 y.2.2.2.1,.im 2 y.2.2.2.2]])])) (fun y=>.sc (.bool y.1)) (fun y=>[(200000,.lit 4 [[.im 3 y.2.1,.im 1 y.2.2.1,.im 4 y.2.2.2.1,.im 2 y.2.2.2.2]])]) (g33_t n) (fun x=>by kernel_rfl) (fun x=>by kernel_rfl) (by kernel_rfl) (fun y=>by kernel_rfl) (fun h=>nomatch h)
noncomputable def g51_c (n:Nat):Cx P_ Ty_:=⟨[k33 n],[],[],[]⟩
abbrev g51_k:List (List Nat):=[[0,1],[0,1,7,8],[0,1,7,8,9],[0,1,5,7,8],[0,1,5,7,8,16],[4],[0,1,7,8],[4]]
noncomputable def g51_t1 (n:Nat) (x:(List Xe)×(List Xd)×(List Xb)×(List Xe)×(List Xc)) (v1:Unit) (q1:Int×(List Xd)×(List Xb)×(List Xe)×(List Xc)):Pt P_ Ty_ [200000] (Bo (Int×(List Xd)×(List Xb)×(List Xe)×(List Xc)) (Int×(List Xd)×(List Xb)×(List Xe)×(List Xc)) (Int×(List Xd)×(List Xb)×(List Xe)×(List Xc))):=.ite (decide (q1.1<(x.1.length:Int))) (.bnd (idx x.1 q1.1) fun y1=>.call (k33 n) (y1,q1.2.1,q1.2.2.1,q1.2.2.2.1,q1.2.2.2.2) fun (y2:Bool×(List Xd)×(List Xb)×(List Xe)×(List Xc))=>.ite y2.1 (.leaf (.ret (q1.1,y2.2.1,y2.2.2.1,y2.2.2.2.1,y2.2.2.2.2))) (.leaf (.go ((W_ (q1.1+(1:Int))),y2.2.1,y2.2.2.1,y2.2.2.2.1,y2.2.2.2.2)))) (.leaf (.out (q1.1,q1.2.1,q1.2.2.1,q1.2.2.2.1,q1.2.2.2.2)))
noncomputable def g51_L1 (n:Nat) (x:(List Xe)×(List Xd)×(List Xb)×(List Xe)×(List Xc)) (v1:Unit):LCon P_ Ty_ [200000]:=lcon (X:=Int×(List Xd)×(List Xb)×(List Xe)×(List Xc)) (Y:=Int×(List Xd)×(List Xb)×(List Xe)×(List Xc)) (Z:=Int×(List Xd)×(List Xb)×(List Xe)×(List Xc)) (g51_c n) (subC [1,0,1,0,0] (fnC P_ 63 g51_k)) (fun q1=>.no) 0 true ⟨[(0,.im 4),(1,.fn [.ref 200000]),(7,.any),(8,.any)],[(200000,.any)]⟩ ⟨[(0,.im 4),(1,.fn [.ref 200000]),(7,.any),(8,.any),(9,.any)],[(200000,.any)]⟩ ⟨[(4,.any)],[(200000,.any)]⟩ (fun q1=>([(0,.im 4 x.1),(1,.fn 40 [.pt 200000 [] 0 0]),(7,.sc (.int .i64 (x.1.length:Int))),(8,.sc (.int .i64 q1.1))],[(200000,.lit 4 [[.im 3 q1.2.1,.im 1 q1.2.2.1,.im 4 q1.2.2.2.1,.im 2 q1.2.2.2.2]])])) (fun p=>([(0,.im 4 x.1),(1,.fn 40 [.pt 200000 [] 0 0]),(7,.sc (.int .i64 (x.1.length:Int))),(8,.sc (.int .i64 p.1)),(9,.sc (.bool false))],[(200000,.lit 4 [[.im 3 p.2.1,.im 1 p.2.2.1,.im 4 p.2.2.2.1,.im 2 p.2.2.2.2]])])) (fun p=>([(4,.sc (.int .i64 p.1))],[(200000,.lit 4 [[.im 3 p.2.1,.im 1 p.2.2.1,.im 4 p.2.2.2.1,.im 2 p.2.2.2.2]])])) n (g51_t1 n x v1) (fun h=>nomatch h) (fun q1=>by kernel_rfl)
noncomputable def g51_t (n:Nat) (x:(List Xe)×(List Xd)×(List Xb)×(List Xe)×(List Xc)):Pt P_ Ty_ [200000] (Int×(List Xd)×(List Xb)×(List Xe)×(List Xc)):=.loopR (V:=Unit) (g51_L1 n x) () ((0:Int),x.2.1,x.2.2.1,x.2.2.2.1,x.2.2.2.2) (fun (v1:Unit) (y3:Int×(List Xd)×(List Xb)×(List Xe)×(List Xc))=>.leaf ((-1:Int),y3.2.1,y3.2.2.1,y3.2.2.2.1,y3.2.2.2.2)) fun (v1:Unit) (z1:Int×(List Xd)×(List Xb)×(List Xe)×(List Xc))=>.leaf (z1.1,z1.2.1,z1.2.2.1,z1.2.2.2.1,z1.2.2.2.2)
noncomputable def k51 (n:Nat):Con P_ Ty_:=conOf (X:=(List Xe)×(List Xd)×(List Xb)×(List Xe)×(List Xc)) (R:=Int×(List Xd)×(List Xb)×(List Xe)×(List Xc)) (pro:=[200000]) (g51_c n) 63 g51_k (by kernel_rfl) (fun x=>.two .no (.two (.two .no (.two (.loop Unit (g51_L1 n x) true ⟨[(0,.im 4),(1,.fn [.ref 200000]),(7,.any),(8,.any)],[(200000,.any)]⟩) .no)) .no)) [.im 4,.fn 40 [.pt 200000]] [(200000,[.im 3,.im 1,.im 4,.im 2])] [] ⟨[(4,.any)],[(200000,.any)]⟩ [200000] false (fun x=>[.im 4 x.1,.fn 40 [.pt 200000 [] 0 0]]) (fun x=>[(200000,.lit 4 [[.im 3 x.2.1,.im 1 x.2.2.1,.im 4 x.2.2.2.1,.im 2 x.2.2.2.2]])]) (fun y=>([(4,.sc (.int .i64 y.1))],[(200000,.lit 4 [[.im 3 y.2.1,.im 1 y.2.2.1,.im 4 y.2.2.2.1,.im 2 y.2.2.2.2]])])) (fun y=>.sc (.int .i64 y.1)) (fun y=>[(200000,.lit 4 [[.im 3 y.2.1,.im 1 y.2.2.1,.im 4 y.2.2.2.1,.im 2 y.2.2.2.2]])]) (g51_t n) (fun x=>by kernel_rfl) (fun x=>by kernel_rfl) (by kernel_rfl) (fun y=>by kernel_rfl) (fun h=>nomatch h)
noncomputable def g32_c (n:Nat):Cx P_ Ty_:=⟨[k51 n],[],[],[]⟩
abbrev g32_k:List (List Nat):=[[0,1],[4]]
noncomputable def g32_t (n:Nat) (x:(List Xe)×(List Xd)×(List Xb)×(List Xe)×(List Xc)):Pt P_ Ty_ [200000] (Bool×(List Xd)×(List Xb)×(List Xe)×(List Xc)):=.call (k51 n) (x.1,x.2.1,x.2.2.1,x.2.2.2.1,x.2.2.2.2) fun (y1:Int×(List Xd)×(List Xb)×(List Xe)×(List Xc))=>.leaf ((decide (y1.1≥(0:Int))),y1.2.1,y1.2.2.1,y1.2.2.2.1,y1.2.2.2.2)
noncomputable def k32 (n:Nat):Con P_ Ty_:=conOf (X:=(List Xe)×(List Xd)×(List Xb)×(List Xe)×(List Xc)) (R:=Bool×(List Xd)×(List Xb)×(List Xe)×(List Xc)) (pro:=[200000]) (g32_c n) 39 g32_k (by kernel_rfl) (fun x=>.no) [.im 4,.fn 40 [.pt 200000]] [(200000,[.im 3,.im 1,.im 4,.im 2])] [] ⟨[(4,.any)],[(200000,.any)]⟩ [200000] false (fun x=>[.im 4 x.1,.fn 40 [.pt 200000 [] 0 0]]) (fun x=>[(200000,.lit 4 [[.im 3 x.2.1,.im 1 x.2.2.1,.im 4 x.2.2.2.1,.im 2 x.2.2.2.2]])]) (fun y=>([(4,.sc (.bool y.1))],[(200000,.lit 4 [[.im 3 y.2.1,.im 1 y.2.2.1,.im 4 y.2.2.2.1,.im 2 y.2.2.2.2]])])) (fun y=>.sc (.bool y.1)) (fun y=>[(200000,.lit 4 [[.im 3 y.2.1,.im 1 y.2.2.1,.im 4 y.2.2.2.1,.im 2 y.2.2.2.2]])]) (g32_t n) (fun x=>by kernel_rfl) (fun x=>by kernel_rfl) (by kernel_rfl) (fun y=>by kernel_rfl) (fun h=>nomatch h)
noncomputable def g26_c (n:Nat):Cx P_ Ty_:=⟨[],[],[],[]⟩
abbrev g26_k:List (List Nat):=[[0,2],[2,4],[2,4,5],[2,3],[2,4,8],[2,3],[2,4,11],[2,3],[2,4,14],[2,4,14],[2,4,14],[2,4,14],[2,4,14],[2,4,14],[2,4,14],[2,3],[2,4,23],[2,4,23],[2,4,23],[2,4,23],[2,3],[2,4,29],[2,3],[2,4,32],[2,3],[2,4,35],[2,3],[2,4,38],[2,3],[2,4,41],[2,4,41],[2,3],[2,4,45],[2,4,45],[2,3],[2,4,49],[2,4,49],[2,4,49],[2,4,49],[2,4,49],[2,3],[2,4,56],[2,3],[2,4,59],[2,4,59],[2,3],[2,4,63],[2,3],[2,4,66],[2,3],[2,4,69],[2,3],[2,4,72],[2,3],[2,4,75],[2,3],[2,4,78],[2,78],[2,3],[2,3]]
noncomputable def g26_e1 (x:Int) (p:Bool):EH Ty_:=([(2,.pt 2 [] 0 0),(4,.sc (.int .i64 x)),(14,.sc (.bool p))],[(2,.lit 5 [[.sc (.int .i64 (0:Int)),.sc (.int .i64 (0:Int)),.sc (.int .i64 (0:Int)),.sc (.int .i64 (0:Int)),.sc (.int .i64 (0:Int))]])])
noncomputable def g26_e2 (x:Int) (p:Bool):EH Ty_:=([(2,.pt 2 [] 0 0),(4,.sc (.int .i64 x)),(23,.sc (.bool p))],[(2,.lit 5 [[.sc (.int .i64 (0:Int)),.sc (.int .i64 (0:Int)),.sc (.int .i64 (0:Int)),.sc (.int .i64 (0:Int)),.sc (.int .i64 (0:Int))]])])
noncomputable def g26_e3 (x:Int) (p:Bool):EH Ty_:=([(2,.pt 2 [] 0 0),(4,.sc (.int .i64 x)),(41,.sc (.bool p))],[(2,.lit 5 [[.sc (.int .i64 (0:Int)),.sc (.int .i64 (0:Int)),.sc (.int .i64 (0:Int)),.sc (.int .i64 (0:Int)),.sc (.int .i64 (0:Int))]])])
noncomputable def g26_e4 (x:Int) (p:Bool):EH Ty_:=([(2,.pt 2 [] 0 0),(4,.sc (.int .i64 x)),(45,.sc (.bool p))],[(2,.lit 5 [[.sc (.int .i64 (0:Int)),.sc (.int .i64 (0:Int)),.sc (.int .i64 (0:Int)),.sc (.int .i64 (0:Int)),.sc (.int .i64 (0:Int))]])])
noncomputable def g26_e5 (x:Int) (p:Bool):EH Ty_:=([(2,.pt 2 [] 0 0),(4,.sc (.int .i64 x)),(49,.sc (.bool p))],[(2,.lit 5 [[.sc (.int .i64 (0:Int)),.sc (.int .i64 (0:Int)),.sc (.int .i64 (0:Int)),.sc (.int .i64 (0:Int)),.sc (.int .i64 (0:Int))]])])
noncomputable def g26_e6 (x:Int) (p:Bool):EH Ty_:=([(2,.pt 2 [] 0 0),(4,.sc (.int .i64 x)),(59,.sc (.bool p))],[(2,.lit 5 [[.sc (.int .i64 (0:Int)),.sc (.int .i64 (0:Int)),.sc (.int .i64 (0:Int)),.sc (.int .i64 (0:Int)),.sc (.int .i64 (0:Int))]])])
noncomputable def g26_e7 (x:Int) (p:Bool):EH Ty_:=([(2,.pt 2 [] 0 0),(78,.sc (.bool p))],[(2,.lit 5 [[.sc (.int .i64 (0:Int)),.sc (.int .i64 (0:Int)),.sc (.int .i64 (0:Int)),.sc (.int .i64 (0:Int)),.sc (.int .i64 (0:Int))]])])
noncomputable def g26_t (n:Nat) (x:Int):Pt P_ Ty_ [] (Bool×Int×Int×Int×Int×Int):=.ite (x==(1:Int)) (.leaf (true,(1:Int),(0:Int),(0:Int),(0:Int),(0:Int))) (.ite (x==(2:Int)) (.leaf (true,(2:Int),(0:Int),(0:Int),(0:Int),(1:Int))) (.ite (x==(3:Int)) (.leaf (true,(8:Int),(7:Int),(0:Int),(0:Int),(0:Int))) (.join (S:=Bool) (g26_e1 x) (.ite (x==(4:Int)) (.leaf (.inl true)) (.ite (x==(5:Int)) (.leaf (.inl true)) (.ite (x==(6:Int)) (.leaf (.inl true)) (.ite (x==(7:Int)) (.leaf (.inl true)) (.ite (x==(8:Int)) (.leaf (.inl true)) (.ite (x==(9:Int)) (.leaf (.inl true)) (.leaf (.inl (x==(10:Int)))))))))) fun s1=>.ite s1 (.leaf (true,(4:Int),(5:Int),(5:Int),(0:Int),(0:Int))) (.join (S:=Bool) (g26_e2 x) (.ite (x==(11:Int)) (.leaf (.inl true)) (.ite (x==(12:Int)) (.leaf (.inl true)) (.ite (x==(13:Int)) (.leaf (.inl true)) (.leaf (.inl (x==(14:Int))))))) fun s2=>.ite s2 (.leaf (true,(4:Int),(5:Int),(0:Int),(0:Int),(0:Int))) (.ite (x==(15:Int)) (.leaf (true,(4:Int),(5:Int),(5:Int),(5:Int),(0:Int))) (.ite (x==(16:Int)) (.leaf (true,(1:Int),(1:Int),(2:Int),(0:Int),(0:Int))) (.ite (x==(17:Int)) (.leaf (true,(1:Int),(2:Int),(0:Int),(0:Int),(0:Int))) (.ite (x==(18:Int)) (.leaf (true,(2:Int),(1:Int),(0:Int),(0:Int),(0:Int))) (.join (S:=Bool) (g26_e3 x) (.ite (x==(19:Int)) (.leaf (.inl true)) (.leaf (.inl (x==(20:Int))))) fun s3=>.ite s3 (.leaf (true,(1:Int),(3:Int),(0:Int),(0:Int),(0:Int))) (.join (S:=Bool) (g26_e4 x) (.ite (x==(21:Int)) (.leaf (.inl true)) (.leaf (.inl (x==(25:Int))))) fun s4=>.ite s4 (.leaf (true,(2:Int),(2:Int),(0:Int),(0:Int),(0:Int))) (.join (S:=Bool) (g26_e5 x) (.ite (x==(22:Int)) (.leaf (.inl true)) (.ite (x==(23:Int)) (.leaf (.inl true)) (.ite (x==(24:Int)) (.leaf (.inl true)) (.ite (x==(27:Int)) (.leaf (.inl true)) (.leaf (.inl (x==(28:Int)))))))) fun s5=>.ite s5 (.leaf (true,(2:Int),(2:Int),(2:Int),(0:Int),(0:Int))) (.ite (x==(26:Int)) (.leaf (true,(2:Int),(2:Int),(2:Int),(2:Int),(0:Int))) (.join (S:=Bool) (g26_e6 x) (.ite (x==(29:Int)) (.leaf (.inl true)) (.leaf (.inl (x==(30:Int))))) fun s6=>.ite s6 (.leaf (true,(3:Int),(0:Int),(0:Int),(0:Int),(2:Int))) (.ite (x==(31:Int)) (.leaf (true,(0:Int),(3:Int),(0:Int),(0:Int),(2:Int))) (.ite (x==(32:Int)) (.leaf (true,(8:Int),(0:Int),(0:Int),(0:Int),(3:Int))) (.ite (x==(33:Int)) (.leaf (true,(0:Int),(8:Int),(0:Int),(0:Int),(3:Int))) (.ite (x==(34:Int)) (.leaf (true,(0:Int),(2:Int),(0:Int),(0:Int),(0:Int))) (.ite (x==(36:Int)) (.leaf (true,(0:Int),(0:Int),(0:Int),(0:Int),(4:Int))) (.join (S:=Bool) (g26_e7 x) (.ite (x==(35:Int)) (.leaf (.inl true)) (.leaf (.inl (x==(37:Int))))) fun s7=>.ite s7 (.leaf (true,(0:Int),(0:Int),(0:Int),(0:Int),(0:Int))) (.leaf (false,(0:Int),(0:Int),(0:Int),(0:Int),(0:Int))))))))))))))))))))))
noncomputable def k26 (n:Nat):Con P_ Ty_:=conOf (X:=Int) (R:=Bool×Int×Int×Int×Int×Int) (pro:=[]) (g26_c n) 65 g26_k (by kernel_rfl) (fun x=>.two .no (.two (.two .no (.two (.two .no (.two .no (.two .no (.two .no (.two .no (.two .no (.join Bool (g26_e1 x) ⟨[(2,.ref 2),(4,.any),(14,.any)],[(2,.any)]⟩ .no (.two .no (.join Bool (g26_e2 x) ⟨[(2,.ref 2),(4,.any),(23,.any)],[(2,.any)]⟩ .no (.two .no (.two .no (.two .no (.two .no (.two .no (.two .no (.two .no (.two .no (.two .no (.join Bool (g26_e3 x) ⟨[(2,.ref 2),(4,.any),(41,.any)],[(2,.any)]⟩ .no (.two .no (.join Bool (g26_e4 x) ⟨[(2,.ref 2),(4,.any),(45,.any)],[(2,.any)]⟩ .no (.two .no (.join Bool (g26_e5 x) ⟨[(2,.ref 2),(4,.any),(49,.any)],[(2,.any)]⟩ .no (.two .no (.two .no (.two .no (.join Bool (g26_e6 x) ⟨[(2,.ref 2),(4,.any),(59,.any)],[(2,.any)]⟩ .no (.two .no (.two .no (.two .no (.two .no (.two .no (.two .no (.two .no (.two .no (.two .no (.two .no (.two .no (.join Bool (g26_e7 x) ⟨[(2,.ref 2),(78,.any)],[(2,.any)]⟩ .no .no))))))))))))))))))))))))))))))))))))))) .no)) .no)) [.any] [] [] ⟨[(2,.ref 100000),(3,.any)],[(100000,.any)]⟩ [] true (fun x=>[.sc (.int .i64 x)]) (fun x=>[]) (fun y=>([(2,.pt 100000 [] 0 0),(3,.sc (.bool y.1))],[(100000,.lit 5 [[.sc (.int .i64 y.2.1),.sc (.int .i64 y.2.2.1),.sc (.int .i64 y.2.2.2.1),.sc (.int .i64 y.2.2.2.2.1),.sc (.int .i64 y.2.2.2.2.2)]])])) (fun y=>.tu [.ag [.sc (.int .i64 y.2.1),.sc (.int .i64 y.2.2.1),.sc (.int .i64 y.2.2.2.1),.sc (.int .i64 y.2.2.2.2.1),.sc (.int .i64 y.2.2.2.2.2)],.sc (.bool y.1)]) (fun y=>[]) (g26_t n) (fun x=>by kernel_rfl) (fun x=>by kernel_rfl) (by kernel_rfl) (fun y=>by kernel_rfl) (fun _ y=>by kernel_rfl)
noncomputable def g53_c (n:Nat):Cx P_ Ty_:=⟨[],[],[],[]⟩
abbrev g53_k:List (List Nat):=[[0,1,4],[0,1,4,17],[4,5],[4,5]]
noncomputable def g53_e1 (x:(List Xd)×(List Xb)×(List Xe)×(List Xc)×(List Bool)×(List (List Int))×(List Int)×Int) (p:Bool):EH Ty_:=([(0,.pt 200000 [] 0 0),(1,.sc (.int .i64 x.2.2.2.2.2.2.2)),(4,.pt 4 [] 0 0),(17,.sc (.bool p))],[(200000,.lit 7 [[.im 3 x.1,.im 1 x.2.1,.im 4 x.2.2.1,.im 2 x.2.2.2.1,.ow false 5 x.2.2.2.2.1,.ow true 7 x.2.2.2.2.2.1,.ow false 6 x.2.2.2.2.2.2.1]]),(4,.lit 2 [[.sc (.int .i64 (0:Int)),.sc (.int .i64 (0:Int))]])])
noncomputable def g53_t (n:Nat) (x:(List Xd)×(List Xb)×(List Xe)×(List Xc)×(List Bool)×(List (List Int))×(List Int)×Int):Pt P_ Ty_ [200000] (Bool×(List Xd)×(List Xb)×(List Xe)×(List Xc)×(List Bool)×(List (List Int))×(List Int)×Int×Int):=.join (S:=Bool) (g53_e1 x) (.ite (decide (x.2.2.2.2.2.2.2<(0:Int))) (.leaf (.inl true)) (.leaf (.inl (decide (x.2.2.2.2.2.2.2≥(x.2.1.length:Int)))))) fun s1=>.ite s1 (.leaf (false,x.1,x.2.1,x.2.2.1,x.2.2.2.1,x.2.2.2.2.1,x.2.2.2.2.2.1,x.2.2.2.2.2.2.1,(0:Int),(0:Int))) (.bnd (idx x.2.1 x.2.2.2.2.2.2.2) fun y1=>.leaf (true,x.1,x.2.1,x.2.2.1,x.2.2.2.1,x.2.2.2.2.1,x.2.2.2.2.2.1,x.2.2.2.2.2.2.1,y1.Kind_,y1.Param_))
noncomputable def k53 (n:Nat):Con P_ Ty_:=conOf (X:=(List Xd)×(List Xb)×(List Xe)×(List Xc)×(List Bool)×(List (List Int))×(List Int)×Int) (R:=Bool×(List Xd)×(List Xb)×(List Xe)×(List Xc)×(List Bool)×(List (List Int))×(List Int)×Int×Int) (pro:=[200000]) (g53_c n) 66 g53_k (by kernel_rfl) (fun x=>.two .no (.two (.join Bool (g53_e1 x) ⟨[(0,.ref 200000),(1,.any),(4,.ref 4),(17,.any)],[(200000,.any),(4,.any)]⟩ .no .no) .no)) [.pt 200000,.any] [(200000,[.im 3,.im 1,.im 4,.im 2,.ow false 5,.ow true 7,.ow false 6])] [] ⟨[(4,.ref 100000),(5,.any)],[(200000,.any),(100000,.any)]⟩ [200000] false (fun x=>[.pt 200000 [] 0 0,.sc (.int .i64 x.2.2.2.2.2.2.2)]) (fun x=>[(200000,.lit 7 [[.im 3 x.1,.im 1 x.2.1,.im 4 x.2.2.1,.im 2 x.2.2.2.1,.ow false 5 x.2.2.2.2.1,.ow true 7 x.2.2.2.2.2.1,.ow false 6 x.2.2.2.2.2.2.1]])]) (fun y=>([(4,.pt 100000 [] 0 0),(5,.sc (.bool y.1))],[(200000,.lit 7 [[.im 3 y.2.1,.im 1 y.2.2.1,.im 4 y.2.2.2.1,.im 2 y.2.2.2.2.1,.ow false 5 y.2.2.2.2.2.1,.ow true 7 y.2.2.2.2.2.2.1,.ow false 6 y.2.2.2.2.2.2.2.1]]),(100000,.lit 2 [[.sc (.int .i64 y.2.2.2.2.2.2.2.2.1),.sc (.int .i64 y.2.2.2.2.2.2.2.2.2)]])])) (fun y=>.tu [.ag [.sc (.int .i64 y.2.2.2.2.2.2.2.2.1),.sc (.int .i64 y.2.2.2.2.2.2.2.2.2)],.sc (.bool y.1)]) (fun y=>[(200000,.lit 7 [[.im 3 y.2.1,.im 1 y.2.2.1,.im 4 y.2.2.2.1,.im 2 y.2.2.2.2.1,.ow false 5 y.2.2.2.2.2.1,.ow true 7 y.2.2.2.2.2.2.1,.ow false 6 y.2.2.2.2.2.2.2.1]])]) (g53_t n) (fun x=>by kernel_rfl) (fun x=>by kernel_rfl) (by kernel_rfl) (fun y=>by kernel_rfl) (fun h=>nomatch h)
noncomputable def g54_c (n:Nat):Cx P_ Ty_:=⟨[],[],[],[]⟩
abbrev g54_k:List (List Nat):=[[1,3,5],[1,3,5,7],[3,5,7,11],[3,5,7,11,12],[6],[3,5,7,11,15],[6],[3,5,7,11,20],[6],[3,5,7,11,25],[6],[3,5,7,11,30],[6],[3,5,7,11,38],[6],[3,5,7,43],[6],[6]]
noncomputable def g54_t (n:Nat) (x:Xb×Int×Xb):Pt P_ Ty_ [] Bool:=.ite (x.2.1==(1:Int)) (.leaf (x.1.Kind_==(1:Int))) (.ite (x.2.1==(2:Int)) (.leaf (x.1.Kind_==(2:Int))) (.ite (x.2.1==(3:Int)) (.leaf (x.1.Kind_==(3:Int))) (.ite (x.2.1==(4:Int)) (.leaf (x.1.Kind_ != (2:Int))) (.ite (x.2.1==(5:Int)) (.ite (x.1.Kind_==(1:Int)) (.leaf true) (.leaf (x.1.Kind_==x.2.2.Kind_ && (x.1.Param_==x.2.2.Param_ && true)))) (.ite (x.2.1==(6:Int)) (.leaf (x.1.Kind_==x.2.2.Kind_ && (x.1.Param_==x.2.2.Param_ && true))) (.ite (x.2.1==(7:Int)) (.ite (x.1.Kind_==x.2.2.Kind_ && (x.1.Param_==x.2.2.Param_ && true)) (.leaf true) (.ite (x.1.Kind_==(1:Int)) (.leaf (x.2.2.Kind_==(3:Int))) (.leaf false))) (.leaf true)))))))
noncomputable def k54 (n:Nat):Con P_ Ty_:=conOf (X:=Xb×Int×Xb) (R:=Bool) (pro:=[]) (g54_c n) 67 g54_k (by kernel_rfl) (fun x=>.no) [.ag [.any,.any],.any,.ag [.any,.any]] [] [] ⟨[(6,.any)],[]⟩ [] true (fun x=>[.ag [.sc (.int .i64 x.1.Kind_),.sc (.int .i64 x.1.Param_)],.sc (.int .i64 x.2.1),.ag [.sc (.int .i64 x.2.2.Kind_),.sc (.int .i64 x.2.2.Param_)]]) (fun x=>[]) (fun y=>([(6,.sc (.bool y))],[])) (fun y=>.sc (.bool y)) (fun y=>[]) (g54_t n) (fun x=>by kernel_rfl) (fun x=>by kernel_rfl) (by kernel_rfl) (fun y=>by kernel_rfl) (fun _ y=>by kernel_rfl)
noncomputable def g35_c (n:Nat):Cx P_ Ty_:=⟨[k26 n,k53 n,k54 n,k52 n],[],[],[]⟩
abbrev g35_k:List (List Nat):=[[0,3],[0,3,5,6],[0,3,5,21],[4],[0,3,5,7,8],[0,3,5,7,8,30,31],[0,3,5,7,8,30,31,32],[0,3,5,7,8,9,10,30,31],[0,3,5,7,8,9,10,11,30,31],[0,3,5,7,8,9,10,11,30,31,47],[0,3,5,7,8,30,31,49],[4],[0,3,5,7,8,9,10,12,13,30,31],[0,3,5,7,8,9,12,30,31,64],[4],[0,3,5,7,8,12,30,31,65],[0,3,5,7,8,12,30,31,65,66],[0,3,5,7,8,30,31],[0,3,5,7,8,12,30,31,70],[0,3,5,7,8,12,30,31,74],[0,3,5,7,8,30,31],[0,3,5,7,8,30,31],[0,3,5,8,95],[4],[0,3,8,97],[0,3,8,97,98],[4],[0,3,8,97,108],[4],[0,3,8,97,131],[4],[0,3,161],[4],[4]]
noncomputable def g35_e1 (x:(List Xd)×(List Xb)×(List Xe)×(List Xc)×(List Bool)×(List (List Int))×(List Int)×Xc) (v1:Int×Int×Int×Int×Int) (q1:Int×(List Xd)×(List Xb)×(List Xe)×(List Xc)×(List Bool)×(List (List Int))×(List Int)×Int×Int×Int×Int) (p:Bool×(List Xd)×(List Xb)×(List Xe)×(List Xc)×(List Bool)×(List (List Int))×(List Int)×Int×Int):EH Ty_:=([(0,.pt 200000 [] 0 0),(3,.pt 3 [] 0 0),(5,.pt 5 [] 0 0),(7,.pt 7 [] 0 0),(8,.pt 8 [] 0 0),(9,.sc (.int .i64 q1.1)),(12,.pt 12 [] 0 0),(30,.ag [.sc (.int .i64 v1.1),.sc (.int .i64 v1.2.1),.sc (.int .i64 v1.2.2.1),.sc (.int .i64 v1.2.2.2.1)]),(31,.sc (.int .i64 q1.1)),(64,.sc (.bool p.1))],[(200000,.lit 7 [[.im 3 p.2.1,.im 1 p.2.2.1,.im 4 p.2.2.2.1,.im 2 p.2.2.2.2.1,.ow false 5 p.2.2.2.2.2.1,.ow true 7 p.2.2.2.2.2.2.1,.ow false 6 p.2.2.2.2.2.2.2.1]]),(3,.lit 7 [[.sc (.int .i64 x.2.2.2.2.2.2.2.Op_),.sc (.int .i64 x.2.2.2.2.2.2.2.D_),.sc (.int .i64 x.2.2.2.2.2.2.2.A_),.sc (.int .i64 x.2.2.2.2.2.2.2.B_),.sc (.int .i64 x.2.2.2.2.2.2.2.C_),.sc (.int .i64 x.2.2.2.2.2.2.2.N_),.sc (.int .u32 x.2.2.2.2.2.2.2.Bits_)]]),(5,.lit 5 [[.sc (.int .i64 v1.1),.sc (.int .i64 v1.2.1),.sc (.int .i64 v1.2.2.1),.sc (.int .i64 v1.2.2.2.1),.sc (.int .i64 v1.2.2.2.2)]]),(7,.lit 2 [[.sc (.int .i64 q1.2.2.2.2.2.2.2.2.1),.sc (.int .i64 q1.2.2.2.2.2.2.2.2.2.1)]]),(8,.lit 2 [[.sc (.int .i64 q1.2.2.2.2.2.2.2.2.2.2.1),.sc (.int .i64 q1.2.2.2.2.2.2.2.2.2.2.2)]]),(12,.lit 2 [[.sc (.int .i64 p.2.2.2.2.2.2.2.2.1),.sc (.int .i64 p.2.2.2.2.2.2.2.2.2)]])])
noncomputable def g35_e2 (x:(List Xd)×(List Xb)×(List Xe)×(List Xc)×(List Bool)×(List (List Int))×(List Int)×Xc) (p:Bool×(List Xd)×(List Xb)×(List Xe)×(List Xc)×(List Bool)×(List (List Int))×(List Int)×Int×Int×Int×Int×Int×Int×Int):EH Ty_:=([(0,.pt 200000 [] 0 0),(3,.pt 3 [] 0 0),(5,.pt 5 [] 0 0),(8,.pt 8 [] 0 0),(95,.sc (.bool p.1))],[(200000,.lit 7 [[.im 3 p.2.1,.im 1 p.2.2.1,.im 4 p.2.2.2.1,.im 2 p.2.2.2.2.1,.ow false 5 p.2.2.2.2.2.1,.ow true 7 p.2.2.2.2.2.2.1,.ow false 6 p.2.2.2.2.2.2.2.1]]),(3,.lit 7 [[.sc (.int .i64 x.2.2.2.2.2.2.2.Op_),.sc (.int .i64 x.2.2.2.2.2.2.2.D_),.sc (.int .i64 x.2.2.2.2.2.2.2.A_),.sc (.int .i64 x.2.2.2.2.2.2.2.B_),.sc (.int .i64 x.2.2.2.2.2.2.2.C_),.sc (.int .i64 x.2.2.2.2.2.2.2.N_),.sc (.int .u32 x.2.2.2.2.2.2.2.Bits_)]]),(5,.lit 5 [[.sc (.int .i64 p.2.2.2.2.2.2.2.2.1),.sc (.int .i64 p.2.2.2.2.2.2.2.2.2.1),.sc (.int .i64 p.2.2.2.2.2.2.2.2.2.2.1),.sc (.int .i64 p.2.2.2.2.2.2.2.2.2.2.2.1),.sc (.int .i64 p.2.2.2.2.2.2.2.2.2.2.2.2.1)]]),(8,.lit 2 [[.sc (.int .i64 p.2.2.2.2.2.2.2.2.2.2.2.2.2.1),.sc (.int .i64 p.2.2.2.2.2.2.2.2.2.2.2.2.2.2)]])])
noncomputable def g35_t1 (n:Nat) (x:(List Xd)×(List Xb)×(List Xe)×(List Xc)×(List Bool)×(List (List Int))×(List Int)×Xc) (v1:Int×Int×Int×Int×Int) (q1:Int×(List Xd)×(List Xb)×(List Xe)×(List Xc)×(List Bool)×(List (List Int))×(List Int)×Int×Int×Int×Int):Pt P_ Ty_ [200000] (Bo (Int×(List Xd)×(List Xb)×(List Xe)×(List Xc)×(List Bool)×(List (List Int))×(List Int)×Int×Int×Int×Int) (Int×(List Xd)×(List Xb)×(List Xe)×(List Xc)×(List Bool)×(List (List Int))×(List Int)×Int×Int×Int×Int) ((List Xd)×(List Xb)×(List Xe)×(List Xc)×(List Bool)×(List (List Int))×(List Int))):=.ite (decide (q1.1<(4:Int))) (.bnd (idx [v1.1,v1.2.1,v1.2.2.1,v1.2.2.2.1] q1.1) fun y2=>.bnd (idx [x.2.2.2.2.2.2.2.D_,x.2.2.2.2.2.2.2.A_,x.2.2.2.2.2.2.2.B_,x.2.2.2.2.2.2.2.C_] q1.1) fun y3=>.ite (y2==(0:Int)) (.ite (y3 != (0:Int)) (.leaf (.ret (q1.2.1,q1.2.2.1,q1.2.2.2.1,q1.2.2.2.2.1,q1.2.2.2.2.2.1,q1.2.2.2.2.2.2.1,q1.2.2.2.2.2.2.2.1))) (.leaf (.go ((W_ (q1.1+(1:Int))),q1.2.1,q1.2.2.1,q1.2.2.2.1,q1.2.2.2.2.1,q1.2.2.2.2.2.1,q1.2.2.2.2.2.2.1,q1.2.2.2.2.2.2.2.1,q1.2.2.2.2.2.2.2.2.1,q1.2.2.2.2.2.2.2.2.2.1,q1.2.2.2.2.2.2.2.2.2.2.1,q1.2.2.2.2.2.2.2.2.2.2.2)))) (.call (k53 n) (q1.2.1,q1.2.2.1,q1.2.2.2.1,q1.2.2.2.2.1,q1.2.2.2.2.2.1,q1.2.2.2.2.2.2.1,q1.2.2.2.2.2.2.2.1,y3) fun (y4:Bool×(List Xd)×(List Xb)×(List Xe)×(List Xc)×(List Bool)×(List (List Int))×(List Int)×Int×Int)=>.join (S:=Bool×(List Xd)×(List Xb)×(List Xe)×(List Xc)×(List Bool)×(List (List Int))×(List Int)×Int×Int) (g35_e1 x v1 q1) (.ite (!y4.1) (.leaf (.inl (true,y4.2.1,y4.2.2.1,y4.2.2.2.1,y4.2.2.2.2.1,y4.2.2.2.2.2.1,y4.2.2.2.2.2.2.1,y4.2.2.2.2.2.2.2.1,y4.2.2.2.2.2.2.2.2.1,y4.2.2.2.2.2.2.2.2.2))) (.call (k54 n) ((⟨y4.2.2.2.2.2.2.2.2.1,y4.2.2.2.2.2.2.2.2.2⟩:Xb),y2,(⟨q1.2.2.2.2.2.2.2.2.1,q1.2.2.2.2.2.2.2.2.2.1⟩:Xb)) fun (y5:Bool)=>.leaf (.inl ((!y5),y4.2.1,y4.2.2.1,y4.2.2.2.1,y4.2.2.2.2.1,y4.2.2.2.2.2.1,y4.2.2.2.2.2.2.1,y4.2.2.2.2.2.2.2.1,y4.2.2.2.2.2.2.2.2.1,y4.2.2.2.2.2.2.2.2.2)))) fun s1=>.ite s1.1 (.leaf (.ret (s1.2.1,s1.2.2.1,s1.2.2.2.1,s1.2.2.2.2.1,s1.2.2.2.2.2.1,s1.2.2.2.2.2.2.1,s1.2.2.2.2.2.2.2.1))) (.ite (q1.1==(0:Int)) (.leaf (.go ((W_ (q1.1+(1:Int))),s1.2.1,s1.2.2.1,s1.2.2.2.1,s1.2.2.2.2.1,s1.2.2.2.2.2.1,s1.2.2.2.2.2.2.1,s1.2.2.2.2.2.2.2.1,s1.2.2.2.2.2.2.2.2.1,s1.2.2.2.2.2.2.2.2.2,s1.2.2.2.2.2.2.2.2.1,s1.2.2.2.2.2.2.2.2.2))) (.ite (q1.1==(1:Int)) (.ite (v1.1==(0:Int)) (.leaf (.go ((W_ (q1.1+(1:Int))),s1.2.1,s1.2.2.1,s1.2.2.2.1,s1.2.2.2.2.1,s1.2.2.2.2.2.1,s1.2.2.2.2.2.2.1,s1.2.2.2.2.2.2.2.1,q1.2.2.2.2.2.2.2.2.1,q1.2.2.2.2.2.2.2.2.2.1,s1.2.2.2.2.2.2.2.2.1,s1.2.2.2.2.2.2.2.2.2))) (.leaf (.go ((W_ (q1.1+(1:Int))),s1.2.1,s1.2.2.1,s1.2.2.2.1,s1.2.2.2.2.1,s1.2.2.2.2.2.1,s1.2.2.2.2.2.2.1,s1.2.2.2.2.2.2.2.1,q1.2.2.2.2.2.2.2.2.1,q1.2.2.2.2.2.2.2.2.2.1,q1.2.2.2.2.2.2.2.2.2.2.1,q1.2.2.2.2.2.2.2.2.2.2.2)))) (.leaf (.go ((W_ (q1.1+(1:Int))),s1.2.1,s1.2.2.1,s1.2.2.2.1,s1.2.2.2.2.1,s1.2.2.2.2.2.1,s1.2.2.2.2.2.2.1,s1.2.2.2.2.2.2.2.1,q1.2.2.2.2.2.2.2.2.1,q1.2.2.2.2.2.2.2.2.2.1,q1.2.2.2.2.2.2.2.2.2.2.1,q1.2.2.2.2.2.2.2.2.2.2.2))))))) (.leaf (.out (q1.1,q1.2.1,q1.2.2.1,q1.2.2.2.1,q1.2.2.2.2.1,q1.2.2.2.2.2.1,q1.2.2.2.2.2.2.1,q1.2.2.2.2.2.2.2.1,q1.2.2.2.2.2.2.2.2.1,q1.2.2.2.2.2.2.2.2.2.1,q1.2.2.2.2.2.2.2.2.2.2.1,q1.2.2.2.2.2.2.2.2.2.2.2)))
noncomputable def g35_L1 (n:Nat) (x:(List Xd)×(List Xb)×(List Xe)×(List Xc)×(List Bool)×(List (List Int))×(List Int)×Xc) (v1:Int×Int×Int×Int×Int):LCon P_ Ty_ [200000]:=lcon (X:=Int×(List Xd)×(List Xb)×(List Xe)×(List Xc)×(List Bool)×(List (List Int))×(List Int)×Int×Int×Int×Int) (Y:=Int×(List Xd)×(List Xb)×(List Xe)×(List Xc)×(List Bool)×(List (List Int))×(List Int)×Int×Int×Int×Int) (Z:=(List Xd)×(List Xb)×(List Xe)×(List Xc)×(List Bool)×(List (List Int))×(List Int)) (g35_c n) (subC [1,1,1,1,0,1,0,0] (fnC P_ 42 g35_k)) (fun q1=>.two .no (.two .no (.two (.two (.two .no (.two .no (.two .no (.two .no (.two (.join (Bool×(List Xd)×(List Xb)×(List Xe)×(List Xc)×(List Bool)×(List (List Int))×(List Int)×Int×Int) (g35_e1 x v1 q1) ⟨[(0,.ref 200000),(3,.ref 3),(5,.ref 5),(7,.ref 7),(8,.ref 8),(9,.any),(12,.ref 12),(30,.any),(31,.any),(64,.any)],[(200000,.any),(3,.any),(5,.any),(7,.any),(8,.any),(12,.any)]⟩ .no .no) .no))))) .no) .no))) 0 true ⟨[(0,.ref 200000),(3,.ref 3),(5,.ref 5),(7,.ref 7),(8,.ref 8),(30,.any),(31,.any)],[(200000,.any),(3,.any),(5,.any),(7,.any),(8,.any)]⟩ ⟨[(0,.ref 200000),(3,.ref 3),(5,.ref 5),(7,.ref 7),(8,.ref 8),(30,.any),(31,.any),(32,.any)],[(200000,.any),(3,.any),(5,.any),(7,.any),(8,.any)]⟩ ⟨[(4,.any)],[(200000,.any)]⟩ (fun q1=>([(0,.pt 200000 [] 0 0),(3,.pt 3 [] 0 0),(5,.pt 5 [] 0 0),(7,.pt 7 [] 0 0),(8,.pt 8 [] 0 0),(30,.ag [.sc (.int .i64 v1.1),.sc (.int .i64 v1.2.1),.sc (.int .i64 v1.2.2.1),.sc (.int .i64 v1.2.2.2.1)]),(31,.sc (.int .i64 q1.1))],[(200000,.lit 7 [[.im 3 q1.2.1,.im 1 q1.2.2.1,.im 4 q1.2.2.2.1,.im 2 q1.2.2.2.2.1,.ow false 5 q1.2.2.2.2.2.1,.ow true 7 q1.2.2.2.2.2.2.1,.ow false 6 q1.2.2.2.2.2.2.2.1]]),(3,.lit 7 [[.sc (.int .i64 x.2.2.2.2.2.2.2.Op_),.sc (.int .i64 x.2.2.2.2.2.2.2.D_),.sc (.int .i64 x.2.2.2.2.2.2.2.A_),.sc (.int .i64 x.2.2.2.2.2.2.2.B_),.sc (.int .i64 x.2.2.2.2.2.2.2.C_),.sc (.int .i64 x.2.2.2.2.2.2.2.N_),.sc (.int .u32 x.2.2.2.2.2.2.2.Bits_)]]),(5,.lit 5 [[.sc (.int .i64 v1.1),.sc (.int .i64 v1.2.1),.sc (.int .i64 v1.2.2.1),.sc (.int .i64 v1.2.2.2.1),.sc (.int .i64 v1.2.2.2.2)]]),(7,.lit 2 [[.sc (.int .i64 q1.2.2.2.2.2.2.2.2.1),.sc (.int .i64 q1.2.2.2.2.2.2.2.2.2.1)]]),(8,.lit 2 [[.sc (.int .i64 q1.2.2.2.2.2.2.2.2.2.2.1),.sc (.int .i64 q1.2.2.2.2.2.2.2.2.2.2.2)]])])) (fun p=>([(0,.pt 200000 [] 0 0),(3,.pt 3 [] 0 0),(5,.pt 5 [] 0 0),(7,.pt 7 [] 0 0),(8,.pt 8 [] 0 0),(30,.ag [.sc (.int .i64 v1.1),.sc (.int .i64 v1.2.1),.sc (.int .i64 v1.2.2.1),.sc (.int .i64 v1.2.2.2.1)]),(31,.sc (.int .i64 p.1)),(32,.sc (.bool false))],[(200000,.lit 7 [[.im 3 p.2.1,.im 1 p.2.2.1,.im 4 p.2.2.2.1,.im 2 p.2.2.2.2.1,.ow false 5 p.2.2.2.2.2.1,.ow true 7 p.2.2.2.2.2.2.1,.ow false 6 p.2.2.2.2.2.2.2.1]]),(3,.lit 7 [[.sc (.int .i64 x.2.2.2.2.2.2.2.Op_),.sc (.int .i64 x.2.2.2.2.2.2.2.D_),.sc (.int .i64 x.2.2.2.2.2.2.2.A_),.sc (.int .i64 x.2.2.2.2.2.2.2.B_),.sc (.int .i64 x.2.2.2.2.2.2.2.C_),.sc (.int .i64 x.2.2.2.2.2.2.2.N_),.sc (.int .u32 x.2.2.2.2.2.2.2.Bits_)]]),(5,.lit 5 [[.sc (.int .i64 v1.1),.sc (.int .i64 v1.2.1),.sc (.int .i64 v1.2.2.1),.sc (.int .i64 v1.2.2.2.1),.sc (.int .i64 v1.2.2.2.2)]]),(7,.lit 2 [[.sc (.int .i64 p.2.2.2.2.2.2.2.2.1),.sc (.int .i64 p.2.2.2.2.2.2.2.2.2.1)]]),(8,.lit 2 [[.sc (.int .i64 p.2.2.2.2.2.2.2.2.2.2.1),.sc (.int .i64 p.2.2.2.2.2.2.2.2.2.2.2)]])])) (fun p=>([(4,.sc (.bool false))],[(200000,.lit 7 [[.im 3 p.1,.im 1 p.2.1,.im 4 p.2.2.1,.im 2 p.2.2.2.1,.ow false 5 p.2.2.2.2.1,.ow true 7 p.2.2.2.2.2.1,.ow false 6 p.2.2.2.2.2.2]])])) n (g35_t1 n x v1) (fun h=>nomatch h) (fun q1=>by kernel_rfl)
noncomputable def g35_t (n:Nat) (x:(List Xd)×(List Xb)×(List Xe)×(List Xc)×(List Bool)×(List (List Int))×(List Int)×Xc):Pt P_ Ty_ [200000] (Bool×(List Xd)×(List Xb)×(List Xe)×(List Xc)×(List Bool)×(List (List Int))×(List Int)):=.call (k26 n) x.2.2.2.2.2.2.2.Op_ fun (y1:Bool×Int×Int×Int×Int×Int)=>.ite (!y1.1) (.leaf (false,x.1,x.2.1,x.2.2.1,x.2.2.2.1,x.2.2.2.2.1,x.2.2.2.2.2.1,x.2.2.2.2.2.2.1)) (.loopR (V:=Int×Int×Int×Int×Int) (g35_L1 n x) (y1.2.1,y1.2.2.1,y1.2.2.2.1,y1.2.2.2.2.1,y1.2.2.2.2.2) ((0:Int),x.1,x.2.1,x.2.2.1,x.2.2.2.1,x.2.2.2.2.1,x.2.2.2.2.2.1,x.2.2.2.2.2.2.1,(0:Int),(0:Int),(0:Int),(0:Int)) (fun (v1:Int×Int×Int×Int×Int) (y6:Int×(List Xd)×(List Xb)×(List Xe)×(List Xc)×(List Bool)×(List (List Int))×(List Int)×Int×Int×Int×Int)=>.join (S:=Bool×(List Xd)×(List Xb)×(List Xe)×(List Xc)×(List Bool)×(List (List Int))×(List Int)×Int×Int×Int×Int×Int×Int×Int) (g35_e2 x) (.ite (x.2.2.2.2.2.2.2.Op_==(1:Int)) (.call (k52 n) x.2.2.2.2.2.2.2.Bits_ fun (y7:Bool)=>.ite (!y7) (.leaf (.inl (true,y6.2.1,y6.2.2.1,y6.2.2.2.1,y6.2.2.2.2.1,y6.2.2.2.2.2.1,y6.2.2.2.2.2.2.1,y6.2.2.2.2.2.2.2.1,v1.1,v1.2.1,v1.2.2.1,v1.2.2.2.1,v1.2.2.2.2,y6.2.2.2.2.2.2.2.2.2.2.1,y6.2.2.2.2.2.2.2.2.2.2.2))) (.ite (x.2.2.2.2.2.2.2.Op_ != (1:Int)) (.leaf (.inl ((x.2.2.2.2.2.2.2.Bits_ != (0:Int)),y6.2.1,y6.2.2.1,y6.2.2.2.1,y6.2.2.2.2.1,y6.2.2.2.2.2.1,y6.2.2.2.2.2.2.1,y6.2.2.2.2.2.2.2.1,v1.1,v1.2.1,v1.2.2.1,v1.2.2.2.1,v1.2.2.2.2,y6.2.2.2.2.2.2.2.2.2.2.1,y6.2.2.2.2.2.2.2.2.2.2.2))) (.leaf (.inl (false,y6.2.1,y6.2.2.1,y6.2.2.2.1,y6.2.2.2.2.1,y6.2.2.2.2.2.1,y6.2.2.2.2.2.2.1,y6.2.2.2.2.2.2.2.1,v1.1,v1.2.1,v1.2.2.1,v1.2.2.2.1,v1.2.2.2.2,y6.2.2.2.2.2.2.2.2.2.2.1,y6.2.2.2.2.2.2.2.2.2.2.2))))) (.ite (x.2.2.2.2.2.2.2.Op_ != (1:Int)) (.leaf (.inl ((x.2.2.2.2.2.2.2.Bits_ != (0:Int)),y6.2.1,y6.2.2.1,y6.2.2.2.1,y6.2.2.2.2.1,y6.2.2.2.2.2.1,y6.2.2.2.2.2.2.1,y6.2.2.2.2.2.2.2.1,v1.1,v1.2.1,v1.2.2.1,v1.2.2.2.1,v1.2.2.2.2,y6.2.2.2.2.2.2.2.2.2.2.1,y6.2.2.2.2.2.2.2.2.2.2.2))) (.leaf (.inl (false,y6.2.1,y6.2.2.1,y6.2.2.2.1,y6.2.2.2.2.1,y6.2.2.2.2.2.1,y6.2.2.2.2.2.2.1,y6.2.2.2.2.2.2.2.1,v1.1,v1.2.1,v1.2.2.1,v1.2.2.2.1,v1.2.2.2.2,y6.2.2.2.2.2.2.2.2.2.2.1,y6.2.2.2.2.2.2.2.2.2.2.2))))) fun s2=>.ite s2.1 (.leaf (false,s2.2.1,s2.2.2.1,s2.2.2.2.1,s2.2.2.2.2.1,s2.2.2.2.2.2.1,s2.2.2.2.2.2.2.1,s2.2.2.2.2.2.2.2.1)) (.ite (s2.2.2.2.2.2.2.2.2.2.2.2.2.1==(1:Int)) (.ite (decide (x.2.2.2.2.2.2.2.N_≥(0:Int))) (.leaf ((decide (x.2.2.2.2.2.2.2.N_≤(2147483647:Int))),s2.2.1,s2.2.2.1,s2.2.2.2.1,s2.2.2.2.2.1,s2.2.2.2.2.2.1,s2.2.2.2.2.2.2.1,s2.2.2.2.2.2.2.2.1)) (.leaf (false,s2.2.1,s2.2.2.1,s2.2.2.2.1,s2.2.2.2.2.1,s2.2.2.2.2.2.1,s2.2.2.2.2.2.2.1,s2.2.2.2.2.2.2.2.1))) (.ite (s2.2.2.2.2.2.2.2.2.2.2.2.2.1==(2:Int)) (.ite (x.2.2.2.2.2.2.2.N_==(0:Int)) (.leaf (true,s2.2.1,s2.2.2.1,s2.2.2.2.1,s2.2.2.2.2.1,s2.2.2.2.2.2.1,s2.2.2.2.2.2.2.1,s2.2.2.2.2.2.2.2.1)) (.ite (x.2.2.2.2.2.2.2.N_==(1:Int)) (.bnd (idx s2.2.1 s2.2.2.2.2.2.2.2.2.2.2.2.2.2.2) fun y8=>.leaf ((y8.Kind_==(2:Int)),s2.2.1,s2.2.2.1,s2.2.2.2.1,s2.2.2.2.2.1,s2.2.2.2.2.2.1,s2.2.2.2.2.2.2.1,s2.2.2.2.2.2.2.2.1)) (.leaf (false,s2.2.1,s2.2.2.1,s2.2.2.2.1,s2.2.2.2.2.1,s2.2.2.2.2.2.1,s2.2.2.2.2.2.2.1,s2.2.2.2.2.2.2.2.1)))) (.ite (s2.2.2.2.2.2.2.2.2.2.2.2.2.1==(3:Int)) (.ite (decide (x.2.2.2.2.2.2.2.N_≥(0:Int))) (.ite (decide (x.2.2.2.2.2.2.2.N_<(s2.2.2.2.1.length:Int))) (.bnd (idx s2.2.2.2.1 x.2.2.2.2.2.2.2.N_) fun y9=>.leaf ((y9.Type_.Kind_==s2.2.2.2.2.2.2.2.2.2.2.2.2.2.1 && (y9.Type_.Param_==s2.2.2.2.2.2.2.2.2.2.2.2.2.2.2 && true)),s2.2.1,s2.2.2.1,s2.2.2.2.1,s2.2.2.2.2.1,s2.2.2.2.2.2.1,s2.2.2.2.2.2.2.1,s2.2.2.2.2.2.2.2.1)) (.leaf (false,s2.2.1,s2.2.2.1,s2.2.2.2.1,s2.2.2.2.2.1,s2.2.2.2.2.2.1,s2.2.2.2.2.2.2.1,s2.2.2.2.2.2.2.2.1))) (.leaf (false,s2.2.1,s2.2.2.1,s2.2.2.2.1,s2.2.2.2.2.1,s2.2.2.2.2.2.1,s2.2.2.2.2.2.2.1,s2.2.2.2.2.2.2.2.1))) (.ite (s2.2.2.2.2.2.2.2.2.2.2.2.2.1==(4:Int)) (.ite (decide (x.2.2.2.2.2.2.2.N_≥(0:Int))) (.leaf ((decide (x.2.2.2.2.2.2.2.N_<(s2.2.1.length:Int))),s2.2.1,s2.2.2.1,s2.2.2.2.1,s2.2.2.2.2.1,s2.2.2.2.2.2.1,s2.2.2.2.2.2.2.1,s2.2.2.2.2.2.2.2.1)) (.leaf (false,s2.2.1,s2.2.2.1,s2.2.2.2.1,s2.2.2.2.2.1,s2.2.2.2.2.2.1,s2.2.2.2.2.2.2.1,s2.2.2.2.2.2.2.2.1))) (.leaf ((x.2.2.2.2.2.2.2.N_==(0:Int)),s2.2.1,s2.2.2.1,s2.2.2.2.1,s2.2.2.2.2.1,s2.2.2.2.2.2.1,s2.2.2.2.2.2.2.1,s2.2.2.2.2.2.2.2.1))))))) fun (v1:Int×Int×Int×Int×Int) (z1:(List Xd)×(List Xb)×(List Xe)×(List Xc)×(List Bool)×(List (List Int))×(List Int))=>.leaf (false,z1.1,z1.2.1,z1.2.2.1,z1.2.2.2.1,z1.2.2.2.2.1,z1.2.2.2.2.2.1,z1.2.2.2.2.2.2))
noncomputable def k35 (n:Nat):Con P_ Ty_:=conOf (X:=(List Xd)×(List Xb)×(List Xe)×(List Xc)×(List Bool)×(List (List Int))×(List Int)×Xc) (R:=Bool×(List Xd)×(List Xb)×(List Xe)×(List Xc)×(List Bool)×(List (List Int))×(List Int)) (pro:=[200000]) (g35_c n) 42 g35_k (by kernel_rfl) (fun x=>.two .no (.two .no (.two .no (.two .no (.two (.two .no (.two (.loop (Int×Int×Int×Int×Int) (g35_L1 n x) true ⟨[(0,.ref 200000),(3,.ref 3),(5,.ref 5),(7,.ref 7),(8,.ref 8),(30,.any),(31,.any)],[(200000,.any),(3,.any),(5,.any),(7,.any),(8,.any)]⟩) .no)) (.two (.join (Bool×(List Xd)×(List Xb)×(List Xe)×(List Xc)×(List Bool)×(List (List Int))×(List Int)×Int×Int×Int×Int×Int×Int×Int) (g35_e2 x) ⟨[(0,.ref 200000),(3,.ref 3),(5,.ref 5),(8,.ref 8),(95,.any)],[(200000,.any),(3,.any),(5,.any),(8,.any)]⟩ .no .no) .no)))))) [.pt 200000,.ag [.any,.any,.any,.any,.any,.any,.any]] [(200000,[.im 3,.im 1,.im 4,.im 2,.ow false 5,.ow true 7,.ow false 6])] [] ⟨[(4,.any)],[(200000,.any)]⟩ [200000] false (fun x=>[.pt 200000 [] 0 0,.ag [.sc (.int .i64 x.2.2.2.2.2.2.2.Op_),.sc (.int .i64 x.2.2.2.2.2.2.2.D_),.sc (.int .i64 x.2.2.2.2.2.2.2.A_),.sc (.int .i64 x.2.2.2.2.2.2.2.B_),.sc (.int .i64 x.2.2.2.2.2.2.2.C_),.sc (.int .i64 x.2.2.2.2.2.2.2.N_),.sc (.int .u32 x.2.2.2.2.2.2.2.Bits_)]]) (fun x=>[(200000,.lit 7 [[.im 3 x.1,.im 1 x.2.1,.im 4 x.2.2.1,.im 2 x.2.2.2.1,.ow false 5 x.2.2.2.2.1,.ow true 7 x.2.2.2.2.2.1,.ow false 6 x.2.2.2.2.2.2.1]])]) (fun y=>([(4,.sc (.bool y.1))],[(200000,.lit 7 [[.im 3 y.2.1,.im 1 y.2.2.1,.im 4 y.2.2.2.1,.im 2 y.2.2.2.2.1,.ow false 5 y.2.2.2.2.2.1,.ow true 7 y.2.2.2.2.2.2.1,.ow false 6 y.2.2.2.2.2.2.2]])])) (fun y=>.sc (.bool y.1)) (fun y=>[(200000,.lit 7 [[.im 3 y.2.1,.im 1 y.2.2.1,.im 4 y.2.2.2.1,.im 2 y.2.2.2.2.1,.ow false 5 y.2.2.2.2.2.1,.ow true 7 y.2.2.2.2.2.2.1,.ow false 6 y.2.2.2.2.2.2.2]])]) (g35_t n) (fun x=>by kernel_rfl) (fun x=>by kernel_rfl) (by kernel_rfl) (fun y=>by kernel_rfl) (fun h=>nomatch h)
noncomputable def g13_c (n:Nat):Cx P_ Ty_:=⟨[],[],[],[]⟩
abbrev g13_k:List (List Nat):=[[0],[2]]
noncomputable def g13_t (n:Nat) (x:Int):Pt P_ Ty_ [] Bool:=.ite (decide (x≥(3:Int))) (.leaf (decide (x≤(15:Int)))) (.leaf false)
noncomputable def k13 (n:Nat):Con P_ Ty_:=conOf (X:=Int) (R:=Bool) (pro:=[]) (g13_c n) 49 g13_k (by kernel_rfl) (fun x=>.no) [.any] [] [] ⟨[(2,.any)],[]⟩ [] true (fun x=>[.sc (.int .i64 x)]) (fun x=>[]) (fun y=>([(2,.sc (.bool y))],[])) (fun y=>.sc (.bool y)) (fun y=>[]) (g13_t n) (fun x=>by kernel_rfl) (fun x=>by kernel_rfl) (by kernel_rfl) (fun y=>by kernel_rfl) (fun _ y=>by kernel_rfl)
noncomputable def g36_c (n:Nat):Cx P_ Ty_:=⟨[k13 n],[(53,false,6)],[],[]⟩
abbrev g36_k:List (List Nat):=[[0,3],[0,3,5],[0,3,5,15],[0,3,5],[0,3,5,29],[0,3,5,29,30],[0,3,5,29,30],[0,3,42],[4],[0,3,45],[],[4],[0,3,5,29,57],[0,68],[4],[0,6],[0,6,81,82,83],[0,6,81,82,83,84],[0,6,8,81,82,83],[0,6,81,82,83],[0,6,81,82,83],[0],[],[4],[0,3,5,117],[0,120],[4],[],[4],[0,3,5,136],[4],[0,3,9],[0,3,9,139],[0,3,9,139],[0,3,9,139],[0,3,9,139],[4],[0,3,9,163],[0,3,9,163],[4],[4]]
noncomputable def g36_e1 (x:(List Xd)×(List Xb)×(List Xe)×(List Xc)×(List Bool)×(List (List Int))×(List Int)×Xc) (p:Int):EH Ty_:=([(0,.pt 200000 [] 0 0),(3,.pt 3 [] 0 0),(5,.sc (.int .i64 p))],[(200000,.lit 7 [[.im 3 x.1,.im 1 x.2.1,.im 4 x.2.2.1,.im 2 x.2.2.2.1,.ow false 5 x.2.2.2.2.1,.ow true 7 x.2.2.2.2.2.1,.ow false 6 x.2.2.2.2.2.2.1]]),(3,.lit 7 [[.sc (.int .i64 x.2.2.2.2.2.2.2.Op_),.sc (.int .i64 x.2.2.2.2.2.2.2.D_),.sc (.int .i64 x.2.2.2.2.2.2.2.A_),.sc (.int .i64 x.2.2.2.2.2.2.2.B_),.sc (.int .i64 x.2.2.2.2.2.2.2.C_),.sc (.int .i64 x.2.2.2.2.2.2.2.N_),.sc (.int .u32 x.2.2.2.2.2.2.2.Bits_)]])])
noncomputable def g36_e2 (x:(List Xd)×(List Xb)×(List Xe)×(List Xc)×(List Bool)×(List (List Int))×(List Int)×Xc) (p:Int×Bool):EH Ty_:=([(0,.pt 200000 [] 0 0),(3,.pt 3 [] 0 0),(5,.sc (.int .i64 p.1)),(29,.sc (.int .i64 x.2.2.2.2.2.2.2.Op_)),(30,.sc (.bool p.2))],[(200000,.lit 7 [[.im 3 x.1,.im 1 x.2.1,.im 4 x.2.2.1,.im 2 x.2.2.2.1,.ow false 5 x.2.2.2.2.1,.ow true 7 x.2.2.2.2.2.1,.ow false 6 x.2.2.2.2.2.2.1]]),(3,.lit 7 [[.sc (.int .i64 x.2.2.2.2.2.2.2.Op_),.sc (.int .i64 x.2.2.2.2.2.2.2.D_),.sc (.int .i64 x.2.2.2.2.2.2.2.A_),.sc (.int .i64 x.2.2.2.2.2.2.2.B_),.sc (.int .i64 x.2.2.2.2.2.2.2.C_),.sc (.int .i64 x.2.2.2.2.2.2.2.N_),.sc (.int .u32 x.2.2.2.2.2.2.2.Bits_)]])])
noncomputable def g36_e3 (x:(List Xd)×(List Xb)×(List Xe)×(List Xc)×(List Bool)×(List (List Int))×(List Int)×Xc) (p:Bool):EH Ty_:=([(0,.pt 200000 [] 0 0),(3,.pt 3 [] 0 0),(42,.sc (.bool p))],[(200000,.lit 7 [[.im 3 x.1,.im 1 x.2.1,.im 4 x.2.2.1,.im 2 x.2.2.2.1,.ow false 5 x.2.2.2.2.1,.ow true 7 x.2.2.2.2.2.1,.ow false 6 x.2.2.2.2.2.2.1]]),(3,.lit 7 [[.sc (.int .i64 x.2.2.2.2.2.2.2.Op_),.sc (.int .i64 x.2.2.2.2.2.2.2.D_),.sc (.int .i64 x.2.2.2.2.2.2.2.A_),.sc (.int .i64 x.2.2.2.2.2.2.2.B_),.sc (.int .i64 x.2.2.2.2.2.2.2.C_),.sc (.int .i64 x.2.2.2.2.2.2.2.N_),.sc (.int .u32 x.2.2.2.2.2.2.2.Bits_)]])])
noncomputable def g36_e4 (x:(List Xd)×(List Xb)×(List Xe)×(List Xc)×(List Bool)×(List (List Int))×(List Int)×Xc) (p:Bool):EH Ty_:=([(0,.pt 200000 [] 0 0),(68,.sc (.bool p))],[(200000,.lit 7 [[.im 3 x.1,.im 1 x.2.1,.im 4 x.2.2.1,.im 2 x.2.2.2.1,.ow false 5 x.2.2.2.2.1,.ow true 7 x.2.2.2.2.2.1,.ow false 6 x.2.2.2.2.2.2.1]])])
noncomputable def g36_e5 (x:(List Xd)×(List Xb)×(List Xe)×(List Xc)×(List Bool)×(List (List Int))×(List Int)×Xc) (p:Bool×Int):EH Ty_:=([(0,.pt 200000 [] 0 0),(3,.pt 3 [] 0 0),(9,.pt 9 [] 0 0),(139,.sc (.bool p.1))],[(200000,.lit 7 [[.im 3 x.1,.im 1 x.2.1,.im 4 x.2.2.1,.im 2 x.2.2.2.1,.ow false 5 x.2.2.2.2.1,.ow true 7 x.2.2.2.2.2.1,.ow false 6 x.2.2.2.2.2.2.1]]),(3,.lit 7 [[.sc (.int .i64 x.2.2.2.2.2.2.2.Op_),.sc (.int .i64 x.2.2.2.2.2.2.2.D_),.sc (.int .i64 x.2.2.2.2.2.2.2.A_),.sc (.int .i64 x.2.2.2.2.2.2.2.B_),.sc (.int .i64 x.2.2.2.2.2.2.2.C_),.sc (.int .i64 x.2.2.2.2.2.2.2.N_),.sc (.int .u32 x.2.2.2.2.2.2.2.Bits_)]]),(9,.lit 2 [[.sc (.int .i64 (3:Int)),.sc (.int .i64 p.2)]])])
noncomputable def g36_e6 (x:(List Xd)×(List Xb)×(List Xe)×(List Xc)×(List Bool)×(List (List Int))×(List Int)×Xc) (p:Bool×Int):EH Ty_:=([(0,.pt 200000 [] 0 0),(3,.pt 3 [] 0 0),(9,.pt 9 [] 0 0),(163,.sc (.bool p.1))],[(200000,.lit 7 [[.im 3 x.1,.im 1 x.2.1,.im 4 x.2.2.1,.im 2 x.2.2.2.1,.ow false 5 x.2.2.2.2.1,.ow true 7 x.2.2.2.2.2.1,.ow false 6 x.2.2.2.2.2.2.1]]),(3,.lit 7 [[.sc (.int .i64 x.2.2.2.2.2.2.2.Op_),.sc (.int .i64 x.2.2.2.2.2.2.2.D_),.sc (.int .i64 x.2.2.2.2.2.2.2.A_),.sc (.int .i64 x.2.2.2.2.2.2.2.B_),.sc (.int .i64 x.2.2.2.2.2.2.2.C_),.sc (.int .i64 x.2.2.2.2.2.2.2.N_),.sc (.int .u32 x.2.2.2.2.2.2.2.Bits_)]]),(9,.lit 2 [[.sc (.int .i64 (3:Int)),.sc (.int .i64 p.2)]])])
noncomputable def g36_t1 (n:Nat) (x:(List Xd)×(List Xb)×(List Xe)×(List Xc)×(List Bool)×(List (List Int))×(List Int)×Xc) (v1:Int) (q1:Int×(List Bool)):Pt P_ Ty_ [200000] (Bo (Int×(List Bool)) (Int×(List Bool)) Empty):=.ite (decide (q1.1<v1)) (.bnd (x.2.2.2.2.2.1[(W_ ((x.2.2.2.2.2.1.length:Int) - (1:Int))).toNat]?) fun y4=>.need (0≤q1.1∧q1.1<(y4.length:Int)) (.bnd (x.2.2.2.2.2.1[(W_ ((x.2.2.2.2.2.1.length:Int) - (1:Int))).toNat]?) fun y5=>.bnd (y5[q1.1.toNat]?) fun y6=>.need (0≤y6∧y6<(q1.2.length:Int)) (.bnd (q1.2[y6.toNat]?) fun y7=>.leaf (.go ((W_ (q1.1+(1:Int))),(q1.2.set y6.toNat false)))))) (.leaf (.out (q1.1,q1.2)))
noncomputable def g36_L1 (n:Nat) (x:(List Xd)×(List Xb)×(List Xe)×(List Xc)×(List Bool)×(List (List Int))×(List Int)×Xc) (v1:Int):LCon P_ Ty_ [200000]:=lcon (X:=Int×(List Bool)) (Y:=Int×(List Bool)) (Z:=Empty) (g36_c n) (subC [1,1,1,0,1,0,1,1,1,0,1,1,0,1,0,0] (fnC P_ 43 g36_k)) (fun q1=>.no) 1 false ⟨[(0,.ref 200000),(6,.any),(81,.ref 200000),(82,.any),(83,.any)],[(200000,.any)]⟩ ⟨[(0,.ref 200000),(6,.any),(81,.ref 200000),(82,.any),(83,.any),(84,.any)],[(200000,.any)]⟩ ⟨[],[]⟩ (fun q1=>([(0,.pt 200000 [] 0 0),(6,.sc (.int .i64 (W_ ((x.2.2.2.2.2.1.length:Int) - (1:Int))))),(81,.sw 200000 [(0,5),((W_ ((x.2.2.2.2.2.1.length:Int) - (1:Int))).toNat,0)]),(82,.sc (.int .i64 v1)),(83,.sc (.int .i64 q1.1))],[(200000,.lit 7 [[.im 3 x.1,.im 1 x.2.1,.im 4 x.2.2.1,.im 2 x.2.2.2.1,.ow false 5 q1.2,.ow true 7 x.2.2.2.2.2.1,.ow false 6 x.2.2.2.2.2.2.1]])])) (fun p=>([(0,.pt 200000 [] 0 0),(6,.sc (.int .i64 (W_ ((x.2.2.2.2.2.1.length:Int) - (1:Int))))),(81,.sw 200000 [(0,5),((W_ ((x.2.2.2.2.2.1.length:Int) - (1:Int))).toNat,0)]),(82,.sc (.int .i64 v1)),(83,.sc (.int .i64 p.1)),(84,.sc (.bool false))],[(200000,.lit 7 [[.im 3 x.1,.im 1 x.2.1,.im 4 x.2.2.1,.im 2 x.2.2.2.1,.ow false 5 p.2,.ow true 7 x.2.2.2.2.2.1,.ow false 6 x.2.2.2.2.2.2.1]])])) (fun p=>nomatch p) n (g36_t1 n x v1) (fun _ z=>nomatch z) (fun q1=>by kernel_rfl)
noncomputable def g36_t (n:Nat) (x:(List Xd)×(List Xb)×(List Xe)×(List Xc)×(List Bool)×(List (List Int))×(List Int)×Xc):Pt P_ Ty_ [200000] (Bool×(List Xd)×(List Xb)×(List Xe)×(List Xc)×(List Bool)×(List (List Int))×(List Int)):=.join (S:=Int) (g36_e1 x) (.ite (decide ((x.2.2.2.2.2.2.1.length:Int) > (0:Int))) (.need (0≤(W_ ((x.2.2.2.2.2.2.1.length:Int) - (1:Int)))∧(W_ ((x.2.2.2.2.2.2.1.length:Int) - (1:Int)))<(x.2.2.2.2.2.2.1.length:Int)) (.bnd (x.2.2.2.2.2.2.1[(W_ ((x.2.2.2.2.2.2.1.length:Int) - (1:Int))).toNat]?) fun y1=>.leaf (.inl y1))) (.leaf (.inl (-1:Int)))) fun s1=>.join (S:=Int×Bool) (g36_e2 x) (.ite (x.2.2.2.2.2.2.2.Op_==(34:Int)) (.leaf (.inl (s1,true))) (.leaf (.inl (s1,(x.2.2.2.2.2.2.2.Op_==(36:Int)))))) fun s2=>.ite s2.2 (.join (S:=Bool) (g36_e3 x) (.ite (decide (s2.1≥(0:Int))) (.leaf (.inl true)) (.leaf (.inl ((x.2.2.2.2.2.2.1.length:Int)==(64:Int))))) fun s3=>.ite s3 (.leaf (false,x.1,x.2.1,x.2.2.1,x.2.2.2.1,x.2.2.2.2.1,x.2.2.2.2.2.1,x.2.2.2.2.2.2.1)) (.ite (x.2.2.2.2.2.2.2.Op_==(36:Int)) (.need ((x.2.2.2.2.2.2.1.length+([x.2.2.2.2.2.2.2.N_]:List Int).length) * 8≤140737488355328) (.leaf (true,x.1,x.2.1,x.2.2.1,x.2.2.2.1,x.2.2.2.2.1,x.2.2.2.2.2.1,(x.2.2.2.2.2.2.1++([x.2.2.2.2.2.2.2.N_]:List Int))))) (.leaf (true,x.1,x.2.1,x.2.2.1,x.2.2.2.1,x.2.2.2.2.1,x.2.2.2.2.2.1,x.2.2.2.2.2.2.1)))) (.ite (x.2.2.2.2.2.2.2.Op_==(35:Int)) (.join (S:=Bool) (g36_e4 x) (.ite ((x.2.2.2.2.2.2.1.length:Int)==(0:Int)) (.leaf (.inl true)) (.leaf (.inl (decide (s2.1≥(0:Int)))))) fun s4=>.ite s4 (.leaf (false,x.1,x.2.1,x.2.2.1,x.2.2.2.1,x.2.2.2.2.1,x.2.2.2.2.2.1,x.2.2.2.2.2.2.1)) (.need (0≤(W_ ((x.2.2.2.2.2.1.length:Int) - (1:Int)))∧(W_ ((x.2.2.2.2.2.1.length:Int) - (1:Int)))<(x.2.2.2.2.2.1.length:Int)) (.bnd (x.2.2.2.2.2.1[(W_ ((x.2.2.2.2.2.1.length:Int) - (1:Int))).toNat]?) fun y2=>.bnd (x.2.2.2.2.2.1[(W_ ((x.2.2.2.2.2.1.length:Int) - (1:Int))).toNat]?) fun y3=>.loop (V:=Int) (g36_L1 n x) (y3.length:Int) ((0:Int),x.2.2.2.2.1) fun (v1:Int) (y8:Int×(List Bool))=>.need (0≤(W_ ((x.2.2.2.2.2.1.length:Int) - (1:Int)))∧(W_ ((x.2.2.2.2.2.1.length:Int) - (1:Int)))≤(x.2.2.2.2.2.1.length:Int)) (.need ((W_ ((x.2.2.2.2.2.1.length:Int) - (1:Int))).toNat≤x.2.2.2.2.2.1.length) (.need (0≤(W_ ((x.2.2.2.2.2.2.1.length:Int) - (1:Int)))∧(W_ ((x.2.2.2.2.2.2.1.length:Int) - (1:Int)))≤(x.2.2.2.2.2.2.1.length:Int)) (.need ((W_ ((x.2.2.2.2.2.2.1.length:Int) - (1:Int))).toNat≤x.2.2.2.2.2.2.1.length) (.leaf (true,x.1,x.2.1,x.2.2.1,x.2.2.2.1,y8.2,(x.2.2.2.2.2.1.take ((W_ ((x.2.2.2.2.2.1.length:Int) - (1:Int))).toNat)),(x.2.2.2.2.2.2.1.take ((W_ ((x.2.2.2.2.2.2.1.length:Int) - (1:Int))).toNat)))))))))) (.ite (x.2.2.2.2.2.2.2.Op_==(37:Int)) (.ite (decide (s2.1<(0:Int))) (.leaf (false,x.1,x.2.1,x.2.2.1,x.2.2.2.1,x.2.2.2.2.1,x.2.2.2.2.2.1,x.2.2.2.2.2.2.1)) (.need (0≤(W_ ((x.2.2.2.2.2.2.1.length:Int) - (1:Int)))∧(W_ ((x.2.2.2.2.2.2.1.length:Int) - (1:Int)))≤(x.2.2.2.2.2.2.1.length:Int)) (.need ((W_ ((x.2.2.2.2.2.2.1.length:Int) - (1:Int))).toNat≤x.2.2.2.2.2.2.1.length) (.leaf (true,x.1,x.2.1,x.2.2.1,x.2.2.2.1,x.2.2.2.2.1,x.2.2.2.2.2.1,(x.2.2.2.2.2.2.1.take ((W_ ((x.2.2.2.2.2.2.1.length:Int) - (1:Int))).toNat))))))) (.ite (decide (s2.1<(0:Int))) (.leaf (true,x.1,x.2.1,x.2.2.1,x.2.2.2.1,x.2.2.2.2.1,x.2.2.2.2.2.1,x.2.2.2.2.2.2.1)) (.join (S:=Bool×Int) (g36_e5 x) (.call (k13 n) x.2.2.2.2.2.2.2.Op_ fun (y9:Bool)=>.ite y9 (.leaf (.inl (true,s2.1))) (.ite (x.2.2.2.2.2.2.2.Op_==(29:Int)) (.leaf (.inl (true,s2.1))) (.ite (x.2.2.2.2.2.2.2.Op_==(30:Int)) (.leaf (.inl (true,s2.1))) (.leaf (.inl ((x.2.2.2.2.2.2.2.Op_==(32:Int)),s2.1)))))) fun s5=>.ite s5.1 (.bnd (idx x.2.1 x.2.2.2.2.2.2.2.D_) fun y10=>.leaf ((y10.Kind_==(3:Int) && (y10.Param_==s5.2 && true)),x.1,x.2.1,x.2.2.1,x.2.2.2.1,x.2.2.2.2.1,x.2.2.2.2.2.1,x.2.2.2.2.2.2.1)) (.join (S:=Bool×Int) (g36_e6 x) (.ite (x.2.2.2.2.2.2.2.Op_==(31:Int)) (.leaf (.inl (true,s5.2))) (.leaf (.inl ((x.2.2.2.2.2.2.2.Op_==(33:Int)),s5.2)))) fun s6=>.ite s6.1 (.bnd (idx x.2.1 x.2.2.2.2.2.2.2.A_) fun y11=>.leaf ((y11.Kind_==(3:Int) && (y11.Param_==s6.2 && true)),x.1,x.2.1,x.2.2.1,x.2.2.2.1,x.2.2.2.2.1,x.2.2.2.2.2.1,x.2.2.2.2.2.2.1)) (.leaf (false,x.1,x.2.1,x.2.2.1,x.2.2.2.1,x.2.2.2.2.1,x.2.2.2.2.2.1,x.2.2.2.2.2.2.1)))))))
noncomputable def k36 (n:Nat):Con P_ Ty_:=conOf (X:=(List Xd)×(List Xb)×(List Xe)×(List Xc)×(List Bool)×(List (List Int))×(List Int)×Xc) (R:=Bool×(List Xd)×(List Xb)×(List Xe)×(List Xc)×(List Bool)×(List (List Int))×(List Int)) (pro:=[200000]) (g36_c n) 43 g36_k (by kernel_rfl) (fun x=>.two .no (.two .no (.join Int (g36_e1 x) ⟨[(0,.ref 200000),(3,.ref 3),(5,.any)],[(200000,.any),(3,.any)]⟩ .no (.two (.two .no (.two (.join (Int×Bool) (g36_e2 x) ⟨[(0,.ref 200000),(3,.ref 3),(5,.any),(29,.any),(30,.any)],[(200000,.any),(3,.any)]⟩ .no (.two (.two (.join Bool (g36_e3 x) ⟨[(0,.ref 200000),(3,.ref 3),(42,.any)],[(200000,.any),(3,.any)]⟩ .no .no) .no) (.two .no (.two (.two (.join Bool (g36_e4 x) ⟨[(0,.ref 200000),(68,.any)],[(200000,.any)]⟩ .no .no) (.two .no (.two (.two .no (.two (.loop Int (g36_L1 n x) false ⟨[(0,.ref 200000),(6,.any),(81,.ref 200000),(82,.any),(83,.any)],[(200000,.any)]⟩) .no)) .no))) .no)))) .no)) (.two .no (.two .no (.two (.two (.join (Bool×Int) (g36_e5 x) ⟨[(0,.ref 200000),(3,.ref 3),(9,.ref 9),(139,.any)],[(200000,.any),(3,.any),(9,.any)]⟩ .no (.two .no (.join (Bool×Int) (g36_e6 x) ⟨[(0,.ref 200000),(3,.ref 3),(9,.ref 9),(163,.any)],[(200000,.any),(3,.any),(9,.any)]⟩ .no .no))) .no) .no))))))) [.pt 200000,.ag [.any,.any,.any,.any,.any,.any,.any]] [(200000,[.im 3,.im 1,.im 4,.im 2,.ow false 5,.ow true 7,.ow false 6])] [] ⟨[(4,.any)],[(200000,.any)]⟩ [200000] false (fun x=>[.pt 200000 [] 0 0,.ag [.sc (.int .i64 x.2.2.2.2.2.2.2.Op_),.sc (.int .i64 x.2.2.2.2.2.2.2.D_),.sc (.int .i64 x.2.2.2.2.2.2.2.A_),.sc (.int .i64 x.2.2.2.2.2.2.2.B_),.sc (.int .i64 x.2.2.2.2.2.2.2.C_),.sc (.int .i64 x.2.2.2.2.2.2.2.N_),.sc (.int .u32 x.2.2.2.2.2.2.2.Bits_)]]) (fun x=>[(200000,.lit 7 [[.im 3 x.1,.im 1 x.2.1,.im 4 x.2.2.1,.im 2 x.2.2.2.1,.ow false 5 x.2.2.2.2.1,.ow true 7 x.2.2.2.2.2.1,.ow false 6 x.2.2.2.2.2.2.1]])]) (fun y=>([(4,.sc (.bool y.1))],[(200000,.lit 7 [[.im 3 y.2.1,.im 1 y.2.2.1,.im 4 y.2.2.2.1,.im 2 y.2.2.2.2.1,.ow false 5 y.2.2.2.2.2.1,.ow true 7 y.2.2.2.2.2.2.1,.ow false 6 y.2.2.2.2.2.2.2]])])) (fun y=>.sc (.bool y.1)) (fun y=>[(200000,.lit 7 [[.im 3 y.2.1,.im 1 y.2.2.1,.im 4 y.2.2.2.1,.im 2 y.2.2.2.2.1,.ow false 5 y.2.2.2.2.2.1,.ow true 7 y.2.2.2.2.2.2.1,.ow false 6 y.2.2.2.2.2.2.2]])]) (g36_t n) (fun x=>by kernel_rfl) (fun x=>by kernel_rfl) (by kernel_rfl) (fun y=>by kernel_rfl) (fun h=>nomatch h)
noncomputable def g9_c (n:Nat):Cx P_ Ty_:=⟨[k26 n],[(37,false,6),(38,false,6)],[],[]⟩
abbrev g9_k:List (List Nat):=[[1],[1,3],[1,3,5],[1,5,20,21],[1,5,20,21,22],[1,5,6,7,20,21],[1,5,6,20,21,26],[1,5,20,21],[1,5,20,21],[2]]
noncomputable def g9_t1 (n:Nat) (x:Xc) (v1:Int×Int×Int) (q1:Int×(List Int)):Pt P_ Ty_ [] (Bo (Int×(List Int)) (Int×(List Int)) Empty):=.ite (decide (q1.1<(3:Int))) (.bnd (idx [v1.1,v1.2.1,v1.2.2] q1.1) fun y2=>.ite (y2 != (0:Int)) (.bnd (idx [x.A_,x.B_,x.C_] q1.1) fun y3=>.need ((q1.2.length+([y3]:List Int).length) * 8≤140737488355328) (.leaf (.go ((W_ (q1.1+(1:Int))),(q1.2++([y3]:List Int)))))) (.leaf (.go ((W_ (q1.1+(1:Int))),q1.2)))) (.leaf (.out (q1.1,q1.2)))
noncomputable def g9_L1 (n:Nat) (x:Xc) (v1:Int×Int×Int):LCon P_ Ty_ []:=lcon (X:=Int×(List Int)) (Y:=Int×(List Int)) (Z:=Empty) (g9_c n) (subC [1,1,1,0,1,0,0] (fnC P_ 68 g9_k)) (fun q1=>.no) 0 false ⟨[(1,.ref 1),(5,.own 600001 false 6),(20,.any),(21,.any)],[(1,.any),(600001,.any)]⟩ ⟨[(1,.ref 1),(5,.ref 600001),(20,.any),(21,.any),(22,.any)],[(1,.any),(600001,.any)]⟩ ⟨[],[]⟩ (fun q1=>([(1,.pt 1 [] 0 0),(5,.sw 600001 []),(20,.ag [.sc (.int .i64 v1.1),.sc (.int .i64 v1.2.1),.sc (.int .i64 v1.2.2)]),(21,.sc (.int .i64 q1.1))],[(1,.lit 7 [[.sc (.int .i64 x.Op_),.sc (.int .i64 x.D_),.sc (.int .i64 x.A_),.sc (.int .i64 x.B_),.sc (.int .i64 x.C_),.sc (.int .i64 x.N_),.sc (.int .u32 x.Bits_)]]),(600001,.typ false 6 q1.2)])) (fun p=>([(1,.pt 1 [] 0 0),(5,.sw 600001 []),(20,.ag [.sc (.int .i64 v1.1),.sc (.int .i64 v1.2.1),.sc (.int .i64 v1.2.2)]),(21,.sc (.int .i64 p.1)),(22,.sc (.bool false))],[(1,.lit 7 [[.sc (.int .i64 x.Op_),.sc (.int .i64 x.D_),.sc (.int .i64 x.A_),.sc (.int .i64 x.B_),.sc (.int .i64 x.C_),.sc (.int .i64 x.N_),.sc (.int .u32 x.Bits_)]]),(600001,.typ false 6 p.2)])) (fun p=>nomatch p) n (g9_t1 n x v1) (fun _ z=>nomatch z) (fun q1=>by kernel_rfl)
noncomputable def g9_t (n:Nat) (x:Xc):Pt P_ Ty_ [] (List Int):=.call (k26 n) x.Op_ fun (y1:Bool×Int×Int×Int×Int×Int)=>.loop (V:=Int×Int×Int) (g9_L1 n x) (y1.2.2.1,y1.2.2.2.1,y1.2.2.2.2.1) ((0:Int),([]:List Int)) fun (v1:Int×Int×Int) (y4:Int×(List Int))=>.leaf y4.2
noncomputable def k9 (n:Nat):Con P_ Ty_:=conOf (X:=Xc) (R:=(List Int)) (pro:=[]) (g9_c n) 68 g9_k (by kernel_rfl) (fun x=>.two .no (.two .no (.two .no (.two (.two .no (.two (.loop (Int×Int×Int) (g9_L1 n x) false ⟨[(1,.ref 1),(5,.own 600001 false 6),(20,.any),(21,.any)],[(1,.any),(600001,.any)]⟩) .no)) .no)))) [.ag [.any,.any,.any,.any,.any,.any,.any]] [] [100000] ⟨[(2,.ref 100000)],[(100000,.any)]⟩ [100000] true (fun x=>[.ag [.sc (.int .i64 x.Op_),.sc (.int .i64 x.D_),.sc (.int .i64 x.A_),.sc (.int .i64 x.B_),.sc (.int .i64 x.C_),.sc (.int .i64 x.N_),.sc (.int .u32 x.Bits_)]]) (fun x=>[]) (fun y=>([(2,.sw 100000 [])],[(100000,.typ false 6 y)])) (fun y=>.sw 100000 []) (fun y=>[(100000,.typ false 6 y)]) (g9_t n) (fun x=>by kernel_rfl) (fun x=>by kernel_rfl) (by kernel_rfl) (fun y=>by kernel_rfl) (fun _ y=>by kernel_rfl)
noncomputable def g11_c (n:Nat):Cx P_ Ty_:=⟨[k26 n],[],[],[]⟩
abbrev g11_k:List (List Nat):=[[1],[3],[2]]
noncomputable def g11_t (n:Nat) (x:Xc):Pt P_ Ty_ [] Bool:=.call (k26 n) x.Op_ fun (y1:Bool×Int×Int×Int×Int×Int)=>.leaf (y1.2.1 != (0:Int))
noncomputable def k11 (n:Nat):Con P_ Ty_:=conOf (X:=Xc) (R:=Bool) (pro:=[]) (g11_c n) 69 g11_k (by kernel_rfl) (fun x=>.no) [.ag [.any,.any,.any,.any,.any,.any,.any]] [] [] ⟨[(2,.any)],[]⟩ [] true (fun x=>[.ag [.sc (.int .i64 x.Op_),.sc (.int .i64 x.D_),.sc (.int .i64 x.A_),.sc (.int .i64 x.B_),.sc (.int .i64 x.C_),.sc (.int .i64 x.N_),.sc (.int .u32 x.Bits_)]]) (fun x=>[]) (fun y=>([(2,.sc (.bool y))],[])) (fun y=>.sc (.bool y)) (fun y=>[]) (g11_t n) (fun x=>by kernel_rfl) (fun x=>by kernel_rfl) (by kernel_rfl) (fun y=>by kernel_rfl) (fun _ y=>by kernel_rfl)
noncomputable def g37_c (n:Nat):Cx P_ Ty_:=⟨[k9 n,k11 n],[(32,false,6),(41,true,7),(87,false,6)],[],[]⟩
abbrev g37_k:List (List Nat):=[[0,3],[0,3,9,10,11],[0,3,9,10,11,12],[0,3,6,9,10,11],[0,3,9,10,11,22],[4],[0,3,9,10,11],[0,3,26],[0,3],[0,3],[0,3,57],[0,3],[0,3,7],[0,3,7,72],[],[4]]
noncomputable def g37_e1 (x:(List Xd)×(List Xb)×(List Xe)×(List Xc)×(List Bool)×(List (List Int))×(List Int)×Xc) (p:(List (List Int))×(List Int)):EH Ty_:=([(0,.pt 200000 [] 0 0),(3,.pt 3 [] 0 0)],[(200000,.lit 7 [[.im 3 x.1,.im 1 x.2.1,.im 4 x.2.2.1,.im 2 x.2.2.2.1,.ow false 5 x.2.2.2.2.1,.ow true 7 p.1,.ow false 6 p.2]]),(3,.lit 7 [[.sc (.int .i64 x.2.2.2.2.2.2.2.Op_),.sc (.int .i64 x.2.2.2.2.2.2.2.D_),.sc (.int .i64 x.2.2.2.2.2.2.2.A_),.sc (.int .i64 x.2.2.2.2.2.2.2.B_),.sc (.int .i64 x.2.2.2.2.2.2.2.C_),.sc (.int .i64 x.2.2.2.2.2.2.2.N_),.sc (.int .u32 x.2.2.2.2.2.2.2.Bits_)]])])
noncomputable def g37_e2 (x:(List Xd)×(List Xb)×(List Xe)×(List Xc)×(List Bool)×(List (List Int))×(List Int)×Xc) (p:Bool×(List (List Int))×(List Int)):EH Ty_:=([(0,.pt 200000 [] 0 0),(3,.pt 3 [] 0 0),(57,.sc (.bool p.1))],[(200000,.lit 7 [[.im 3 x.1,.im 1 x.2.1,.im 4 x.2.2.1,.im 2 x.2.2.2.1,.ow false 5 x.2.2.2.2.1,.ow true 7 p.2.1,.ow false 6 p.2.2]]),(3,.lit 7 [[.sc (.int .i64 x.2.2.2.2.2.2.2.Op_),.sc (.int .i64 x.2.2.2.2.2.2.2.D_),.sc (.int .i64 x.2.2.2.2.2.2.2.A_),.sc (.int .i64 x.2.2.2.2.2.2.2.B_),.sc (.int .i64 x.2.2.2.2.2.2.2.C_),.sc (.int .i64 x.2.2.2.2.2.2.2.N_),.sc (.int .u32 x.2.2.2.2.2.2.2.Bits_)]])])
noncomputable def g37_t1 (n:Nat) (x:(List Xd)×(List Xb)×(List Xe)×(List Xc)×(List Bool)×(List (List Int))×(List Int)×Xc) (v1:Int×(List Int)) (q1:Int):Pt P_ Ty_ [200000] (Bo Int Int Unit):=.ite (decide (q1<v1.1)) (.need (0≤q1∧q1<(v1.2.length:Int)) (.bnd (v1.2[q1.toNat]?) fun y2=>.need (0≤y2∧y2<(x.2.2.2.2.1.length:Int)) (.bnd (x.2.2.2.2.1[y2.toNat]?) fun y3=>.ite (!y3) (.leaf (.ret ())) (.leaf (.go (W_ (q1+(1:Int)))))))) (.leaf (.out q1))
noncomputable def g37_L1 (n:Nat) (x:(List Xd)×(List Xb)×(List Xe)×(List Xc)×(List Bool)×(List (List Int))×(List Int)×Xc) (v1:Int×(List Int)):LCon P_ Ty_ [200000]:=lcon (X:=Int) (Y:=Int) (Z:=Unit) (g37_c n) (subC [1,0,1,0,0] (fnC P_ 44 g37_k)) (fun q1=>.no) 0 true ⟨[(0,.ref 200000),(3,.ref 3),(9,.ref 9),(10,.any),(11,.any)],[(200000,.any),(3,.any),(9,.any)]⟩ ⟨[(0,.ref 200000),(3,.ref 3),(9,.ref 9),(10,.any),(11,.any),(12,.any)],[(200000,.any),(3,.any),(9,.any)]⟩ ⟨[(4,.any)],[(200000,.any)]⟩ (fun q1=>([(0,.pt 200000 [] 0 0),(3,.pt 3 [] 0 0),(9,.sw 9 []),(10,.sc (.int .i64 v1.1)),(11,.sc (.int .i64 q1))],[(200000,.lit 7 [[.im 3 x.1,.im 1 x.2.1,.im 4 x.2.2.1,.im 2 x.2.2.2.1,.ow false 5 x.2.2.2.2.1,.ow true 7 x.2.2.2.2.2.1,.ow false 6 x.2.2.2.2.2.2.1]]),(3,.lit 7 [[.sc (.int .i64 x.2.2.2.2.2.2.2.Op_),.sc (.int .i64 x.2.2.2.2.2.2.2.D_),.sc (.int .i64 x.2.2.2.2.2.2.2.A_),.sc (.int .i64 x.2.2.2.2.2.2.2.B_),.sc (.int .i64 x.2.2.2.2.2.2.2.C_),.sc (.int .i64 x.2.2.2.2.2.2.2.N_),.sc (.int .u32 x.2.2.2.2.2.2.2.Bits_)]]),(9,.typ false 6 v1.2)])) (fun p=>([(0,.pt 200000 [] 0 0),(3,.pt 3 [] 0 0),(9,.sw 9 []),(10,.sc (.int .i64 v1.1)),(11,.sc (.int .i64 p)),(12,.sc (.bool false))],[(200000,.lit 7 [[.im 3 x.1,.im 1 x.2.1,.im 4 x.2.2.1,.im 2 x.2.2.2.1,.ow false 5 x.2.2.2.2.1,.ow true 7 x.2.2.2.2.2.1,.ow false 6 x.2.2.2.2.2.2.1]]),(3,.lit 7 [[.sc (.int .i64 x.2.2.2.2.2.2.2.Op_),.sc (.int .i64 x.2.2.2.2.2.2.2.D_),.sc (.int .i64 x.2.2.2.2.2.2.2.A_),.sc (.int .i64 x.2.2.2.2.2.2.2.B_),.sc (.int .i64 x.2.2.2.2.2.2.2.C_),.sc (.int .i64 x.2.2.2.2.2.2.2.N_),.sc (.int .u32 x.2.2.2.2.2.2.2.Bits_)]]),(9,.typ false 6 v1.2)])) (fun p=>([(4,.sc (.bool false))],[(200000,.lit 7 [[.im 3 x.1,.im 1 x.2.1,.im 4 x.2.2.1,.im 2 x.2.2.2.1,.ow false 5 x.2.2.2.2.1,.ow true 7 x.2.2.2.2.2.1,.ow false 6 x.2.2.2.2.2.2.1]])])) n (g37_t1 n x v1) (fun h=>nomatch h) (fun q1=>by kernel_rfl)
noncomputable def g37_t (n:Nat) (x:(List Xd)×(List Xb)×(List Xe)×(List Xc)×(List Bool)×(List (List Int))×(List Int)×Xc):Pt P_ Ty_ [200000] (Bool×(List Xd)×(List Xb)×(List Xe)×(List Xc)×(List Bool)×(List (List Int))×(List Int)):=.call (k9 n) x.2.2.2.2.2.2.2 fun (y1:(List Int))=>.loopR (V:=Int×(List Int)) (g37_L1 n x) ((y1.length:Int),y1) (0:Int) (fun (v1:Int×(List Int)) (y4:Int)=>.join (S:=(List (List Int))×(List Int)) (g37_e1 x) (.ite (x.2.2.2.2.2.2.2.Op_==(34:Int)) (.need ((x.2.2.2.2.2.2.1.length+([(-1:Int)]:List Int).length) * 8≤140737488355328) (.need ((x.2.2.2.2.2.1.length+([[]]:List (List Int)).length) * 24≤140737488355328) (.leaf (.inl ((x.2.2.2.2.2.1++([[]]:List (List Int))),(x.2.2.2.2.2.2.1++([(-1:Int)]:List Int))))))) (.leaf (.inl (x.2.2.2.2.2.1,x.2.2.2.2.2.2.1)))) fun s1=>.join (S:=Bool×(List (List Int))×(List Int)) (g37_e2 x) (.call (k11 n) x.2.2.2.2.2.2.2 fun (y5:Bool)=>.ite y5 (.need (0≤x.2.2.2.2.2.2.2.D_∧x.2.2.2.2.2.2.2.D_<(x.2.2.2.2.1.length:Int)) (.bnd (x.2.2.2.2.1[x.2.2.2.2.2.2.2.D_.toNat]?) fun y6=>.leaf (.inl ((!y6),s1.1,s1.2)))) (.leaf (.inl (false,s1.1,s1.2)))) fun s2=>.ite s2.1 (.need (0≤x.2.2.2.2.2.2.2.D_∧x.2.2.2.2.2.2.2.D_<(x.2.2.2.2.1.length:Int)) (.bnd (x.2.2.2.2.1[x.2.2.2.2.2.2.2.D_.toNat]?) fun y7=>.ite (decide ((W_ ((s2.2.1.length:Int) - (1:Int)))≥(0:Int))) (.need (0≤(W_ ((s2.2.1.length:Int) - (1:Int)))∧(W_ ((s2.2.1.length:Int) - (1:Int)))<(s2.2.1.length:Int)) (.bnd (s2.2.1[(W_ ((s2.2.1.length:Int) - (1:Int))).toNat]?) fun y8=>.bnd (s2.2.1[(W_ ((s2.2.1.length:Int) - (1:Int))).toNat]?) fun y9=>.bnd (s2.2.1[(W_ ((s2.2.1.length:Int) - (1:Int))).toNat]?) fun y10=>.need ((y9.length+([x.2.2.2.2.2.2.2.D_]:List Int).length) * 8≤140737488355328) (.need (0≤(W_ ((s2.2.1.length:Int) - (1:Int)))∧(W_ ((s2.2.1.length:Int) - (1:Int)))<(s2.2.1.length:Int)) (.need ((W_ ((s2.2.1.length:Int) - (1:Int))).toNat=(W_ ((s2.2.1.length:Int) - (1:Int))).toNat∧(W_ ((s2.2.1.length:Int) - (1:Int))).toNat<s2.2.1.length) (.leaf (true,x.1,x.2.1,x.2.2.1,x.2.2.2.1,(x.2.2.2.2.1.set x.2.2.2.2.2.2.2.D_.toNat true),(s2.2.1.set ((W_ ((s2.2.1.length:Int) - (1:Int))).toNat) (y9++([x.2.2.2.2.2.2.2.D_]:List Int))),s2.2.2)))))) (.leaf (true,x.1,x.2.1,x.2.2.1,x.2.2.2.1,(x.2.2.2.2.1.set x.2.2.2.2.2.2.2.D_.toNat true),s2.2.1,s2.2.2)))) (.leaf (true,x.1,x.2.1,x.2.2.1,x.2.2.2.1,x.2.2.2.2.1,s2.2.1,s2.2.2))) fun (v1:Int×(List Int)) (z1:Unit)=>.leaf (false,x.1,x.2.1,x.2.2.1,x.2.2.2.1,x.2.2.2.2.1,x.2.2.2.2.2.1,x.2.2.2.2.2.2.1)
noncomputable def k37 (n:Nat):Con P_ Ty_:=conOf (X:=(List Xd)×(List Xb)×(List Xe)×(List Xc)×(List Bool)×(List (List Int))×(List Int)×Xc) (R:=Bool×(List Xd)×(List Xb)×(List Xe)×(List Xc)×(List Bool)×(List (List Int))×(List Int)) (pro:=[200000]) (g37_c n) 44 g37_k (by kernel_rfl) (fun x=>.two .no (.two (.two .no (.two (.loop (Int×(List Int)) (g37_L1 n x) true ⟨[(0,.ref 200000),(3,.ref 3),(9,.ref 9),(10,.any),(11,.any)],[(200000,.any),(3,.any),(9,.any)]⟩) .no)) (.join ((List (List Int))×(List Int)) (g37_e1 x) ⟨[(0,.ref 200000),(3,.ref 3)],[(200000,.any),(3,.any)]⟩ .no (.two (.join (Bool×(List (List Int))×(List Int)) (g37_e2 x) ⟨[(0,.ref 200000),(3,.ref 3),(57,.any)],[(200000,.any),(3,.any)]⟩ .no .no) .no)))) [.pt 200000,.ag [.any,.any,.any,.any,.any,.any,.any]] [(200000,[.im 3,.im 1,.im 4,.im 2,.ow false 5,.ow true 7,.ow false 6])] [] ⟨[(4,.any)],[(200000,.any)]⟩ [200000] false (fun x=>[.pt 200000 [] 0 0,.ag [.sc (.int .i64 x.2.2.2.2.2.2.2.Op_),.sc (.int .i64 x.2.2.2.2.2.2.2.D_),.sc (.int .i64 x.2.2.2.2.2.2.2.A_),.sc (.int .i64 x.2.2.2.2.2.2.2.B_),.sc (.int .i64 x.2.2.2.2.2.2.2.C_),.sc (.int .i64 x.2.2.2.2.2.2.2.N_),.sc (.int .u32 x.2.2.2.2.2.2.2.Bits_)]]) (fun x=>[(200000,.lit 7 [[.im 3 x.1,.im 1 x.2.1,.im 4 x.2.2.1,.im 2 x.2.2.2.1,.ow false 5 x.2.2.2.2.1,.ow true 7 x.2.2.2.2.2.1,.ow false 6 x.2.2.2.2.2.2.1]])]) (fun y=>([(4,.sc (.bool y.1))],[(200000,.lit 7 [[.im 3 y.2.1,.im 1 y.2.2.1,.im 4 y.2.2.2.1,.im 2 y.2.2.2.2.1,.ow false 5 y.2.2.2.2.2.1,.ow true 7 y.2.2.2.2.2.2.1,.ow false 6 y.2.2.2.2.2.2.2]])])) (fun y=>.sc (.bool y.1)) (fun y=>[(200000,.lit 7 [[.im 3 y.2.1,.im 1 y.2.2.1,.im 4 y.2.2.2.1,.im 2 y.2.2.2.2.1,.ow false 5 y.2.2.2.2.2.1,.ow true 7 y.2.2.2.2.2.2.1,.ow false 6 y.2.2.2.2.2.2.2]])]) (g37_t n) (fun x=>by kernel_rfl) (fun x=>by kernel_rfl) (by kernel_rfl) (fun y=>by kernel_rfl) (fun h=>nomatch h)
noncomputable def g16_c (n:Nat):Cx P_ Ty_:=⟨[k28 n,k29 n,k32 n,k35 n,k36 n,k37 n],[(45,false,5)],[],[]⟩
abbrev g16_k:List (List Nat):=[[1],[1,4],[1,4,11],[2,3],[1,15],[2,3],[1,26],[2,3],[1,40],[2,3],[1,5],[1,5,49,50,51],[1,5,49,50,51,52],[1,5,6,7,49,50,51],[1,5,6,49,50,51,71],[2,3],[1,5,49,50,51],[1,79],[2,3],[2,3]]
noncomputable def g16_e1 (x:Xf) (p:Bool):EH Ty_:=([(1,.pt 1 [] 0 0),(15,.sc (.bool p))],[(1,.lit 4 [[.im 3 x.Sign_,.im 1 x.Regs_,.im 4 x.Slots_,.im 2 x.List_]])])
noncomputable def g16_e2 (x:Xf) (p:Bool×(List Xd)×(List Xb)×(List Xe)×(List Xc)):EH Ty_:=([(1,.pt 1 [] 0 0),(40,.sc (.bool p.1))],[(1,.lit 4 [[.im 3 p.2.1,.im 1 p.2.2.1,.im 4 p.2.2.2.1,.im 2 p.2.2.2.2]])])
noncomputable def g16_e3 (x:Xf) (v1:(List Xc)×Int×(List Xd)×(List Xb)×(List Xe)) (q1:Int×(List Xd)×(List Xb)×(List Xe)×(List Xc)×(List Bool)×(List (List Int))×(List Int)) (p:Bool×(List Xd)×(List Xb)×(List Xe)×(List Xc)×(List Bool)×(List (List Int))×(List Int)):EH Ty_:=([(1,.pt 1 [] 0 0),(5,.pt 47 [] 0 0),(6,.sc (.int .i64 q1.1)),(49,.im 2 v1.1),(50,.sc (.int .i64 v1.2.1)),(51,.sc (.int .i64 q1.1)),(71,.sc (.bool p.1))],[(1,.lit 4 [[.im 3 v1.2.2.1,.im 1 v1.2.2.2.1,.im 4 v1.2.2.2.2,.im 2 v1.1]]),(47,.lit 7 [[.im 3 p.2.1,.im 1 p.2.2.1,.im 4 p.2.2.2.1,.im 2 p.2.2.2.2.1,.ow false 5 p.2.2.2.2.2.1,.ow true 7 p.2.2.2.2.2.2.1,.ow false 6 p.2.2.2.2.2.2.2]])])
noncomputable def g16_t1 (n:Nat) (x:Xf) (v1:(List Xc)×Int×(List Xd)×(List Xb)×(List Xe)) (q1:Int×(List Xd)×(List Xb)×(List Xe)×(List Xc)×(List Bool)×(List (List Int))×(List Int)):Pt P_ Ty_ [] (Bo (Int×(List Xd)×(List Xb)×(List Xe)×(List Xc)×(List Bool)×(List (List Int))×(List Int)) (Int×(List Xd)×(List Xb)×(List Xe)×(List Xc)×(List Bool)×(List (List Int))×(List Int)) Int):=.ite (decide (q1.1<v1.2.1)) (.bnd (idx v1.1 q1.1) fun y4=>.join (S:=Bool×(List Xd)×(List Xb)×(List Xe)×(List Xc)×(List Bool)×(List (List Int))×(List Int)) (g16_e3 x v1 q1) (.call (k35 n) (q1.2.1,q1.2.2.1,q1.2.2.2.1,q1.2.2.2.2.1,q1.2.2.2.2.2.1,q1.2.2.2.2.2.2.1,q1.2.2.2.2.2.2.2,y4) fun (y5:Bool×(List Xd)×(List Xb)×(List Xe)×(List Xc)×(List Bool)×(List (List Int))×(List Int))=>.ite (!y5.1) (.leaf (.inl (true,y5.2.1,y5.2.2.1,y5.2.2.2.1,y5.2.2.2.2.1,y5.2.2.2.2.2.1,y5.2.2.2.2.2.2.1,y5.2.2.2.2.2.2.2))) (.call (k36 n) (y5.2.1,y5.2.2.1,y5.2.2.2.1,y5.2.2.2.2.1,y5.2.2.2.2.2.1,y5.2.2.2.2.2.2.1,y5.2.2.2.2.2.2.2,y4) fun (y6:Bool×(List Xd)×(List Xb)×(List Xe)×(List Xc)×(List Bool)×(List (List Int))×(List Int))=>.ite (!y6.1) (.leaf (.inl (true,y6.2.1,y6.2.2.1,y6.2.2.2.1,y6.2.2.2.2.1,y6.2.2.2.2.2.1,y6.2.2.2.2.2.2.1,y6.2.2.2.2.2.2.2))) (.call (k37 n) (y6.2.1,y6.2.2.1,y6.2.2.2.1,y6.2.2.2.2.1,y6.2.2.2.2.2.1,y6.2.2.2.2.2.2.1,y6.2.2.2.2.2.2.2,y4) fun (y7:Bool×(List Xd)×(List Xb)×(List Xe)×(List Xc)×(List Bool)×(List (List Int))×(List Int))=>.leaf (.inl ((!y7.1),y7.2.1,y7.2.2.1,y7.2.2.2.1,y7.2.2.2.2.1,y7.2.2.2.2.2.1,y7.2.2.2.2.2.2.1,y7.2.2.2.2.2.2.2))))) fun s3=>.ite s3.1 (.leaf (.ret q1.1)) (.leaf (.go ((W_ (q1.1+(1:Int))),s3.2.1,s3.2.2.1,s3.2.2.2.1,s3.2.2.2.2.1,s3.2.2.2.2.2.1,s3.2.2.2.2.2.2.1,s3.2.2.2.2.2.2.2)))) (.leaf (.out (q1.1,q1.2.1,q1.2.2.1,q1.2.2.2.1,q1.2.2.2.2.1,q1.2.2.2.2.2.1,q1.2.2.2.2.2.2.1,q1.2.2.2.2.2.2.2)))
noncomputable def g16_L1 (n:Nat) (x:Xf) (v1:(List Xc)×Int×(List Xd)×(List Xb)×(List Xe)):LCon P_ Ty_ []:=lcon (X:=Int×(List Xd)×(List Xb)×(List Xe)×(List Xc)×(List Bool)×(List (List Int))×(List Int)) (Y:=Int×(List Xd)×(List Xb)×(List Xe)×(List Xc)×(List Bool)×(List (List Int))×(List Int)) (Z:=Int) (g16_c n) (subC [1,1,1,1,0,1,0,0] (fnC P_ 23 g16_k)) (fun q1=>.two .no (.two .no (.two (.two (.two .no (.join (Bool×(List Xd)×(List Xb)×(List Xe)×(List Xc)×(List Bool)×(List (List Int))×(List Int)) (g16_e3 x v1 q1) ⟨[(1,.ref 1),(5,.ref 47),(6,.any),(49,.im 2),(50,.any),(51,.any),(71,.any)],[(1,.any),(47,.any)]⟩ .no .no)) .no) .no))) 1 true ⟨[(1,.ref 1),(5,.ref 47),(49,.im 2),(50,.any),(51,.any)],[(1,.any),(47,.fix [.no,.no,.no,.no,.no,.ow true 7,.ow false 6])]⟩ ⟨[(1,.ref 1),(5,.ref 47),(49,.im 2),(50,.any),(51,.any),(52,.any)],[(1,.any),(47,.any)]⟩ ⟨[(2,.any),(3,.any)],[]⟩ (fun q1=>([(1,.pt 1 [] 0 0),(5,.pt 47 [] 0 0),(49,.im 2 v1.1),(50,.sc (.int .i64 v1.2.1)),(51,.sc (.int .i64 q1.1))],[(1,.lit 4 [[.im 3 v1.2.2.1,.im 1 v1.2.2.2.1,.im 4 v1.2.2.2.2,.im 2 v1.1]]),(47,.lit 7 [[.im 3 q1.2.1,.im 1 q1.2.2.1,.im 4 q1.2.2.2.1,.im 2 q1.2.2.2.2.1,.ow false 5 q1.2.2.2.2.2.1,.ow true 7 q1.2.2.2.2.2.2.1,.ow false 6 q1.2.2.2.2.2.2.2]])])) (fun p=>([(1,.pt 1 [] 0 0),(5,.pt 47 [] 0 0),(49,.im 2 v1.1),(50,.sc (.int .i64 v1.2.1)),(51,.sc (.int .i64 p.1)),(52,.sc (.bool false))],[(1,.lit 4 [[.im 3 v1.2.2.1,.im 1 v1.2.2.2.1,.im 4 v1.2.2.2.2,.im 2 v1.1]]),(47,.lit 7 [[.im 3 p.2.1,.im 1 p.2.2.1,.im 4 p.2.2.2.1,.im 2 p.2.2.2.2.1,.ow false 5 p.2.2.2.2.2.1,.ow true 7 p.2.2.2.2.2.2.1,.ow false 6 p.2.2.2.2.2.2.2]])])) (fun p=>([(2,.sc (.int .i64 (160:Int))),(3,.sc (.int .i64 p))],[])) n (g16_t1 n x v1) (fun h=>nomatch h) (fun q1=>by kernel_rfl)
noncomputable def g16_t (n:Nat) (x:Xf):Pt P_ Ty_ [] (Int×Int):=.call (k28 n) x.Sign_ fun (y1:Int)=>.ite (y1 != (0:Int)) (.leaf (y1,(-1:Int))) (.join (S:=Bool) (g16_e1 x) (.ite (decide ((x.Regs_.length:Int) > (16384:Int))) (.leaf (.inl true)) (.leaf (.inl (decide ((x.List_.length:Int) > (32768:Int)))))) fun s1=>.ite s1 (.leaf ((181:Int),(-1:Int))) (.ite (decide ((x.Slots_.length:Int) > (4096:Int))) (.leaf ((180:Int),(-1:Int))) (.join (S:=Bool×(List Xd)×(List Xb)×(List Xe)×(List Xc)) (g16_e2 x) (.call (k29 n) (x.Regs_,x.Sign_,x.Regs_,x.Slots_,x.List_) fun (y2:Bool×(List Xd)×(List Xb)×(List Xe)×(List Xc))=>.ite y2.1 (.leaf (.inl (true,y2.2.1,y2.2.2.1,y2.2.2.2.1,y2.2.2.2.2))) (.call (k32 n) (y2.2.2.2.1,y2.2.1,y2.2.2.1,y2.2.2.2.1,y2.2.2.2.2) fun (y3:Bool×(List Xd)×(List Xb)×(List Xe)×(List Xc))=>.leaf (.inl (y3.1,y3.2.1,y3.2.2.1,y3.2.2.2.1,y3.2.2.2.2)))) fun s2=>.ite s2.1 (.leaf ((160:Int),(-1:Int))) (.need (0≤(s2.2.2.1.length:Int)∧(s2.2.2.1.length:Int) * (1:Int)≤140737488355328) (.loopR (V:=(List Xc)×Int×(List Xd)×(List Xb)×(List Xe)) (g16_L1 n x) (s2.2.2.2.2,(s2.2.2.2.2.length:Int),s2.2.1,s2.2.2.1,s2.2.2.2.1) ((0:Int),s2.2.1,s2.2.2.1,s2.2.2.2.1,s2.2.2.2.2,(List.replicate (s2.2.2.1.length:Int).toNat false),([]:List (List Int)),([]:List Int)) (fun (v1:(List Xc)×Int×(List Xd)×(List Xb)×(List Xe)) (y8:Int×(List Xd)×(List Xb)×(List Xe)×(List Xc)×(List Bool)×(List (List Int))×(List Int))=>.ite (decide ((y8.2.2.2.2.2.2.2.length:Int) > (0:Int))) (.leaf ((160:Int),(v1.1.length:Int))) (.leaf ((0:Int),(0:Int)))) fun (v1:(List Xc)×Int×(List Xd)×(List Xb)×(List Xe)) (z1:Int)=>.leaf ((160:Int),z1))))))
noncomputable def k16 (n:Nat):Con P_ Ty_:=conOf (X:=Xf) (R:=Int×Int) (pro:=[]) (g16_c n) 23 g16_k (by kernel_rfl) (fun x=>.two .no (.two (.two .no (.two (.two .no (.two .no (.join Bool (g16_e1 x) ⟨[(1,.ref 1),(15,.any)],[(1,.any)]⟩ .no .no))) .no)) (.two (.join (Bool×(List Xd)×(List Xb)×(List Xe)×(List Xc)) (g16_e2 x) ⟨[(1,.ref 1),(40,.any)],[(1,.any)]⟩ .no .no) (.two .no (.two (.two .no (.two (.loop ((List Xc)×Int×(List Xd)×(List Xb)×(List Xe)) (g16_L1 n x) true ⟨[(1,.ref 1),(5,.ref 47),(49,.im 2),(50,.any),(51,.any)],[(1,.any),(47,.fix [.no,.no,.no,.no,.no,.ow true 7,.ow false 6])]⟩) .no)) .no))))) [.ag [.im 3,.im 1,.im 4,.im 2]] [] [] ⟨[(2,.any),(3,.any)],[]⟩ [] true (fun x=>[.ag [.im 3 x.Sign_,.im 1 x.Regs_,.im 4 x.Slots_,.im 2 x.List_]]) (fun x=>[]) (fun y=>([(2,.sc (.int .i64 y.1)),(3,.sc (.int .i64 y.2))],[])) (fun y=>.tu [.sc (.int .i64 y.1),.sc (.int .i64 y.2)]) (fun y=>[]) (g16_t n) (fun x=>by kernel_rfl) (fun x=>by kernel_rfl) (by kernel_rfl) (fun y=>by kernel_rfl) (fun _ y=>by kernel_rfl)
noncomputable def b193:Code:=(Go.Proofs.Tryz.f45.body).getD .skip
noncomputable def r193:IC:=match compC Go.Proofs.Tryz.prog 8 (lf (rt (rt b193))) [[2]] with | some (c,_)=>c | none=>.skip
noncomputable abbrev c193:Cx Go.Proofs.Tryz.prog Ty_:=⟨[],[(5,false,3)],[],[]⟩
noncomputable def g193 (_:Nat) (a0:List Xd):Option (List Xd):=need (a0.length * 32≤140737488355328) (some a0)
theorem g193_ok (n:Nat) (a0:List Xd) (r:List Xd) (hg:g193 n a0=some r):CallOk Go.Proofs.Tryz.prog 45 [.im 3 (a0.map (c3 false))] [] (.sl 100000 [] 0 (r.map (c3 false)).length) [(100000,⟨3,r.map (c3 false)⟩)]:=by
 obtain ⟨hl,hr⟩:=need_some hg
 obtain rfl:=Option.some.inj hr
 rw [List.length_map]
 have e:evC (L:=EH Ty_) c193 r193 .no [(0,.im 3 a0)] [] cloneK=Raw.need ((([]:List Xd).length+a0.length) * 32≤140737488355328) (.leaf ([(2,.sw 100000 [])],[(100000,.typ false 3 (([]:List Xd)++a0))])):=by kernel_rfl
 exact clone_ok (T:=Ty_) (ty:=3) (fn:=Go.Proofs.Tryz.f45) (b:=b193) (t:=22) (el:=53) (c3:=.seq r193 .ret) (by kernel_rfl) (by kernel_rfl) (by kernel_rfl) (by kernel_rfl) (by kernel_rfl) ⟨[[0]],[],by kernel_rfl⟩ (by kernel_rfl) (by kernel_rfl) (by kernel_rfl) ⟨[[2]],[],by kernel_rfl⟩ ⟨[[2]],[],by kernel_rfl⟩ (by kernel_rfl) (by kernel_rfl) a0
  (clone_W (cx:=c193) (by rw [e]; exact ⟨by simpa using hl,rfl⟩))
noncomputable def k193 (n:Nat):Con Go.Proofs.Tryz.prog Ty_ where
 f:=45
 X:=(List Xd)
 Y:=(List Xd)
 A:=[.im 3]
 H:=[]
 N:=[100000]
 encA:=fun x=>[.im 3 x]
 encH:=fun _=>[]
 G:=fun x=>g193 n x
 encR:=fun _=>.sw 100000 []
 encO:=fun y=>[(100000,.typ false 3 y)]
 strong:=true
 ok:=fun x y h=>⟨fun _=>g193_ok n x y h,CallOk.toG (g193_ok n x y h)⟩
noncomputable def b194:Code:=(Go.Proofs.Tryz.f46.body).getD .skip
noncomputable def r194:IC:=match compC Go.Proofs.Tryz.prog 8 (lf (rt (rt b194))) [[2]] with | some (c,_)=>c | none=>.skip
noncomputable abbrev c194:Cx Go.Proofs.Tryz.prog Ty_:=⟨[],[(5,false,1)],[],[]⟩
noncomputable def g194 (_:Nat) (a0:List Xb):Option (List Xb):=need (a0.length * 16≤140737488355328) (some a0)
theorem g194_ok (n:Nat) (a0:List Xb) (r:List Xb) (hg:g194 n a0=some r):CallOk Go.Proofs.Tryz.prog 46 [.im 2 (a0.map (c1 false))] [] (.sl 100000 [] 0 (r.map (c1 false)).length) [(100000,⟨2,r.map (c1 false)⟩)]:=by
 obtain ⟨hl,hr⟩:=need_some hg
 obtain rfl:=Option.some.inj hr
 rw [List.length_map]
 have e:evC (L:=EH Ty_) c194 r194 .no [(0,.im 1 a0)] [] cloneK=Raw.need ((([]:List Xb).length+a0.length) * 16≤140737488355328) (.leaf ([(2,.sw 100000 [])],[(100000,.typ false 1 (([]:List Xb)++a0))])):=by kernel_rfl
 exact clone_ok (T:=Ty_) (ty:=1) (fn:=Go.Proofs.Tryz.f46) (b:=b194) (t:=23) (el:=47) (c3:=.seq r194 .ret) (by kernel_rfl) (by kernel_rfl) (by kernel_rfl) (by kernel_rfl) (by kernel_rfl) ⟨[[0]],[],by kernel_rfl⟩ (by kernel_rfl) (by kernel_rfl) (by kernel_rfl) ⟨[[2]],[],by kernel_rfl⟩ ⟨[[2]],[],by kernel_rfl⟩ (by kernel_rfl) (by kernel_rfl) a0
  (clone_W (cx:=c194) (by rw [e]; exact ⟨by simpa using hl,rfl⟩))
noncomputable def k194 (n:Nat):Con Go.Proofs.Tryz.prog Ty_ where
 f:=46
 X:=(List Xb)
 Y:=(List Xb)
 A:=[.im 1]
 H:=[]
 N:=[100000]
 encA:=fun x=>[.im 1 x]
 encH:=fun _=>[]
 G:=fun x=>g194 n x
 encR:=fun _=>.sw 100000 []
 encO:=fun y=>[(100000,.typ false 1 y)]
 strong:=true
 ok:=fun x y h=>⟨fun _=>g194_ok n x y h,CallOk.toG (g194_ok n x y h)⟩
noncomputable def b195:Code:=(Go.Proofs.Tryz.f47.body).getD .skip
noncomputable def r195:IC:=match compC Go.Proofs.Tryz.prog 8 (lf (rt (rt b195))) [[2]] with | some (c,_)=>c | none=>.skip
noncomputable abbrev c195:Cx Go.Proofs.Tryz.prog Ty_:=⟨[],[(5,false,4)],[],[]⟩
noncomputable def g195 (_:Nat) (a0:List Xe):Option (List Xe):=need (a0.length * 32≤140737488355328) (some a0)
theorem g195_ok (n:Nat) (a0:List Xe) (r:List Xe) (hg:g195 n a0=some r):CallOk Go.Proofs.Tryz.prog 47 [.im 5 (a0.map (c4 false))] [] (.sl 100000 [] 0 (r.map (c4 false)).length) [(100000,⟨5,r.map (c4 false)⟩)]:=by
 obtain ⟨hl,hr⟩:=need_some hg
 obtain rfl:=Option.some.inj hr
 rw [List.length_map]
 have e:evC (L:=EH Ty_) c195 r195 .no [(0,.im 4 a0)] [] cloneK=Raw.need ((([]:List Xe).length+a0.length) * 32≤140737488355328) (.leaf ([(2,.sw 100000 [])],[(100000,.typ false 4 (([]:List Xe)++a0))])):=by kernel_rfl
 exact clone_ok (T:=Ty_) (ty:=4) (fn:=Go.Proofs.Tryz.f47) (b:=b195) (t:=24) (el:=49) (c3:=.seq r195 .ret) (by kernel_rfl) (by kernel_rfl) (by kernel_rfl) (by kernel_rfl) (by kernel_rfl) ⟨[[0]],[],by kernel_rfl⟩ (by kernel_rfl) (by kernel_rfl) (by kernel_rfl) ⟨[[2]],[],by kernel_rfl⟩ ⟨[[2]],[],by kernel_rfl⟩ (by kernel_rfl) (by kernel_rfl) a0
  (clone_W (cx:=c195) (by rw [e]; exact ⟨by simpa using hl,rfl⟩))
noncomputable def k195 (n:Nat):Con Go.Proofs.Tryz.prog Ty_ where
 f:=47
 X:=(List Xe)
 Y:=(List Xe)
 A:=[.im 4]
 H:=[]
 N:=[100000]
 encA:=fun x=>[.im 4 x]
 encH:=fun _=>[]
 G:=fun x=>g195 n x
 encR:=fun _=>.sw 100000 []
 encO:=fun y=>[(100000,.typ false 4 y)]
 strong:=true
 ok:=fun x y h=>⟨fun _=>g195_ok n x y h,CallOk.toG (g195_ok n x y h)⟩
noncomputable def b196:Code:=(Go.Proofs.Tryz.f48.body).getD .skip
noncomputable def r196:IC:=match compC Go.Proofs.Tryz.prog 8 (lf (rt (rt b196))) [[2]] with | some (c,_)=>c | none=>.skip
noncomputable abbrev c196:Cx Go.Proofs.Tryz.prog Ty_:=⟨[],[(5,false,2)],[],[]⟩
noncomputable def g196 (_:Nat) (a0:List Xc):Option (List Xc):=need (a0.length * 56≤140737488355328) (some a0)
theorem g196_ok (n:Nat) (a0:List Xc) (r:List Xc) (hg:g196 n a0=some r):CallOk Go.Proofs.Tryz.prog 48 [.im 7 (a0.map (c2 false))] [] (.sl 100000 [] 0 (r.map (c2 false)).length) [(100000,⟨7,r.map (c2 false)⟩)]:=by
 obtain ⟨hl,hr⟩:=need_some hg
 obtain rfl:=Option.some.inj hr
 rw [List.length_map]
 have e:evC (L:=EH Ty_) c196 r196 .no [(0,.im 2 a0)] [] cloneK=Raw.need ((([]:List Xc).length+a0.length) * 56≤140737488355328) (.leaf ([(2,.sw 100000 [])],[(100000,.typ false 2 (([]:List Xc)++a0))])):=by kernel_rfl
 exact clone_ok (T:=Ty_) (ty:=2) (fn:=Go.Proofs.Tryz.f48) (b:=b196) (t:=25) (el:=45) (c3:=.seq r196 .ret) (by kernel_rfl) (by kernel_rfl) (by kernel_rfl) (by kernel_rfl) (by kernel_rfl) ⟨[[0]],[],by kernel_rfl⟩ (by kernel_rfl) (by kernel_rfl) (by kernel_rfl) ⟨[[2]],[],by kernel_rfl⟩ ⟨[[2]],[],by kernel_rfl⟩ (by kernel_rfl) (by kernel_rfl) a0
  (clone_W (cx:=c196) (by rw [e]; exact ⟨by simpa using hl,rfl⟩))
noncomputable def k196 (n:Nat):Con Go.Proofs.Tryz.prog Ty_ where
 f:=48
 X:=(List Xc)
 Y:=(List Xc)
 A:=[.im 2]
 H:=[]
 N:=[100000]
 encA:=fun x=>[.im 2 x]
 encH:=fun _=>[]
 G:=fun x=>g196 n x
 encR:=fun _=>.sw 100000 []
 encO:=fun y=>[(100000,.typ false 2 y)]
 strong:=true
 ok:=fun x y h=>⟨fun _=>g196_ok n x y h,CallOk.toG (g196_ok n x y h)⟩
noncomputable def g144_c (n:Nat):Cx P_ Ty_:=⟨[k193 n,k194 n,k195 n,k196 n],[],[],[]⟩
abbrev g144_k:List (List Nat):=[[1,2],[2]]
noncomputable def g144_t (n:Nat) (x:Xf):Pt P_ Ty_ [] ((List Xd)×(List Xb)×(List Xe)×(List Xc)):=.call (k193 n) x.Sign_ fun (y1:(List Xd))=>.call (k194 n) x.Regs_ fun (y2:(List Xb))=>.call (k195 n) x.Slots_ fun (y3:(List Xe))=>.call (k196 n) x.List_ fun (y4:(List Xc))=>.leaf (y1,y2,y3,y4)
noncomputable def k144 (n:Nat):Con P_ Ty_:=conOf (X:=Xf) (R:=(List Xd)×(List Xb)×(List Xe)×(List Xc)) (pro:=[]) (g144_c n) 24 g144_k (by kernel_rfl) (fun x=>.no) [.ag [.im 3,.im 1,.im 4,.im 2]] [] [100000] ⟨[(2,.ref 100000)],[(100000,.any)]⟩ [100000] true (fun x=>[.ag [.im 3 x.Sign_,.im 1 x.Regs_,.im 4 x.Slots_,.im 2 x.List_]]) (fun x=>[]) (fun y=>([(2,.pt 100000 [] 0 0)],[(100000,.lit 4 [[.ow false 3 y.1,.ow false 1 y.2.1,.ow false 4 y.2.2.1,.ow false 2 y.2.2.2]])])) (fun y=>.ag [.sw 100000 [(0,0)],.sw 100000 [(0,1)],.sw 100000 [(0,2)],.sw 100000 [(0,3)]]) (fun y=>[(100000,.lit 4 [[.ow false 3 y.1,.ow false 1 y.2.1,.ow false 4 y.2.2.1,.ow false 2 y.2.2.2]])]) (g144_t n) (fun x=>by kernel_rfl) (fun x=>by kernel_rfl) (by kernel_rfl) (fun y=>by kernel_rfl) (fun _ y=>by kernel_rfl)
noncomputable def g146_c (n:Nat):Cx P_ Ty_:=⟨[k13 n],[],[],[]⟩
abbrev g146_k:List (List Nat):=[[2,3],[2,3,6],[2,3,6,9],[2,3,6,9],[2,3,6,9],[2,3,6,9],[2,3,22],[2,3,22],[2,6],[4,5],[4,5]]
noncomputable def g146_e1 (x:Xf×Xc) (p:Bool):EH Ty_:=([(2,.pt 2 [] 0 0),(3,.pt 3 [] 0 0),(6,.sc (.int .i64 x.2.D_)),(9,.sc (.bool p))],[(2,.lit 4 [[.im 3 x.1.Sign_,.im 1 x.1.Regs_,.im 4 x.1.Slots_,.im 2 x.1.List_]]),(3,.lit 7 [[.sc (.int .i64 x.2.Op_),.sc (.int .i64 x.2.D_),.sc (.int .i64 x.2.A_),.sc (.int .i64 x.2.B_),.sc (.int .i64 x.2.C_),.sc (.int .i64 x.2.N_),.sc (.int .u32 x.2.Bits_)]])])
noncomputable def g146_e2 (x:Xf×Xc) (p:Bool):EH Ty_:=([(2,.pt 2 [] 0 0),(3,.pt 3 [] 0 0),(22,.sc (.bool p))],[(2,.lit 4 [[.im 3 x.1.Sign_,.im 1 x.1.Regs_,.im 4 x.1.Slots_,.im 2 x.1.List_]]),(3,.lit 7 [[.sc (.int .i64 x.2.Op_),.sc (.int .i64 x.2.D_),.sc (.int .i64 x.2.A_),.sc (.int .i64 x.2.B_),.sc (.int .i64 x.2.C_),.sc (.int .i64 x.2.N_),.sc (.int .u32 x.2.Bits_)]])])
noncomputable def g146_e3 (x:Xf×Xc) (p:Int):EH Ty_:=([(2,.pt 2 [] 0 0),(6,.sc (.int .i64 p))],[(2,.lit 4 [[.im 3 x.1.Sign_,.im 1 x.1.Regs_,.im 4 x.1.Slots_,.im 2 x.1.List_]])])
noncomputable def g146_t (n:Nat) (x:Xf×Xc):Pt P_ Ty_ [] (Int×Bool):=.join (S:=Int) (g146_e3 x) (.join (S:=Bool) (g146_e1 x) (.call (k13 n) x.2.Op_ fun (y1:Bool)=>.ite y1 (.leaf (.inl true)) (.ite (x.2.Op_==(29:Int)) (.leaf (.inl true)) (.ite (x.2.Op_==(30:Int)) (.leaf (.inl true)) (.leaf (.inl (x.2.Op_==(32:Int))))))) fun s1=>.ite s1 (.leaf (.inl x.2.D_)) (.join (S:=Bool) (g146_e2 x) (.ite (x.2.Op_==(31:Int)) (.leaf (.inl true)) (.leaf (.inl (x.2.Op_==(33:Int))))) fun s2=>.ite s2 (.leaf (.inl x.2.A_)) (.leaf (.inr ((0:Int),false))))) fun s3=>.bnd (idx x.1.Regs_ s3) fun y2=>.bnd (idx x.1.Regs_ s3) fun y3=>.leaf (y2.Param_,(y3.Kind_==(3:Int)))
noncomputable def k146 (n:Nat):Con P_ Ty_:=conOf (X:=Xf×Xc) (R:=Int×Bool) (pro:=[]) (g146_c n) 26 g146_k (by kernel_rfl) (fun x=>.two .no (.two .no (.join Int (g146_e3 x) ⟨[(2,.ref 2),(6,.any)],[(2,.any)]⟩ (.two (.join Bool (g146_e1 x) ⟨[(2,.ref 2),(3,.ref 3),(6,.any),(9,.any)],[(2,.any),(3,.any)]⟩ .no (.two .no (.join Bool (g146_e2 x) ⟨[(2,.ref 2),(3,.ref 3),(22,.any)],[(2,.any),(3,.any)]⟩ .no .no))) .no) .no))) [.ag [.im 3,.im 1,.im 4,.im 2],.ag [.any,.any,.any,.any,.any,.any,.any]] [] [] ⟨[(4,.any),(5,.any)],[]⟩ [] true (fun x=>[.ag [.im 3 x.1.Sign_,.im 1 x.1.Regs_,.im 4 x.1.Slots_,.im 2 x.1.List_],.ag [.sc (.int .i64 x.2.Op_),.sc (.int .i64 x.2.D_),.sc (.int .i64 x.2.A_),.sc (.int .i64 x.2.B_),.sc (.int .i64 x.2.C_),.sc (.int .i64 x.2.N_),.sc (.int .u32 x.2.Bits_)]]) (fun x=>[]) (fun y=>([(4,.sc (.int .i64 y.1)),(5,.sc (.bool y.2))],[])) (fun y=>.tu [.sc (.int .i64 y.1),.sc (.bool y.2)]) (fun y=>[]) (g146_t n) (fun x=>by kernel_rfl) (fun x=>by kernel_rfl) (by kernel_rfl) (fun y=>by kernel_rfl) (fun _ y=>by kernel_rfl)
noncomputable def g145_c (n:Nat):Cx P_ Ty_:=⟨[],[(7,false,2),(8,false,2)],[],[]⟩
abbrev g145_k:List (List Nat):=[[0,1,3],[0],[]]
noncomputable def g145_t (n:Nat) (x:Int×(List Xd)×(List Xb)×(List Xe)):Pt P_ Ty_ [200000,200001] (Int×(List Xd)×(List Xb)×(List Xe)×(List Xc)):=.ite (decide (x.1≥(0:Int))) (.need (([(⟨(37:Int),(0:Int),(0:Int),(0:Int),(0:Int),(0:Int),(0:Int)⟩:Xc)]:List Xc).length * 56≤140737488355328) (.leaf ((-1:Int),x.2.1,x.2.2.1,x.2.2.2,([(⟨(37:Int),(0:Int),(0:Int),(0:Int),(0:Int),(0:Int),(0:Int)⟩:Xc)]:List Xc)))) (.leaf (x.1,x.2.1,x.2.2.1,x.2.2.2,([]:List Xc)))
noncomputable def k145 (n:Nat):Con P_ Ty_:=conOf (X:=Int×(List Xd)×(List Xb)×(List Xe)) (R:=Int×(List Xd)×(List Xb)×(List Xe)×(List Xc)) (pro:=[200000,200001]) (g145_c n) 25 g145_k (by kernel_rfl) (fun x=>.no) [.pt 200000,.pt 200001] [(200001,[.ow false 3,.ow false 1,.ow false 4,.no])] [] ⟨[],[(200000,.any),(200001,.fix [.no,.no,.no,.ow false 2])]⟩ [200000,200001] true (fun x=>[.pt 200000 [] 0 0,.pt 200001 [] 0 0]) (fun x=>[(200000,.lit 1 [[.sc (.int .i64 x.1)]]),(200001,.lit 4 [[.ow false 3 x.2.1,.ow false 1 x.2.2.1,.ow false 4 x.2.2.2,.zs]])]) (fun y=>([],[(200000,.lit 1 [[.sc (.int .i64 y.1)]]),(200001,.lit 4 [[.ow false 3 y.2.1,.ow false 1 y.2.2.1,.ow false 4 y.2.2.2.1,.ow false 2 y.2.2.2.2]])])) (fun y=>.tu []) (fun y=>[(200000,.lit 1 [[.sc (.int .i64 y.1)]]),(200001,.lit 4 [[.ow false 3 y.2.1,.ow false 1 y.2.2.1,.ow false 4 y.2.2.2.1,.ow false 2 y.2.2.2.2]])]) (g145_t n) (fun x=>by kernel_rfl) (fun x=>by kernel_rfl) (by kernel_rfl) (fun y=>by kernel_rfl) (fun _ y=>by kernel_rfl)
noncomputable def g145_1_c (n:Nat):Cx P_ Ty_:=⟨[],[(7,false,2)],[],[]⟩
abbrev g145_1_k:List (List Nat):=[[0,1,3],[0],[]]
noncomputable def g145_1_t (n:Nat) (x:Int×(List Xd)×(List Xb)×(List Xe)×(List Xc)):Pt P_ Ty_ [200000,200001] (Int×(List Xd)×(List Xb)×(List Xe)×(List Xc)):=.ite (decide (x.1≥(0:Int))) (.need ((x.2.2.2.2.length+([(⟨(37:Int),(0:Int),(0:Int),(0:Int),(0:Int),(0:Int),(0:Int)⟩:Xc)]:List Xc).length) * 56≤140737488355328) (.leaf ((-1:Int),x.2.1,x.2.2.1,x.2.2.2.1,(x.2.2.2.2++([(⟨(37:Int),(0:Int),(0:Int),(0:Int),(0:Int),(0:Int),(0:Int)⟩:Xc)]:List Xc))))) (.leaf (x.1,x.2.1,x.2.2.1,x.2.2.2.1,x.2.2.2.2))
noncomputable def k145_1 (n:Nat):Con P_ Ty_:=conOf (X:=Int×(List Xd)×(List Xb)×(List Xe)×(List Xc)) (R:=Int×(List Xd)×(List Xb)×(List Xe)×(List Xc)) (pro:=[200000,200001]) (g145_1_c n) 25 g145_1_k (by kernel_rfl) (fun x=>.no) [.pt 200000,.pt 200001] [(200001,[.ow false 3,.ow false 1,.ow false 4,.ow false 2])] [] ⟨[],[(200000,.any),(200001,.any)]⟩ [200000,200001] true (fun x=>[.pt 200000 [] 0 0,.pt 200001 [] 0 0]) (fun x=>[(200000,.lit 1 [[.sc (.int .i64 x.1)]]),(200001,.lit 4 [[.ow false 3 x.2.1,.ow false 1 x.2.2.1,.ow false 4 x.2.2.2.1,.ow false 2 x.2.2.2.2]])]) (fun y=>([],[(200000,.lit 1 [[.sc (.int .i64 y.1)]]),(200001,.lit 4 [[.ow false 3 y.2.1,.ow false 1 y.2.2.1,.ow false 4 y.2.2.2.1,.ow false 2 y.2.2.2.2]])])) (fun y=>.tu []) (fun y=>[(200000,.lit 1 [[.sc (.int .i64 y.1)]]),(200001,.lit 4 [[.ow false 3 y.2.1,.ow false 1 y.2.2.1,.ow false 4 y.2.2.2.1,.ow false 2 y.2.2.2.2]])]) (g145_1_t n) (fun x=>by kernel_rfl) (fun x=>by kernel_rfl) (by kernel_rfl) (fun y=>by kernel_rfl) (fun _ y=>by kernel_rfl)
noncomputable def g120_c (n:Nat):Cx P_ Ty_:=⟨[k16 n,k144 n,k146 n,k145_1 n],[(65,false,2),(86,false,2)],[],[]⟩
abbrev g120_k:List (List Nat):=[[1,2],[1,2,4],[1,2,20],[2,3],[1,2,6],[1,2,6],[1,2,6,7,8],[1,2,6,7,8,9],[1,2,6,7,8,9,27,28,29],[1,2,6,7,8,9,27,28,29,30],[1,2,6,7,8,9,11,27,28,29],[1,2,6,7,8,9,11,27,28,29,40],[1,2,6,7,8,9,11,12,13,27,28,29],[1,2,6,7,8,9,11,12,13,27,28,29,53],[1,2,6,7,8,9,11,12,13,27,28,29],[1,2,6,7,8,9,11,12,27,28,29,60],[1,2,6,7,8,9,11,12,27,28,29],[1,2,6,7,8,9,11,27,28,29],[1,2,6,7,8,9,11,27,28,29,70],[1,2,6,7,8,9,11,27,28,29,70,71],[1,2,6,7,8,9,11,27,28,29],[1,2,6,7,8,9,11,27,28,29,76],[2,3],[1,2,6,7,8,9,11,27,28,29,79],[1,2,6,7,8,9,11,27,28,29],[1,2,6,7,8,9,27,28,29],[1,2,6,7,8,9,27,28,29],[1,2,6],[1,2,6,95],[2,3],[2,3]]
noncomputable def g120_e1 (x:Xf) (v1:Unit) (q1:Int×Int×(List Xd)×(List Xb)×(List Xe)×(List Xc)×Int) (p:Bool×Int×Int×Int×Int×Int×Int×Int):EH Ty_:=([(1,.pt 1 [] 0 0),(2,.pt 2 [] 0 0),(6,.pt 6 [] 0 0),(7,.pt 7 [] 0 0),(8,.sc (.int .i64 q1.1)),(9,.fn 25 [.pt 7 [] 0 0,.pt 6 [] 0 0]),(11,.pt 11 [] 0 0),(27,.im 2 x.List_),(28,.sc (.int .i64 (x.List_.length:Int))),(29,.sc (.int .i64 q1.2.1)),(40,.sc (.bool p.1))],[(1,.lit 4 [[.im 3 x.Sign_,.im 1 x.Regs_,.im 4 x.Slots_,.im 2 x.List_]]),(2,.lit 4 [[.zs,.zs,.zs,.zs]]),(6,.lit 4 [[.ow false 3 q1.2.2.1,.ow false 1 q1.2.2.2.1,.ow false 4 q1.2.2.2.2.1,.ow false 2 q1.2.2.2.2.2.1]]),(7,.lit 1 [[.sc (.int .i64 q1.2.2.2.2.2.2)]]),(11,.lit 7 [[.sc (.int .i64 p.2.1),.sc (.int .i64 p.2.2.1),.sc (.int .i64 p.2.2.2.1),.sc (.int .i64 p.2.2.2.2.1),.sc (.int .i64 p.2.2.2.2.2.1),.sc (.int .i64 p.2.2.2.2.2.2.1),.sc (.int .u32 p.2.2.2.2.2.2.2)]])])
noncomputable def g120_e2 (x:Xf) (v1:Unit) (q1:Int×Int×(List Xd)×(List Xb)×(List Xe)×(List Xc)×Int) (p:Int×Bool×Bool×Int×Int×Int×Int×Int×Int×Int):EH Ty_:=([(1,.pt 1 [] 0 0),(2,.pt 2 [] 0 0),(6,.pt 6 [] 0 0),(7,.pt 7 [] 0 0),(8,.sc (.int .i64 q1.1)),(9,.fn 25 [.pt 7 [] 0 0,.pt 6 [] 0 0]),(11,.pt 11 [] 0 0),(12,.sc (.int .i64 p.1)),(13,.sc (.bool p.2.1)),(27,.im 2 x.List_),(28,.sc (.int .i64 (x.List_.length:Int))),(29,.sc (.int .i64 q1.2.1)),(53,.sc (.bool p.2.2.1))],[(1,.lit 4 [[.im 3 x.Sign_,.im 1 x.Regs_,.im 4 x.Slots_,.im 2 x.List_]]),(2,.lit 4 [[.zs,.zs,.zs,.zs]]),(6,.lit 4 [[.ow false 3 q1.2.2.1,.ow false 1 q1.2.2.2.1,.ow false 4 q1.2.2.2.2.1,.ow false 2 q1.2.2.2.2.2.1]]),(7,.lit 1 [[.sc (.int .i64 q1.2.2.2.2.2.2)]]),(11,.lit 7 [[.sc (.int .i64 p.2.2.2.1),.sc (.int .i64 p.2.2.2.2.1),.sc (.int .i64 p.2.2.2.2.2.1),.sc (.int .i64 p.2.2.2.2.2.2.1),.sc (.int .i64 p.2.2.2.2.2.2.2.1),.sc (.int .i64 p.2.2.2.2.2.2.2.2.1),.sc (.int .u32 p.2.2.2.2.2.2.2.2.2)]])])
noncomputable def g120_e3 (x:Xf) (v1:Unit) (q1:Int×Int×(List Xd)×(List Xb)×(List Xe)×(List Xc)×Int) (p:Int×Bool×(List Xd)×(List Xb)×(List Xe)×(List Xc)×Int×Int×Int×Int×Int×Int×Int×Int):EH Ty_:=([(1,.pt 1 [] 0 0),(2,.pt 2 [] 0 0),(6,.pt 6 [] 0 0),(7,.pt 7 [] 0 0),(8,.sc (.int .i64 q1.1)),(9,.fn 25 [.pt 7 [] 0 0,.pt 6 [] 0 0]),(11,.pt 11 [] 0 0),(12,.sc (.int .i64 p.1)),(13,.sc (.bool p.2.1)),(27,.im 2 x.List_),(28,.sc (.int .i64 (x.List_.length:Int))),(29,.sc (.int .i64 q1.2.1))],[(1,.lit 4 [[.im 3 x.Sign_,.im 1 x.Regs_,.im 4 x.Slots_,.im 2 x.List_]]),(2,.lit 4 [[.zs,.zs,.zs,.zs]]),(6,.lit 4 [[.ow false 3 p.2.2.1,.ow false 1 p.2.2.2.1,.ow false 4 p.2.2.2.2.1,.ow false 2 p.2.2.2.2.2.1]]),(7,.lit 1 [[.sc (.int .i64 p.2.2.2.2.2.2.1)]]),(11,.lit 7 [[.sc (.int .i64 p.2.2.2.2.2.2.2.1),.sc (.int .i64 p.2.2.2.2.2.2.2.2.1),.sc (.int .i64 p.2.2.2.2.2.2.2.2.2.1),.sc (.int .i64 p.2.2.2.2.2.2.2.2.2.2.1),.sc (.int .i64 p.2.2.2.2.2.2.2.2.2.2.2.1),.sc (.int .i64 p.2.2.2.2.2.2.2.2.2.2.2.2.1),.sc (.int .u32 p.2.2.2.2.2.2.2.2.2.2.2.2.2)]])])
noncomputable def g120_e4 (x:Xf) (v1:Unit) (q1:Int×Int×(List Xd)×(List Xb)×(List Xe)×(List Xc)×Int) (p:Int×Bool×(List Xd)×(List Xb)×(List Xe)×(List Xc)×Int×Int×Int×Int×Int×Int×Int×Int):EH Ty_:=([(1,.pt 1 [] 0 0),(2,.pt 2 [] 0 0),(6,.pt 6 [] 0 0),(7,.pt 7 [] 0 0),(8,.sc (.int .i64 q1.1)),(9,.fn 25 [.pt 7 [] 0 0,.pt 6 [] 0 0]),(11,.pt 11 [] 0 0),(12,.sc (.int .i64 p.1)),(27,.im 2 x.List_),(28,.sc (.int .i64 (x.List_.length:Int))),(29,.sc (.int .i64 q1.2.1)),(60,.sc (.bool p.2.1))],[(1,.lit 4 [[.im 3 x.Sign_,.im 1 x.Regs_,.im 4 x.Slots_,.im 2 x.List_]]),(2,.lit 4 [[.zs,.zs,.zs,.zs]]),(6,.lit 4 [[.ow false 3 p.2.2.1,.ow false 1 p.2.2.2.1,.ow false 4 p.2.2.2.2.1,.ow false 2 p.2.2.2.2.2.1]]),(7,.lit 1 [[.sc (.int .i64 p.2.2.2.2.2.2.1)]]),(11,.lit 7 [[.sc (.int .i64 p.2.2.2.2.2.2.2.1),.sc (.int .i64 p.2.2.2.2.2.2.2.2.1),.sc (.int .i64 p.2.2.2.2.2.2.2.2.2.1),.sc (.int .i64 p.2.2.2.2.2.2.2.2.2.2.1),.sc (.int .i64 p.2.2.2.2.2.2.2.2.2.2.2.1),.sc (.int .i64 p.2.2.2.2.2.2.2.2.2.2.2.2.1),.sc (.int .u32 p.2.2.2.2.2.2.2.2.2.2.2.2.2)]])])
noncomputable def g120_e5 (x:Xf) (v1:Unit) (q1:Int×Int×(List Xd)×(List Xb)×(List Xe)×(List Xc)×Int) (p:(List Xd)×(List Xb)×(List Xe)×(List Xc)×Int×Int×Int×Int×Int×Int×Int×Int):EH Ty_:=([(1,.pt 1 [] 0 0),(2,.pt 2 [] 0 0),(6,.pt 6 [] 0 0),(7,.pt 7 [] 0 0),(8,.sc (.int .i64 q1.1)),(9,.fn 25 [.pt 7 [] 0 0,.pt 6 [] 0 0]),(11,.pt 11 [] 0 0),(27,.im 2 x.List_),(28,.sc (.int .i64 (x.List_.length:Int))),(29,.sc (.int .i64 q1.2.1))],[(1,.lit 4 [[.im 3 x.Sign_,.im 1 x.Regs_,.im 4 x.Slots_,.im 2 x.List_]]),(2,.lit 4 [[.zs,.zs,.zs,.zs]]),(6,.lit 4 [[.ow false 3 p.1,.ow false 1 p.2.1,.ow false 4 p.2.2.1,.ow false 2 p.2.2.2.1]]),(7,.lit 1 [[.sc (.int .i64 p.2.2.2.2.1)]]),(11,.lit 7 [[.sc (.int .i64 p.2.2.2.2.2.1),.sc (.int .i64 p.2.2.2.2.2.2.1),.sc (.int .i64 p.2.2.2.2.2.2.2.1),.sc (.int .i64 p.2.2.2.2.2.2.2.2.1),.sc (.int .i64 p.2.2.2.2.2.2.2.2.2.1),.sc (.int .i64 p.2.2.2.2.2.2.2.2.2.2.1),.sc (.int .u32 p.2.2.2.2.2.2.2.2.2.2.2)]])])
noncomputable def g120_e6 (x:Xf) (v1:Unit) (q1:Int×Int×(List Xd)×(List Xb)×(List Xe)×(List Xc)×Int) (p:Int×(List Xd)×(List Xb)×(List Xe)×(List Xc)×Int×Int×Int×Int×Int×Int×Int×Int):EH Ty_:=([(1,.pt 1 [] 0 0),(2,.pt 2 [] 0 0),(6,.pt 6 [] 0 0),(7,.pt 7 [] 0 0),(8,.sc (.int .i64 p.1)),(9,.fn 25 [.pt 7 [] 0 0,.pt 6 [] 0 0]),(11,.pt 11 [] 0 0),(27,.im 2 x.List_),(28,.sc (.int .i64 (x.List_.length:Int))),(29,.sc (.int .i64 q1.2.1))],[(1,.lit 4 [[.im 3 x.Sign_,.im 1 x.Regs_,.im 4 x.Slots_,.im 2 x.List_]]),(2,.lit 4 [[.zs,.zs,.zs,.zs]]),(6,.lit 4 [[.ow false 3 p.2.1,.ow false 1 p.2.2.1,.ow false 4 p.2.2.2.1,.ow false 2 p.2.2.2.2.1]]),(7,.lit 1 [[.sc (.int .i64 p.2.2.2.2.2.1)]]),(11,.lit 7 [[.sc (.int .i64 p.2.2.2.2.2.2.1),.sc (.int .i64 p.2.2.2.2.2.2.2.1),.sc (.int .i64 p.2.2.2.2.2.2.2.2.1),.sc (.int .i64 p.2.2.2.2.2.2.2.2.2.1),.sc (.int .i64 p.2.2.2.2.2.2.2.2.2.2.1),.sc (.int .i64 p.2.2.2.2.2.2.2.2.2.2.2.1),.sc (.int .u32 p.2.2.2.2.2.2.2.2.2.2.2.2)]])])
noncomputable def g120_t1 (n:Nat) (x:Xf) (v1:Unit) (q1:Int×Int×(List Xd)×(List Xb)×(List Xe)×(List Xc)×Int):Pt P_ Ty_ [] (Bo (Int×Int×(List Xd)×(List Xb)×(List Xe)×(List Xc)×Int) (Int×Int×(List Xd)×(List Xb)×(List Xe)×(List Xc)×Int) ((List Xd)×(List Xb)×(List Xe)×(List Xc))):=.ite (decide (q1.2.1<(x.List_.length:Int))) (.bnd (idx x.List_ q1.2.1) fun y3=>.join (S:=Bool×Int×Int×Int×Int×Int×Int×Int) (g120_e1 x v1 q1) (.ite (y3.Op_==(36:Int)) (.leaf (.inl (true,y3.Op_,y3.D_,y3.A_,y3.B_,y3.C_,y3.N_,y3.Bits_))) (.leaf (.inl ((y3.Op_==(37:Int)),y3.Op_,y3.D_,y3.A_,y3.B_,y3.C_,y3.N_,y3.Bits_)))) fun s1=>.ite s1.1 (.leaf (.go (q1.1,(W_ (q1.2.1+(1:Int))),q1.2.2.1,q1.2.2.2.1,q1.2.2.2.2.1,q1.2.2.2.2.2.1,q1.2.2.2.2.2.2))) (.call (k146 n) (x,(⟨s1.2.1,s1.2.2.1,s1.2.2.2.1,s1.2.2.2.2.1,s1.2.2.2.2.2.1,s1.2.2.2.2.2.2.1,s1.2.2.2.2.2.2.2⟩:Xc)) fun (y4:Int×Bool)=>.join (S:=Int×Bool×(List Xd)×(List Xb)×(List Xe)×(List Xc)×Int×Int×Int×Int×Int×Int×Int×Int) (g120_e3 x v1 q1) (.join (S:=Int×Bool×Bool×Int×Int×Int×Int×Int×Int×Int) (g120_e2 x v1 q1) (.ite (!y4.2) (.leaf (.inl (y4.1,y4.2,true,s1.2.1,s1.2.2.1,s1.2.2.2.1,s1.2.2.2.2.1,s1.2.2.2.2.2.1,s1.2.2.2.2.2.2.1,s1.2.2.2.2.2.2.2))) (.leaf (.inl (y4.1,y4.2,(y4.1 != q1.2.2.2.2.2.2),s1.2.1,s1.2.2.1,s1.2.2.2.1,s1.2.2.2.2.1,s1.2.2.2.2.2.1,s1.2.2.2.2.2.2.1,s1.2.2.2.2.2.2.2)))) fun s2=>.ite s2.2.2.1 (.call (k145_1 n) (q1.2.2.2.2.2.2,q1.2.2.1,q1.2.2.2.1,q1.2.2.2.2.1,q1.2.2.2.2.2.1) fun (y5:Int×(List Xd)×(List Xb)×(List Xe)×(List Xc))=>.leaf (.inl (s2.1,s2.2.1,y5.2.1,y5.2.2.1,y5.2.2.2.1,y5.2.2.2.2,y5.1,s2.2.2.2.1,s2.2.2.2.2.1,s2.2.2.2.2.2.1,s2.2.2.2.2.2.2.1,s2.2.2.2.2.2.2.2.1,s2.2.2.2.2.2.2.2.2.1,s2.2.2.2.2.2.2.2.2.2))) (.leaf (.inl (s2.1,s2.2.1,q1.2.2.1,q1.2.2.2.1,q1.2.2.2.2.1,q1.2.2.2.2.2.1,q1.2.2.2.2.2.2,s2.2.2.2.1,s2.2.2.2.2.1,s2.2.2.2.2.2.1,s2.2.2.2.2.2.2.1,s2.2.2.2.2.2.2.2.1,s2.2.2.2.2.2.2.2.2.1,s2.2.2.2.2.2.2.2.2.2)))) fun s3=>.join (S:=(List Xd)×(List Xb)×(List Xe)×(List Xc)×Int×Int×Int×Int×Int×Int×Int×Int) (g120_e5 x v1 q1) (.join (S:=Int×Bool×(List Xd)×(List Xb)×(List Xe)×(List Xc)×Int×Int×Int×Int×Int×Int×Int×Int) (g120_e4 x v1 q1) (.ite s3.2.1 (.leaf (.inl (s3.1,(decide (s3.2.2.2.2.2.2.1<(0:Int))),s3.2.2.1,s3.2.2.2.1,s3.2.2.2.2.1,s3.2.2.2.2.2.1,s3.2.2.2.2.2.2.1,s3.2.2.2.2.2.2.2.1,s3.2.2.2.2.2.2.2.2.1,s3.2.2.2.2.2.2.2.2.2.1,s3.2.2.2.2.2.2.2.2.2.2.1,s3.2.2.2.2.2.2.2.2.2.2.2.1,s3.2.2.2.2.2.2.2.2.2.2.2.2.1,s3.2.2.2.2.2.2.2.2.2.2.2.2.2))) (.leaf (.inl (s3.1,false,s3.2.2.1,s3.2.2.2.1,s3.2.2.2.2.1,s3.2.2.2.2.2.1,s3.2.2.2.2.2.2.1,s3.2.2.2.2.2.2.2.1,s3.2.2.2.2.2.2.2.2.1,s3.2.2.2.2.2.2.2.2.2.1,s3.2.2.2.2.2.2.2.2.2.2.1,s3.2.2.2.2.2.2.2.2.2.2.2.1,s3.2.2.2.2.2.2.2.2.2.2.2.2.1,s3.2.2.2.2.2.2.2.2.2.2.2.2.2)))) fun s4=>.ite s4.2.1 (.need ((s4.2.2.2.2.2.1.length+([(⟨(36:Int),(0:Int),(0:Int),(0:Int),(0:Int),s4.1,(0:Int)⟩:Xc)]:List Xc).length) * 56≤140737488355328) (.leaf (.inl (s4.2.2.1,s4.2.2.2.1,s4.2.2.2.2.1,(s4.2.2.2.2.2.1++([(⟨(36:Int),(0:Int),(0:Int),(0:Int),(0:Int),s4.1,(0:Int)⟩:Xc)]:List Xc)),s4.1,s4.2.2.2.2.2.2.2.1,s4.2.2.2.2.2.2.2.2.1,s4.2.2.2.2.2.2.2.2.2.1,s4.2.2.2.2.2.2.2.2.2.2.1,s4.2.2.2.2.2.2.2.2.2.2.2.1,s4.2.2.2.2.2.2.2.2.2.2.2.2.1,s4.2.2.2.2.2.2.2.2.2.2.2.2.2)))) (.leaf (.inl (s4.2.2.1,s4.2.2.2.1,s4.2.2.2.2.1,s4.2.2.2.2.2.1,s4.2.2.2.2.2.2.1,s4.2.2.2.2.2.2.2.1,s4.2.2.2.2.2.2.2.2.1,s4.2.2.2.2.2.2.2.2.2.1,s4.2.2.2.2.2.2.2.2.2.2.1,s4.2.2.2.2.2.2.2.2.2.2.2.1,s4.2.2.2.2.2.2.2.2.2.2.2.2.1,s4.2.2.2.2.2.2.2.2.2.2.2.2.2)))) fun s5=>.join (S:=Int×(List Xd)×(List Xb)×(List Xe)×(List Xc)×Int×Int×Int×Int×Int×Int×Int×Int) (g120_e6 x v1 q1) (.ite (s5.2.2.2.2.2.1==(34:Int)) (.ite ((W_ (q1.1+(1:Int)))==(64:Int)) (.call (k144 n) x fun (y6:(List Xd)×(List Xb)×(List Xe)×(List Xc))=>.leaf (.inr (.ret (y6.1,y6.2.1,y6.2.2.1,y6.2.2.2)))) (.leaf (.inl ((W_ (q1.1+(1:Int))),s5.1,s5.2.1,s5.2.2.1,s5.2.2.2.1,s5.2.2.2.2.1,s5.2.2.2.2.2.1,s5.2.2.2.2.2.2.1,s5.2.2.2.2.2.2.2.1,s5.2.2.2.2.2.2.2.2.1,s5.2.2.2.2.2.2.2.2.2.1,s5.2.2.2.2.2.2.2.2.2.2.1,s5.2.2.2.2.2.2.2.2.2.2.2)))) (.ite (s5.2.2.2.2.2.1==(35:Int)) (.leaf (.inl ((W_ (q1.1 - (1:Int))),s5.1,s5.2.1,s5.2.2.1,s5.2.2.2.1,s5.2.2.2.2.1,s5.2.2.2.2.2.1,s5.2.2.2.2.2.2.1,s5.2.2.2.2.2.2.2.1,s5.2.2.2.2.2.2.2.2.1,s5.2.2.2.2.2.2.2.2.2.1,s5.2.2.2.2.2.2.2.2.2.2.1,s5.2.2.2.2.2.2.2.2.2.2.2))) (.leaf (.inl (q1.1,s5.1,s5.2.1,s5.2.2.1,s5.2.2.2.1,s5.2.2.2.2.1,s5.2.2.2.2.2.1,s5.2.2.2.2.2.2.1,s5.2.2.2.2.2.2.2.1,s5.2.2.2.2.2.2.2.2.1,s5.2.2.2.2.2.2.2.2.2.1,s5.2.2.2.2.2.2.2.2.2.2.1,s5.2.2.2.2.2.2.2.2.2.2.2))))) fun s6=>.need ((s6.2.2.2.2.1.length+([(⟨s6.2.2.2.2.2.2.1,s6.2.2.2.2.2.2.2.1,s6.2.2.2.2.2.2.2.2.1,s6.2.2.2.2.2.2.2.2.2.1,s6.2.2.2.2.2.2.2.2.2.2.1,s6.2.2.2.2.2.2.2.2.2.2.2.1,s6.2.2.2.2.2.2.2.2.2.2.2.2⟩:Xc)]:List Xc).length) * 56≤140737488355328) (.leaf (.go (s6.1,(W_ (q1.2.1+(1:Int))),s6.2.1,s6.2.2.1,s6.2.2.2.1,(s6.2.2.2.2.1++([(⟨s6.2.2.2.2.2.2.1,s6.2.2.2.2.2.2.2.1,s6.2.2.2.2.2.2.2.2.1,s6.2.2.2.2.2.2.2.2.2.1,s6.2.2.2.2.2.2.2.2.2.2.1,s6.2.2.2.2.2.2.2.2.2.2.2.1,s6.2.2.2.2.2.2.2.2.2.2.2.2⟩:Xc)]:List Xc)),s6.2.2.2.2.2.1))))) (.leaf (.out (q1.1,q1.2.1,q1.2.2.1,q1.2.2.2.1,q1.2.2.2.2.1,q1.2.2.2.2.2.1,q1.2.2.2.2.2.2)))
noncomputable def g120_L1 (n:Nat) (x:Xf) (v1:Unit):LCon P_ Ty_ []:=lcon (X:=Int×Int×(List Xd)×(List Xb)×(List Xe)×(List Xc)×Int) (Y:=Int×Int×(List Xd)×(List Xb)×(List Xe)×(List Xc)×Int) (Z:=(List Xd)×(List Xb)×(List Xe)×(List Xc)) (g120_c n) (subC [1,1,1,1,1,1,0,1,0,0] (fnC P_ 9 g120_k)) (fun q1=>.two .no (.two .no (.two (.two (.two .no (.two (.join (Bool×Int×Int×Int×Int×Int×Int×Int) (g120_e1 x v1 q1) ⟨[(1,.ref 1),(2,.ref 2),(6,.ref 6),(7,.ref 7),(8,.any),(9,.fn [.ref 7,.ref 6]),(11,.ref 11),(27,.im 2),(28,.any),(29,.any),(40,.any)],[(1,.any),(2,.any),(6,.any),(7,.any),(11,.any)]⟩ .no .no) (.two .no (.join (Int×Bool×(List Xd)×(List Xb)×(List Xe)×(List Xc)×Int×Int×Int×Int×Int×Int×Int×Int) (g120_e3 x v1 q1) ⟨[(1,.ref 1),(2,.ref 2),(6,.ref 6),(7,.ref 7),(8,.any),(9,.fn [.ref 7,.ref 6]),(11,.ref 11),(12,.any),(13,.any),(27,.im 2),(28,.any),(29,.any)],[(1,.any),(2,.any),(6,.any),(7,.any),(11,.any)]⟩ (.join (Int×Bool×Bool×Int×Int×Int×Int×Int×Int×Int) (g120_e2 x v1 q1) ⟨[(1,.ref 1),(2,.ref 2),(6,.ref 6),(7,.ref 7),(8,.any),(9,.fn [.ref 7,.ref 6]),(11,.ref 11),(12,.any),(13,.any),(27,.im 2),(28,.any),(29,.any),(53,.any)],[(1,.any),(2,.any),(6,.any),(7,.any),(11,.any)]⟩ .no .no) (.join ((List Xd)×(List Xb)×(List Xe)×(List Xc)×Int×Int×Int×Int×Int×Int×Int×Int) (g120_e5 x v1 q1) ⟨[(1,.ref 1),(2,.ref 2),(6,.ref 6),(7,.ref 7),(8,.any),(9,.fn [.ref 7,.ref 6]),(11,.ref 11),(27,.im 2),(28,.any),(29,.any)],[(1,.any),(2,.any),(6,.any),(7,.any),(11,.any)]⟩ (.join (Int×Bool×(List Xd)×(List Xb)×(List Xe)×(List Xc)×Int×Int×Int×Int×Int×Int×Int×Int) (g120_e4 x v1 q1) ⟨[(1,.ref 1),(2,.ref 2),(6,.ref 6),(7,.ref 7),(8,.any),(9,.fn [.ref 7,.ref 6]),(11,.ref 11),(12,.any),(27,.im 2),(28,.any),(29,.any),(60,.any)],[(1,.any),(2,.any),(6,.any),(7,.any),(11,.any)]⟩ .no .no) (.join (Int×(List Xd)×(List Xb)×(List Xe)×(List Xc)×Int×Int×Int×Int×Int×Int×Int×Int) (g120_e6 x v1 q1) ⟨[(1,.ref 1),(2,.ref 2),(6,.ref 6),(7,.ref 7),(8,.any),(9,.fn [.ref 7,.ref 6]),(11,.ref 11),(27,.im 2),(28,.any),(29,.any)],[(1,.any),(2,.any),(6,.any),(7,.any),(11,.any)]⟩ .no .no)))))) .no) .no))) 0 true ⟨[(1,.ref 1),(2,.ref 2),(6,.ref 6),(7,.ref 7),(8,.any),(9,.fn [.ref 7,.ref 6]),(27,.im 2),(28,.any),(29,.any)],[(1,.any),(2,.any),(6,.fix [.no,.no,.no,.ow false 2]),(7,.any)]⟩ ⟨[(1,.ref 1),(2,.ref 2),(6,.ref 6),(7,.ref 7),(8,.any),(9,.fn [.ref 7,.ref 6]),(27,.im 2),(28,.any),(29,.any),(30,.any)],[(1,.any),(2,.any),(6,.any),(7,.any)]⟩ ⟨[(2,.ref 2),(3,.any)],[(2,.any)]⟩ (fun q1=>([(1,.pt 1 [] 0 0),(2,.pt 2 [] 0 0),(6,.pt 6 [] 0 0),(7,.pt 7 [] 0 0),(8,.sc (.int .i64 q1.1)),(9,.fn 25 [.pt 7 [] 0 0,.pt 6 [] 0 0]),(27,.im 2 x.List_),(28,.sc (.int .i64 (x.List_.length:Int))),(29,.sc (.int .i64 q1.2.1))],[(1,.lit 4 [[.im 3 x.Sign_,.im 1 x.Regs_,.im 4 x.Slots_,.im 2 x.List_]]),(2,.lit 4 [[.zs,.zs,.zs,.zs]]),(6,.lit 4 [[.ow false 3 q1.2.2.1,.ow false 1 q1.2.2.2.1,.ow false 4 q1.2.2.2.2.1,.ow false 2 q1.2.2.2.2.2.1]]),(7,.lit 1 [[.sc (.int .i64 q1.2.2.2.2.2.2)]])])) (fun p=>([(1,.pt 1 [] 0 0),(2,.pt 2 [] 0 0),(6,.pt 6 [] 0 0),(7,.pt 7 [] 0 0),(8,.sc (.int .i64 p.1)),(9,.fn 25 [.pt 7 [] 0 0,.pt 6 [] 0 0]),(27,.im 2 x.List_),(28,.sc (.int .i64 (x.List_.length:Int))),(29,.sc (.int .i64 p.2.1)),(30,.sc (.bool false))],[(1,.lit 4 [[.im 3 x.Sign_,.im 1 x.Regs_,.im 4 x.Slots_,.im 2 x.List_]]),(2,.lit 4 [[.zs,.zs,.zs,.zs]]),(6,.lit 4 [[.ow false 3 p.2.2.1,.ow false 1 p.2.2.2.1,.ow false 4 p.2.2.2.2.1,.ow false 2 p.2.2.2.2.2.1]]),(7,.lit 1 [[.sc (.int .i64 p.2.2.2.2.2.2)]])])) (fun p=>([(2,.pt 2 [] 0 0),(3,.sc (.int .i64 (0:Int)))],[(2,.lit 4 [[.ow false 3 p.1,.ow false 1 p.2.1,.ow false 4 p.2.2.1,.ow false 2 p.2.2.2]])])) n (g120_t1 n x v1) (fun h=>nomatch h) (fun q1=>by kernel_rfl)
noncomputable def g120_t (n:Nat) (x:Xf):Pt P_ Ty_ [] (Int×(List Xd)×(List Xb)×(List Xe)×(List Xc)):=.call (k16 n) x fun (y1:Int×Int)=>.ite (y1.1 != (0:Int)) (.leaf ((160:Int),([]:List Xd),([]:List Xb),([]:List Xe),([]:List Xc))) (.call (k144 n) x fun (y2:(List Xd)×(List Xb)×(List Xe)×(List Xc))=>.loopR (V:=Unit) (g120_L1 n x) () ((0:Int),(0:Int),y2.1,y2.2.1,y2.2.2.1,([]:List Xc),(-1:Int)) (fun (v1:Unit) (y7:Int×Int×(List Xd)×(List Xb)×(List Xe)×(List Xc)×Int)=>.call (k145_1 n) (y7.2.2.2.2.2.2,y7.2.2.1,y7.2.2.2.1,y7.2.2.2.2.1,y7.2.2.2.2.2.1) fun (y8:Int×(List Xd)×(List Xb)×(List Xe)×(List Xc))=>.ite (decide ((y8.2.2.2.2.length:Int) > (32768:Int))) (.call (k144 n) x fun (y9:(List Xd)×(List Xb)×(List Xe)×(List Xc))=>.leaf ((0:Int),y9.1,y9.2.1,y9.2.2.1,y9.2.2.2)) (.leaf ((0:Int),y8.2.1,y8.2.2.1,y8.2.2.2.1,y8.2.2.2.2))) fun (v1:Unit) (z1:(List Xd)×(List Xb)×(List Xe)×(List Xc))=>.leaf ((0:Int),z1.1,z1.2.1,z1.2.2.1,z1.2.2.2))
noncomputable def k120 (n:Nat):Con P_ Ty_:=conOf (X:=Xf) (R:=Int×(List Xd)×(List Xb)×(List Xe)×(List Xc)) (pro:=[]) (g120_c n) 9 g120_k (by kernel_rfl) (fun x=>.two .no (.two .no (.two .no (.two .no (.two .no (.two .no (.two (.two .no (.two (.loop Unit (g120_L1 n x) true ⟨[(1,.ref 1),(2,.ref 2),(6,.ref 6),(7,.ref 7),(8,.any),(9,.fn [.ref 7,.ref 6]),(27,.im 2),(28,.any),(29,.any)],[(1,.any),(2,.any),(6,.fix [.no,.no,.no,.ow false 2]),(7,.any)]⟩) .no)) .no))))))) [.ag [.im 3,.im 1,.im 4,.im 2]] [] [100000] ⟨[(2,.ref 100000),(3,.any)],[(100000,.fix [.ow false 3,.ow false 1,.ow false 4,.ow false 2])]⟩ [100000] true (fun x=>[.ag [.im 3 x.Sign_,.im 1 x.Regs_,.im 4 x.Slots_,.im 2 x.List_]]) (fun x=>[]) (fun y=>([(2,.pt 100000 [] 0 0),(3,.sc (.int .i64 y.1))],[(100000,.lit 4 [[.ow false 3 y.2.1,.ow false 1 y.2.2.1,.ow false 4 y.2.2.2.1,.ow false 2 y.2.2.2.2]])])) (fun y=>.tu [.ag [.sw 100000 [(0,0)],.sw 100000 [(0,1)],.sw 100000 [(0,2)],.sw 100000 [(0,3)]],.sc (.int .i64 y.1)]) (fun y=>[(100000,.lit 4 [[.ow false 3 y.2.1,.ow false 1 y.2.2.1,.ow false 4 y.2.2.2.1,.ow false 2 y.2.2.2.2]])]) (g120_t n) (fun x=>by kernel_rfl) (fun x=>by kernel_rfl) (by kernel_rfl) (fun y=>by kernel_rfl) (fun _ y=>by kernel_rfl)
noncomputable def g63_c (n:Nat):Cx P_ Ty_:=⟨[],[],[],[]⟩
abbrev g63_k:List (List Nat):=[[0],[0,11],[2],[0,3],[0,3,15],[0,3,4],[0,3,59],[2],[0,3],[2]]
noncomputable def g63_e1 (x:ByteArray) (p:Bool):EH Ty_:=([(0,.sc (.string x)),(11,.sc (.bool p))],[])
noncomputable def g63_e2 (x:ByteArray) (v1:Unit) (q1:Int) (p:Bool):EH Ty_:=([(0,.sc (.string x)),(3,.sc (.int .i64 q1)),(59,.sc (.bool p))],[])
noncomputable def g63_t1 (n:Nat) (x:ByteArray) (v1:Unit) (q1:Int):Pt P_ Ty_ [] (Bo Int Int Unit):=.ite (decide (q1<(x.size:Int))) (.need (0≤q1∧q1<(x.size:Int)) (.join (S:=Bool) (g63_e2 x v1 q1) (.ite (decide ((byteAt x q1)≥(97:Int))) (.ite (decide ((byteAt x q1)≤(122:Int))) (.leaf (.inl false)) (.ite (decide ((byteAt x q1)≥(65:Int))) (.ite (decide ((byteAt x q1)≤(90:Int))) (.leaf (.inl false)) (.ite (decide ((byteAt x q1)≥(48:Int))) (.ite (decide ((byteAt x q1)≤(57:Int))) (.leaf (.inl false)) (.ite ((byteAt x q1)==(95:Int)) (.leaf (.inl false)) (.ite ((byteAt x q1)==(46:Int)) (.leaf (.inl false)) (.ite ((byteAt x q1)==(47:Int)) (.leaf (.inl false)) (.leaf (.inl (!((byteAt x q1)==(45:Int))))))))) (.ite ((byteAt x q1)==(95:Int)) (.leaf (.inl false)) (.ite ((byteAt x q1)==(46:Int)) (.leaf (.inl false)) (.ite ((byteAt x q1)==(47:Int)) (.leaf (.inl false)) (.leaf (.inl (!((byteAt x q1)==(45:Int)))))))))) (.ite (decide ((byteAt x q1)≥(48:Int))) (.ite (decide ((byteAt x q1)≤(57:Int))) (.leaf (.inl false)) (.ite ((byteAt x q1)==(95:Int)) (.leaf (.inl false)) (.ite ((byteAt x q1)==(46:Int)) (.leaf (.inl false)) (.ite ((byteAt x q1)==(47:Int)) (.leaf (.inl false)) (.leaf (.inl (!((byteAt x q1)==(45:Int))))))))) (.ite ((byteAt x q1)==(95:Int)) (.leaf (.inl false)) (.ite ((byteAt x q1)==(46:Int)) (.leaf (.inl false)) (.ite ((byteAt x q1)==(47:Int)) (.leaf (.inl false)) (.leaf (.inl (!((byteAt x q1)==(45:Int))))))))))) (.ite (decide ((byteAt x q1)≥(65:Int))) (.ite (decide ((byteAt x q1)≤(90:Int))) (.leaf (.inl false)) (.ite (decide ((byteAt x q1)≥(48:Int))) (.ite (decide ((byteAt x q1)≤(57:Int))) (.leaf (.inl false)) (.ite ((byteAt x q1)==(95:Int)) (.leaf (.inl false)) (.ite ((byteAt x q1)==(46:Int)) (.leaf (.inl false)) (.ite ((byteAt x q1)==(47:Int)) (.leaf (.inl false)) (.leaf (.inl (!((byteAt x q1)==(45:Int))))))))) (.ite ((byteAt x q1)==(95:Int)) (.leaf (.inl false)) (.ite ((byteAt x q1)==(46:Int)) (.leaf (.inl false)) (.ite ((byteAt x q1)==(47:Int)) (.leaf (.inl false)) (.leaf (.inl (!((byteAt x q1)==(45:Int)))))))))) (.ite (decide ((byteAt x q1)≥(48:Int))) (.ite (decide ((byteAt x q1)≤(57:Int))) (.leaf (.inl false)) (.ite ((byteAt x q1)==(95:Int)) (.leaf (.inl false)) (.ite ((byteAt x q1)==(46:Int)) (.leaf (.inl false)) (.ite ((byteAt x q1)==(47:Int)) (.leaf (.inl false)) (.leaf (.inl (!((byteAt x q1)==(45:Int))))))))) (.ite ((byteAt x q1)==(95:Int)) (.leaf (.inl false)) (.ite ((byteAt x q1)==(46:Int)) (.leaf (.inl false)) (.ite ((byteAt x q1)==(47:Int)) (.leaf (.inl false)) (.leaf (.inl (!((byteAt x q1)==(45:Int))))))))))) fun s2=>.ite s2 (.leaf (.ret ())) (.leaf (.go (W_ (q1+(1:Int))))))) (.leaf (.out q1))
noncomputable def g63_L1 (n:Nat) (x:ByteArray) (v1:Unit):LCon P_ Ty_ []:=lcon (X:=Int) (Y:=Int) (Z:=Unit) (g63_c n) (subC [1,1,0,1,0,0] (fnC P_ 84 g63_k)) (fun q1=>.two .no (.two (.two (.two .no (.join Bool (g63_e2 x v1 q1) ⟨[(0,.any),(3,.any),(59,.any)],[]⟩ .no .no)) .no) .no)) 0 true ⟨[(0,.any),(3,.any)],[]⟩ ⟨[(0,.any),(3,.any),(15,.any)],[]⟩ ⟨[(2,.any)],[]⟩ (fun q1=>([(0,.sc (.string x)),(3,.sc (.int .i64 q1))],[])) (fun p=>([(0,.sc (.string x)),(3,.sc (.int .i64 p)),(15,.sc (.bool false))],[])) (fun p=>([(2,.sc (.bool false))],[])) n (g63_t1 n x v1) (fun h=>nomatch h) (fun q1=>by kernel_rfl)
noncomputable def g63_t (n:Nat) (x:ByteArray):Pt P_ Ty_ [] Bool:=.join (S:=Bool) (g63_e1 x) (.ite (x==(⟨#[]⟩:ByteArray)) (.leaf (.inl true)) (.leaf (.inl (decide ((x.size:Int) > (64:Int)))))) fun s1=>.ite s1 (.leaf false) (.loopR (V:=Unit) (g63_L1 n x) () (0:Int) (fun (v1:Unit) (y1:Int)=>.leaf true) fun (v1:Unit) (z1:Unit)=>.leaf false)
noncomputable def k63 (n:Nat):Con P_ Ty_:=conOf (X:=ByteArray) (R:=Bool) (pro:=[]) (g63_c n) 84 g63_k (by kernel_rfl) (fun x=>.two .no (.two (.join Bool (g63_e1 x) ⟨[(0,.any),(11,.any)],[]⟩ .no .no) (.two (.two .no (.two (.loop Unit (g63_L1 n x) true ⟨[(0,.any),(3,.any)],[]⟩) .no)) .no))) [.any] [] [] ⟨[(2,.any)],[]⟩ [] true (fun x=>[.sc (.string x)]) (fun x=>[]) (fun y=>([(2,.sc (.bool y))],[])) (fun y=>.sc (.bool y)) (fun y=>[]) (g63_t n) (fun x=>by kernel_rfl) (fun x=>by kernel_rfl) (by kernel_rfl) (fun y=>by kernel_rfl) (fun _ y=>by kernel_rfl)
noncomputable def g55_c (n:Nat):Cx P_ Ty_:=⟨[k63 n],[],[],[]⟩
abbrev g55_k:List (List Nat):=[[1],[2]]
noncomputable def g55_t (n:Nat) (x:Xd):Pt P_ Ty_ [] Bool:=.call (k63 n) x.Name_ fun (y1:Bool)=>.ite y1 (.ite (x.Kind_==(1:Int)) (.ite (decide (x.Len_≥(1:Int))) (.leaf (decide (x.Len_≤(4096:Int)))) (.leaf false)) (.ite (x.Kind_==(2:Int)) (.ite (decide (x.Len_≥(1:Int))) (.leaf (decide (x.Len_≤(4096:Int)))) (.leaf false)) (.leaf false))) (.leaf false)
noncomputable def k55 (n:Nat):Con P_ Ty_:=conOf (X:=Xd) (R:=Bool) (pro:=[]) (g55_c n) 70 g55_k (by kernel_rfl) (fun x=>.no) [.ag [.any,.any,.any]] [] [] ⟨[(2,.any)],[]⟩ [] true (fun x=>[.ag [.sc (.string x.Name_),.sc (.int .i64 x.Kind_),.sc (.int .i64 x.Len_)]]) (fun x=>[]) (fun y=>([(2,.sc (.bool y))],[])) (fun y=>.sc (.bool y)) (fun y=>[]) (g55_t n) (fun x=>by kernel_rfl) (fun x=>by kernel_rfl) (by kernel_rfl) (fun y=>by kernel_rfl) (fun _ y=>by kernel_rfl)
noncomputable def g56_c (n:Nat):Cx P_ Ty_:=⟨[],[],[],[]⟩
abbrev g56_k:List (List Nat):=[[0,1],[0,1,6],[0,1,6,10],[0,1,6,19],[4,5],[0,1,6],[4,5]]
noncomputable def g56_t1 (n:Nat) (x:(List Xd)×ByteArray) (v1:Unit) (q1:Int):Pt P_ Ty_ [] (Bo Int Int Int):=.ite (decide (q1<(x.1.length:Int))) (.bnd (idx x.1 q1) fun y1=>.ite (y1.Name_==x.2) (.leaf (.ret q1)) (.leaf (.go (W_ (q1+(1:Int)))))) (.leaf (.out q1))
noncomputable def g56_L1 (n:Nat) (x:(List Xd)×ByteArray) (v1:Unit):LCon P_ Ty_ []:=lcon (X:=Int) (Y:=Int) (Z:=Int) (g56_c n) (subC [1,0,1,0,0] (fnC P_ 71 g56_k)) (fun q1=>.no) 0 true ⟨[(0,.im 3),(1,.any),(6,.any)],[]⟩ ⟨[(0,.im 3),(1,.any),(6,.any),(10,.any)],[]⟩ ⟨[(4,.any),(5,.any)],[]⟩ (fun q1=>([(0,.im 3 x.1),(1,.sc (.string x.2)),(6,.sc (.int .i64 q1))],[])) (fun p=>([(0,.im 3 x.1),(1,.sc (.string x.2)),(6,.sc (.int .i64 p)),(10,.sc (.bool false))],[])) (fun p=>([(4,.sc (.int .i64 p)),(5,.sc (.bool true))],[])) n (g56_t1 n x v1) (fun h=>nomatch h) (fun q1=>by kernel_rfl)
noncomputable def g56_t (n:Nat) (x:(List Xd)×ByteArray):Pt P_ Ty_ [] (Int×Bool):=.loopR (V:=Unit) (g56_L1 n x) () (0:Int) (fun (v1:Unit) (y2:Int)=>.leaf ((0:Int),false)) fun (v1:Unit) (z1:Int)=>.leaf (z1,true)
noncomputable def k56 (n:Nat):Con P_ Ty_:=conOf (X:=(List Xd)×ByteArray) (R:=Int×Bool) (pro:=[]) (g56_c n) 71 g56_k (by kernel_rfl) (fun x=>.two .no (.two (.two .no (.two (.loop Unit (g56_L1 n x) true ⟨[(0,.im 3),(1,.any),(6,.any)],[]⟩) .no)) .no)) [.im 3,.any] [] [] ⟨[(4,.any),(5,.any)],[]⟩ [] true (fun x=>[.im 3 x.1,.sc (.string x.2)]) (fun x=>[]) (fun y=>([(4,.sc (.int .i64 y.1)),(5,.sc (.bool y.2))],[])) (fun y=>.tu [.sc (.int .i64 y.1),.sc (.bool y.2)]) (fun y=>[]) (g56_t n) (fun x=>by kernel_rfl) (fun x=>by kernel_rfl) (by kernel_rfl) (fun y=>by kernel_rfl) (fun _ y=>by kernel_rfl)
noncomputable def g64_c (n:Nat):Cx P_ Ty_:=⟨[k55 n],[],[],[]⟩
abbrev g64_k:List (List Nat):=[[1],[1,3],[2],[1,7],[2],[2]]
noncomputable def g64_t (n:Nat) (x:Xd):Pt P_ Ty_ [] Int:=.call (k55 n) x fun (y1:Bool)=>.ite (!y1) (.leaf (0:Int)) (.ite (x.Kind_==(2:Int)) (.leaf (W_ ((2:Int) * x.Len_))) (.leaf x.Len_))
noncomputable def k64 (n:Nat):Con P_ Ty_:=conOf (X:=Xd) (R:=Int) (pro:=[]) (g64_c n) 85 g64_k (by kernel_rfl) (fun x=>.no) [.ag [.any,.any,.any]] [] [] ⟨[(2,.any)],[]⟩ [] true (fun x=>[.ag [.sc (.string x.Name_),.sc (.int .i64 x.Kind_),.sc (.int .i64 x.Len_)]]) (fun x=>[]) (fun y=>([(2,.sc (.int .i64 y))],[])) (fun y=>.sc (.int .i64 y)) (fun y=>[]) (g64_t n) (fun x=>by kernel_rfl) (fun x=>by kernel_rfl) (by kernel_rfl) (fun y=>by kernel_rfl) (fun _ y=>by kernel_rfl)
noncomputable def g57_c (n:Nat):Cx P_ Ty_:=⟨[k64 n],[],[],[]⟩
abbrev g57_k:List (List Nat):=[[0],[0,3],[0,3,4],[0,3,4,8],[0,3,4],[0,3,4],[2]]
noncomputable def g57_t1 (n:Nat) (x:(List Xd)) (v1:Unit) (q1:Int×Int):Pt P_ Ty_ [] (Bo (Int×Int) (Int×Int) Empty):=.ite (decide (q1.2<(x.length:Int))) (.bnd (idx x q1.2) fun y1=>.call (k64 n) y1 fun (y2:Int)=>.leaf (.go ((W_ (q1.1+y2)),(W_ (q1.2+(1:Int)))))) (.leaf (.out (q1.1,q1.2)))
noncomputable def g57_L1 (n:Nat) (x:(List Xd)) (v1:Unit):LCon P_ Ty_ []:=lcon (X:=Int×Int) (Y:=Int×Int) (Z:=Empty) (g57_c n) (subC [1,1,0,1,0,0] (fnC P_ 72 g57_k)) (fun q1=>.no) 0 false ⟨[(0,.im 3),(3,.any),(4,.any)],[]⟩ ⟨[(0,.im 3),(3,.any),(4,.any),(8,.any)],[]⟩ ⟨[],[]⟩ (fun q1=>([(0,.im 3 x),(3,.sc (.int .i64 q1.1)),(4,.sc (.int .i64 q1.2))],[])) (fun p=>([(0,.im 3 x),(3,.sc (.int .i64 p.1)),(4,.sc (.int .i64 p.2)),(8,.sc (.bool false))],[])) (fun p=>nomatch p) n (g57_t1 n x v1) (fun _ z=>nomatch z) (fun q1=>by kernel_rfl)
noncomputable def g57_t (n:Nat) (x:(List Xd)):Pt P_ Ty_ [] Int:=.loop (V:=Unit) (g57_L1 n x) () ((0:Int),(0:Int)) fun (v1:Unit) (y3:Int×Int)=>.leaf y3.1
noncomputable def k57 (n:Nat):Con P_ Ty_:=conOf (X:=(List Xd)) (R:=Int) (pro:=[]) (g57_c n) 72 g57_k (by kernel_rfl) (fun x=>.two .no (.two .no (.two (.two .no (.two (.loop Unit (g57_L1 n x) false ⟨[(0,.im 3),(3,.any),(4,.any)],[]⟩) .no)) .no))) [.im 3] [] [] ⟨[(2,.any)],[]⟩ [] true (fun x=>[.im 3 x]) (fun x=>[]) (fun y=>([(2,.sc (.int .i64 y))],[])) (fun y=>.sc (.int .i64 y)) (fun y=>[]) (g57_t n) (fun x=>by kernel_rfl) (fun x=>by kernel_rfl) (by kernel_rfl) (fun y=>by kernel_rfl) (fun _ y=>by kernel_rfl)
noncomputable def g38_c (n:Nat):Cx P_ Ty_:=⟨[k55 n,k56 n,k57 n],[],[],[]⟩
abbrev g38_k:List (List Nat):=[[0],[0,9],[2],[0,3],[0,3,13],[0,3,21],[2],[0,3],[0,4],[0,4,25],[0,4,5],[0,4,40],[2],[0,4],[43],[2],[2]]
noncomputable def g38_t1 (n:Nat) (x:(List Xd)) (v1:Unit) (q1:Int):Pt P_ Ty_ [] (Bo Int Int Unit):=.ite (decide (q1<(x.length:Int))) (.bnd (idx x q1) fun y1=>.call (k55 n) y1 fun (y2:Bool)=>.ite (!y2) (.leaf (.ret ())) (.leaf (.go (W_ (q1+(1:Int)))))) (.leaf (.out q1))
noncomputable def g38_L1 (n:Nat) (x:(List Xd)) (v1:Unit):LCon P_ Ty_ []:=lcon (X:=Int) (Y:=Int) (Z:=Unit) (g38_c n) (subC [1,1,0,1,0,0] (fnC P_ 50 g38_k)) (fun q1=>.no) 0 true ⟨[(0,.im 3),(3,.any)],[]⟩ ⟨[(0,.im 3),(3,.any),(13,.any)],[]⟩ ⟨[(2,.any)],[]⟩ (fun q1=>([(0,.im 3 x),(3,.sc (.int .i64 q1))],[])) (fun p=>([(0,.im 3 x),(3,.sc (.int .i64 p)),(13,.sc (.bool false))],[])) (fun p=>([(2,.sc (.int .i64 (100:Int)))],[])) n (g38_t1 n x v1) (fun h=>nomatch h) (fun q1=>by kernel_rfl)
noncomputable def g38_t2 (n:Nat) (x:(List Xd)) (v2:Unit) (q2:Int):Pt P_ Ty_ [] (Bo Int Int Unit):=.ite (decide (q2<(x.length:Int))) (.bnd (idx x q2) fun y4=>.call (k56 n) (x,y4.Name_) fun (y5:Int×Bool)=>.ite (y5.1 != q2) (.leaf (.ret ())) (.leaf (.go (W_ (q2+(1:Int)))))) (.leaf (.out q2))
noncomputable def g38_L2 (n:Nat) (x:(List Xd)) (v2:Unit):LCon P_ Ty_ []:=lcon (X:=Int) (Y:=Int) (Z:=Unit) (g38_c n) (subC [1,1,1,0,1,0,0] (fnC P_ 50 g38_k)) (fun q2=>.no) 2 true ⟨[(0,.im 3),(4,.any)],[]⟩ ⟨[(0,.im 3),(4,.any),(25,.any)],[]⟩ ⟨[(2,.any)],[]⟩ (fun q2=>([(0,.im 3 x),(4,.sc (.int .i64 q2))],[])) (fun p=>([(0,.im 3 x),(4,.sc (.int .i64 p)),(25,.sc (.bool false))],[])) (fun p=>([(2,.sc (.int .i64 (101:Int)))],[])) n (g38_t2 n x v2) (fun h=>nomatch h) (fun q2=>by kernel_rfl)
noncomputable def g38_t (n:Nat) (x:(List Xd)):Pt P_ Ty_ [] Int:=.ite (decide ((x.length:Int) > (64:Int))) (.leaf (2:Int)) (.loopR (V:=Unit) (g38_L1 n x) () (0:Int) (fun (v1:Unit) (y3:Int)=>.loopR (V:=Unit) (g38_L2 n x) () (0:Int) (fun (v2:Unit) (y6:Int)=>.call (k57 n) x fun (y7:Int)=>.ite (decide (y7 > (65536:Int))) (.leaf (102:Int)) (.leaf (0:Int))) fun (v2:Unit) (z2:Unit)=>.leaf (101:Int)) fun (v1:Unit) (z1:Unit)=>.leaf (100:Int))
noncomputable def k38 (n:Nat):Con P_ Ty_:=conOf (X:=(List Xd)) (R:=Int) (pro:=[]) (g38_c n) 50 g38_k (by kernel_rfl) (fun x=>.two .no (.two .no (.two (.two .no (.two (.loop Unit (g38_L1 n x) true ⟨[(0,.im 3),(3,.any)],[]⟩) .no)) (.two (.two .no (.two (.loop Unit (g38_L2 n x) true ⟨[(0,.im 3),(4,.any)],[]⟩) .no)) .no)))) [.im 3] [] [] ⟨[(2,.any)],[]⟩ [] true (fun x=>[.im 3 x]) (fun x=>[]) (fun y=>([(2,.sc (.int .i64 y))],[])) (fun y=>.sc (.int .i64 y)) (fun y=>[]) (g38_t n) (fun x=>by kernel_rfl) (fun x=>by kernel_rfl) (by kernel_rfl) (fun y=>by kernel_rfl) (fun _ y=>by kernel_rfl)
noncomputable def g39_c (n:Nat):Cx P_ Ty_:=⟨[],[],[],[]⟩
abbrev g39_k:List (List Nat):=[[1,2],[1,2,7],[4],[4]]
noncomputable def g39_t (n:Nat) (x:Xb×(List Xd)):Pt P_ Ty_ [] Bool:=.ite (x.1.Kind_==(3:Int)) (.ite (decide (x.1.Param_≥(0:Int))) (.leaf (decide (x.1.Param_<(x.2.length:Int)))) (.leaf false)) (.ite (x.1.Kind_==(1:Int)) (.leaf (x.1.Param_==(0:Int))) (.ite (x.1.Kind_==(2:Int)) (.leaf (x.1.Param_==(0:Int))) (.leaf false)))
noncomputable def k39 (n:Nat):Con P_ Ty_:=conOf (X:=Xb×(List Xd)) (R:=Bool) (pro:=[]) (g39_c n) 51 g39_k (by kernel_rfl) (fun x=>.no) [.ag [.any,.any],.im 3] [] [] ⟨[(4,.any)],[]⟩ [] true (fun x=>[.ag [.sc (.int .i64 x.1.Kind_),.sc (.int .i64 x.1.Param_)],.im 3 x.2]) (fun x=>[]) (fun y=>([(4,.sc (.bool y))],[])) (fun y=>.sc (.bool y)) (fun y=>[]) (g39_t n) (fun x=>by kernel_rfl) (fun x=>by kernel_rfl) (by kernel_rfl) (fun y=>by kernel_rfl) (fun _ y=>by kernel_rfl)
noncomputable def g69_c (n:Nat):Cx P_ Ty_:=⟨[],[],[],[]⟩
abbrev g69_k:List (List Nat):=[[0,2],[2,3],[2,3,4],[2,3,4,5],[2,4,5,6],[2,4,5,6,25],[2,4,6],[2,4],[2,4,5,6,34],[2,4],[2,4],[2,4,5],[2,4],[2]]
noncomputable def g69_e1 (x:Int) (p:Int×Int×Bool×Bool):EH Ty_:=([(2,.pt 2 [] 0 0),(4,.pt 4 [] 0 0)],[(2,.lit 5 [[.sc (.bool false),.sc (.int .u64 (0:Int)),.sc (.int .i64 (0:Int)),.sc (.bool false),.sc (.bool false)]]),(4,.lit 5 [[.sc (.bool (((IntKind.u64.wrap x).fdiv (2 ^ min (31:Int).toNat IntKind.u64.bits))==(1:Int))),.sc (.int .u64 p.1),.sc (.int .i64 p.2.1),.sc (.bool p.2.2.1),.sc (.bool p.2.2.2)]])])
noncomputable def g69_t (n:Nat) (x:Int):Pt P_ Ty_ [] (Bool×Int×Int×Bool×Bool):=.join (S:=Int×Int×Bool×Bool) (g69_e1 x) (.ite ((W_ (IntKind.u64.wrap (BitVec.ofInt IntKind.u64.bits ((IntKind.u64.wrap x).fdiv (2 ^ min (23:Int).toNat IntKind.u64.bits)) &&& BitVec.ofInt IntKind.u64.bits (255:Int)).toNat))==(255:Int)) (.leaf (.inl ((0:Int),(0:Int),((IntKind.u64.wrap (BitVec.ofInt IntKind.u64.bits (IntKind.u64.wrap x) &&& BitVec.ofInt IntKind.u64.bits (8388607:Int)).toNat)==(0:Int)),((IntKind.u64.wrap (BitVec.ofInt IntKind.u64.bits (IntKind.u64.wrap x) &&& BitVec.ofInt IntKind.u64.bits (8388607:Int)).toNat) != (0:Int))))) (.ite ((W_ (IntKind.u64.wrap (BitVec.ofInt IntKind.u64.bits ((IntKind.u64.wrap x).fdiv (2 ^ min (23:Int).toNat IntKind.u64.bits)) &&& BitVec.ofInt IntKind.u64.bits (255:Int)).toNat))==(0:Int)) (.leaf (.inl ((IntKind.u64.wrap (BitVec.ofInt IntKind.u64.bits (IntKind.u64.wrap x) &&& BitVec.ofInt IntKind.u64.bits (8388607:Int)).toNat),(-149:Int),false,false))) (.leaf (.inl ((IntKind.u64.wrap ((8388608:Int)+(IntKind.u64.wrap (BitVec.ofInt IntKind.u64.bits (IntKind.u64.wrap x) &&& BitVec.ofInt IntKind.u64.bits (8388607:Int)).toNat))),(W_ ((W_ (IntKind.u64.wrap (BitVec.ofInt IntKind.u64.bits ((IntKind.u64.wrap x).fdiv (2 ^ min (23:Int).toNat IntKind.u64.bits)) &&& BitVec.ofInt IntKind.u64.bits (255:Int)).toNat)) - (150:Int))),false,false))))) fun s1=>.leaf ((((IntKind.u64.wrap x).fdiv (2 ^ min (31:Int).toNat IntKind.u64.bits))==(1:Int)),s1.1,s1.2.1,s1.2.2.1,s1.2.2.2)
noncomputable def k69 (n:Nat):Con P_ Ty_:=conOf (X:=Int) (R:=Bool×Int×Int×Bool×Bool) (pro:=[]) (g69_c n) 100 g69_k (by kernel_rfl) (fun x=>.two .no (.two .no (.two .no (.two .no (.two .no (.join (Int×Int×Bool×Bool) (g69_e1 x) ⟨[(2,.ref 2),(4,.ref 4)],[(2,.any),(4,.any)]⟩ .no .no)))))) [.any] [] [] ⟨[(2,.ref 100000)],[(100000,.any)]⟩ [] true (fun x=>[.sc (.int .i64 x)]) (fun x=>[]) (fun y=>([(2,.pt 100000 [] 0 0)],[(100000,.lit 5 [[.sc (.bool y.1),.sc (.int .u64 y.2.1),.sc (.int .i64 y.2.2.1),.sc (.bool y.2.2.2.1),.sc (.bool y.2.2.2.2)]])])) (fun y=>.ag [.sc (.bool y.1),.sc (.int .u64 y.2.1),.sc (.int .i64 y.2.2.1),.sc (.bool y.2.2.2.1),.sc (.bool y.2.2.2.2)]) (fun y=>[]) (g69_t n) (fun x=>by kernel_rfl) (fun x=>by kernel_rfl) (by kernel_rfl) (fun y=>by kernel_rfl) (fun _ y=>by kernel_rfl)
noncomputable def g65_c (n:Nat):Cx P_ Ty_:=⟨[k69 n],[],[],[]⟩
abbrev g65_k:List (List Nat):=[[0],[0,5],[2],[2]]
noncomputable def g65_t (n:Nat) (x:Int):Pt P_ Ty_ [] Int:=.call (k69 n) x fun (y1:Bool×Int×Int×Bool×Bool)=>.ite y1.2.2.2.2 (.leaf (2143289344:Int)) (.leaf x)
noncomputable def k65 (n:Nat):Con P_ Ty_:=conOf (X:=Int) (R:=Int) (pro:=[]) (g65_c n) 86 g65_k (by kernel_rfl) (fun x=>.no) [.any] [] [] ⟨[(2,.any)],[]⟩ [] true (fun x=>[.sc (.int .i64 x)]) (fun x=>[]) (fun y=>([(2,.sc (.int .i64 y))],[])) (fun y=>.sc (.int .i64 y)) (fun y=>[]) (g65_t n) (fun x=>by kernel_rfl) (fun x=>by kernel_rfl) (by kernel_rfl) (fun y=>by kernel_rfl) (fun _ y=>by kernel_rfl)
noncomputable def g58_c (n:Nat):Cx P_ Ty_:=⟨[k65 n],[],[],[]⟩
abbrev g58_k:List (List Nat):=[[0],[2]]
noncomputable def g58_t (n:Nat) (x:Int):Pt P_ Ty_ [] Bool:=.call (k65 n) (W_ x) fun (y1:Int)=>.leaf (y1==(W_ x))
noncomputable def k58 (n:Nat):Con P_ Ty_:=conOf (X:=Int) (R:=Bool) (pro:=[]) (g58_c n) 73 g58_k (by kernel_rfl) (fun x=>.no) [.any] [] [] ⟨[(2,.any)],[]⟩ [] true (fun x=>[.sc (.int .u32 x)]) (fun x=>[]) (fun y=>([(2,.sc (.bool y))],[])) (fun y=>.sc (.bool y)) (fun y=>[]) (g58_t n) (fun x=>by kernel_rfl) (fun x=>by kernel_rfl) (by kernel_rfl) (fun y=>by kernel_rfl) (fun _ y=>by kernel_rfl)
noncomputable def g40_c (n:Nat):Cx P_ Ty_:=⟨[k39 n,k58 n],[],[],[]⟩
abbrev g40_k:List (List Nat):=[[1,2],[2,9],[4],[2,13],[4],[4]]
noncomputable def g40_t (n:Nat) (x:Xe×(List Xd)):Pt P_ Ty_ [] Bool:=.call (k39 n) (x.1.Type_,x.2) fun (y1:Bool)=>.ite (!y1) (.leaf false) (.ite (x.1.Type_.Kind_==(2:Int)) (.ite (x.1.Bits_==(0:Int)) (.ite (decide (x.1.Int_≥(0:Int))) (.leaf (decide (x.1.Int_≤(2147483647:Int)))) (.leaf false)) (.leaf false)) (.ite (x.1.Int_==(0:Int)) (.call (k58 n) x.1.Bits_ fun (y2:Bool)=>.leaf y2) (.leaf false)))
noncomputable def k40 (n:Nat):Con P_ Ty_:=conOf (X:=Xe×(List Xd)) (R:=Bool) (pro:=[]) (g40_c n) 52 g40_k (by kernel_rfl) (fun x=>.no) [.ag [.any,.any,.any,.any,.any],.im 3] [] [] ⟨[(4,.any)],[]⟩ [] true (fun x=>[.ag [.sc (.int .i64 x.1.Type_.Kind_),.sc (.int .i64 x.1.Type_.Param_),.sc (.bool x.1.Keep_),.sc (.int .u32 x.1.Bits_),.sc (.int .i64 x.1.Int_)],.im 3 x.2]) (fun x=>[]) (fun y=>([(4,.sc (.bool y))],[])) (fun y=>.sc (.bool y)) (fun y=>[]) (g40_t n) (fun x=>by kernel_rfl) (fun x=>by kernel_rfl) (by kernel_rfl) (fun y=>by kernel_rfl) (fun _ y=>by kernel_rfl)
noncomputable def g27_c (n:Nat):Cx P_ Ty_:=⟨[],[],[],[]⟩
abbrev g27_k:List (List Nat):=[[0],[4],[4,5],[2,3],[4,7],[2,3],[4,9],[2,3],[4,11],[4,11],[4,11],[4,11],[4,11],[4,11],[4,11],[2,3],[4,19],[4,19],[4,19],[4,19],[2,3],[4,24],[2,3],[4,26],[2,3],[4,28],[2,3],[4,30],[2,3],[4,32],[4,32],[2,3],[4,35],[4,35],[2,3],[4,38],[4,38],[4,38],[4,38],[4,38],[2,3],[4,44],[2,3],[4,46],[4,46],[2,3],[4,49],[2,3],[4,51],[2,3],[4,53],[2,3],[4,55],[2,3],[4,57],[4,57],[2,3],[60],[2,3],[2,3]]
noncomputable def g27_e1 (x:Int) (p:Bool):EH Ty_:=([(4,.sc (.int .i64 x)),(11,.sc (.bool p))],[])
noncomputable def g27_e2 (x:Int) (p:Bool):EH Ty_:=([(4,.sc (.int .i64 x)),(19,.sc (.bool p))],[])
noncomputable def g27_e3 (x:Int) (p:Bool):EH Ty_:=([(4,.sc (.int .i64 x)),(32,.sc (.bool p))],[])
noncomputable def g27_e4 (x:Int) (p:Bool):EH Ty_:=([(4,.sc (.int .i64 x)),(35,.sc (.bool p))],[])
noncomputable def g27_e5 (x:Int) (p:Bool):EH Ty_:=([(4,.sc (.int .i64 x)),(38,.sc (.bool p))],[])
noncomputable def g27_e6 (x:Int) (p:Bool):EH Ty_:=([(4,.sc (.int .i64 x)),(46,.sc (.bool p))],[])
noncomputable def g27_e7 (x:Int) (p:Bool):EH Ty_:=([(4,.sc (.int .i64 x)),(57,.sc (.bool p))],[])
noncomputable def g27_t (n:Nat) (x:Int):Pt P_ Ty_ [] (ByteArray×Bool):=.ite (x==(1:Int)) (.leaf ((⟨#[110,45,45,45,45]⟩:ByteArray),true)) (.ite (x==(2:Int)) (.leaf ((⟨#[119,45,45,45,105]⟩:ByteArray),true)) (.ite (x==(3:Int)) (.leaf ((⟨#[97,99,45,45,45]⟩:ByteArray),true)) (.join (S:=Bool) (g27_e1 x) (.ite (x==(4:Int)) (.leaf (.inl true)) (.ite (x==(5:Int)) (.leaf (.inl true)) (.ite (x==(6:Int)) (.leaf (.inl true)) (.ite (x==(7:Int)) (.leaf (.inl true)) (.ite (x==(8:Int)) (.leaf (.inl true)) (.ite (x==(9:Int)) (.leaf (.inl true)) (.leaf (.inl (x==(10:Int)))))))))) fun s1=>.ite s1 (.leaf ((⟨#[100,120,120,45,45]⟩:ByteArray),true)) (.join (S:=Bool) (g27_e2 x) (.ite (x==(11:Int)) (.leaf (.inl true)) (.ite (x==(12:Int)) (.leaf (.inl true)) (.ite (x==(13:Int)) (.leaf (.inl true)) (.leaf (.inl (x==(14:Int))))))) fun s2=>.ite s2 (.leaf ((⟨#[100,120,45,45,45]⟩:ByteArray),true)) (.ite (x==(15:Int)) (.leaf ((⟨#[100,120,120,120,45]⟩:ByteArray),true)) (.ite (x==(16:Int)) (.leaf ((⟨#[110,110,119,45,45]⟩:ByteArray),true)) (.ite (x==(17:Int)) (.leaf ((⟨#[110,119,45,45,45]⟩:ByteArray),true)) (.ite (x==(18:Int)) (.leaf ((⟨#[119,110,45,45,45]⟩:ByteArray),true)) (.join (S:=Bool) (g27_e3 x) (.ite (x==(19:Int)) (.leaf (.inl true)) (.leaf (.inl (x==(20:Int))))) fun s3=>.ite s3 (.leaf ((⟨#[110,118,45,45,45]⟩:ByteArray),true)) (.join (S:=Bool) (g27_e4 x) (.ite (x==(21:Int)) (.leaf (.inl true)) (.leaf (.inl (x==(25:Int))))) fun s4=>.ite s4 (.leaf ((⟨#[119,119,45,45,45]⟩:ByteArray),true)) (.join (S:=Bool) (g27_e5 x) (.ite (x==(22:Int)) (.leaf (.inl true)) (.ite (x==(23:Int)) (.leaf (.inl true)) (.ite (x==(24:Int)) (.leaf (.inl true)) (.ite (x==(27:Int)) (.leaf (.inl true)) (.leaf (.inl (x==(28:Int)))))))) fun s5=>.ite s5 (.leaf ((⟨#[119,119,119,45,45]⟩:ByteArray),true)) (.ite (x==(26:Int)) (.leaf ((⟨#[119,119,119,119,45]⟩:ByteArray),true)) (.join (S:=Bool) (g27_e6 x) (.ite (x==(29:Int)) (.leaf (.inl true)) (.leaf (.inl (x==(30:Int))))) fun s6=>.ite s6 (.leaf ((⟨#[118,45,45,45,112]⟩:ByteArray),true)) (.ite (x==(31:Int)) (.leaf ((⟨#[45,118,45,45,112]⟩:ByteArray),true)) (.ite (x==(32:Int)) (.leaf ((⟨#[97,45,45,45,115]⟩:ByteArray),true)) (.ite (x==(33:Int)) (.leaf ((⟨#[45,97,45,45,115]⟩:ByteArray),true)) (.ite (x==(34:Int)) (.leaf ((⟨#[45,119,45,45,45]⟩:ByteArray),true)) (.join (S:=Bool) (g27_e7 x) (.ite (x==(35:Int)) (.leaf (.inl true)) (.leaf (.inl (x==(37:Int))))) fun s7=>.ite s7 (.leaf ((⟨#[45,45,45,45,45]⟩:ByteArray),true)) (.ite (x==(36:Int)) (.leaf ((⟨#[45,45,45,45,113]⟩:ByteArray),true)) (.leaf ((⟨#[]⟩:ByteArray),false)))))))))))))))))))))
noncomputable def k27 (n:Nat):Con P_ Ty_:=conOf (X:=Int) (R:=ByteArray×Bool) (pro:=[]) (g27_c n) 58 g27_k (by kernel_rfl) (fun x=>.two .no (.two (.two .no (.two (.two .no (.two .no (.two .no (.two .no (.two .no (.two .no (.join Bool (g27_e1 x) ⟨[(4,.any),(11,.any)],[]⟩ .no (.two .no (.join Bool (g27_e2 x) ⟨[(4,.any),(19,.any)],[]⟩ .no (.two .no (.two .no (.two .no (.two .no (.two .no (.two .no (.two .no (.two .no (.two .no (.join Bool (g27_e3 x) ⟨[(4,.any),(32,.any)],[]⟩ .no (.two .no (.join Bool (g27_e4 x) ⟨[(4,.any),(35,.any)],[]⟩ .no (.two .no (.join Bool (g27_e5 x) ⟨[(4,.any),(38,.any)],[]⟩ .no (.two .no (.two .no (.two .no (.join Bool (g27_e6 x) ⟨[(4,.any),(46,.any)],[]⟩ .no (.two .no (.two .no (.two .no (.two .no (.two .no (.two .no (.two .no (.two .no (.two .no (.join Bool (g27_e7 x) ⟨[(4,.any),(57,.any)],[]⟩ .no .no))))))))))))))))))))))))))))))))))))) .no)) .no)) [.any] [] [] ⟨[(2,.any),(3,.any)],[]⟩ [] true (fun x=>[.sc (.int .i64 x)]) (fun x=>[]) (fun y=>([(2,.sc (.string y.1)),(3,.sc (.bool y.2))],[])) (fun y=>.tu [.sc (.string y.1),.sc (.bool y.2)]) (fun y=>[]) (g27_t n) (fun x=>by kernel_rfl) (fun x=>by kernel_rfl) (by kernel_rfl) (fun y=>by kernel_rfl) (fun _ y=>by kernel_rfl)
noncomputable def g70_c (n:Nat):Cx P_ Ty_:=⟨[],[],[],[]⟩
abbrev g70_k:List (List Nat):=[[1,2,4],[1,2,4,14],[4,5],[4,5]]
noncomputable def g70_e1 (x:Xf×Int) (p:Bool):EH Ty_:=([(1,.sc (.int .i64 x.2)),(2,.pt 2 [] 0 0),(4,.pt 4 [] 0 0),(14,.sc (.bool p))],[(2,.lit 4 [[.im 3 x.1.Sign_,.im 1 x.1.Regs_,.im 4 x.1.Slots_,.im 2 x.1.List_]]),(4,.lit 2 [[.sc (.int .i64 (0:Int)),.sc (.int .i64 (0:Int))]])])
noncomputable def g70_t (n:Nat) (x:Xf×Int):Pt P_ Ty_ [] (Bool×Int×Int):=.join (S:=Bool) (g70_e1 x) (.ite (decide (x.2<(0:Int))) (.leaf (.inl true)) (.leaf (.inl (decide (x.2≥(x.1.Regs_.length:Int)))))) fun s1=>.ite s1 (.leaf (false,(0:Int),(0:Int))) (.bnd (idx x.1.Regs_ x.2) fun y1=>.leaf (true,y1.Kind_,y1.Param_))
noncomputable def k70 (n:Nat):Con P_ Ty_:=conOf (X:=Xf×Int) (R:=Bool×Int×Int) (pro:=[]) (g70_c n) 101 g70_k (by kernel_rfl) (fun x=>.two .no (.two (.join Bool (g70_e1 x) ⟨[(1,.any),(2,.ref 2),(4,.ref 4),(14,.any)],[(2,.any),(4,.any)]⟩ .no .no) .no)) [.ag [.im 3,.im 1,.im 4,.im 2],.any] [] [] ⟨[(4,.ref 100000),(5,.any)],[(100000,.any)]⟩ [] true (fun x=>[.ag [.im 3 x.1.Sign_,.im 1 x.1.Regs_,.im 4 x.1.Slots_,.im 2 x.1.List_],.sc (.int .i64 x.2)]) (fun x=>[]) (fun y=>([(4,.pt 100000 [] 0 0),(5,.sc (.bool y.1))],[(100000,.lit 2 [[.sc (.int .i64 y.2.1),.sc (.int .i64 y.2.2)]])])) (fun y=>.tu [.ag [.sc (.int .i64 y.2.1),.sc (.int .i64 y.2.2)],.sc (.bool y.1)]) (fun y=>[]) (g70_t n) (fun x=>by kernel_rfl) (fun x=>by kernel_rfl) (by kernel_rfl) (fun y=>by kernel_rfl) (fun _ y=>by kernel_rfl)
noncomputable def g66_c (n:Nat):Cx P_ Ty_:=⟨[k70 n],[],[],[]⟩
abbrev g66_k:List (List Nat):=[[1,2,4,7],[1,2,4,7,14],[8],[1,7,9,10],[1,7,9,24],[8],[1,7,9,11],[1,7,9,11,12],[7,9,11,12,31],[7,9,11,12,31,32],[8],[7,9,11,12,31,35],[8],[7,9,11,12,31,40],[8],[7,9,11,12,31,43],[8],[7,9,11,31,49],[8],[7,9,11,57],[8],[8]]
noncomputable def g66_t (n:Nat) (x:Xf×Int×Int×Xb):Pt P_ Ty_ [] Bool:=.ite (x.2.1==(45:Int)) (.leaf (x.2.2.1==(0:Int))) (.call (k70 n) (x.1,x.2.2.1) fun (y1:Bool×Int×Int)=>.ite (!y1.1) (.leaf false) (.ite (x.2.1==(110:Int)) (.leaf (y1.2.1==(1:Int))) (.ite (x.2.1==(119:Int)) (.leaf (y1.2.1==(2:Int))) (.ite (x.2.1==(118:Int)) (.leaf (y1.2.1==(3:Int))) (.ite (x.2.1==(100:Int)) (.ite (y1.2.1==(1:Int)) (.leaf true) (.leaf (y1.2.1==(3:Int)))) (.ite (x.2.1==(120:Int)) (.ite (y1.2.1==(1:Int)) (.leaf true) (.leaf (y1.2.1==x.2.2.2.Kind_ && (y1.2.2==x.2.2.2.Param_ && true)))) (.ite (x.2.1==(99:Int)) (.ite (y1.2.1==x.2.2.2.Kind_ && (y1.2.2==x.2.2.2.Param_ && true)) (.leaf true) (.ite (y1.2.1==(1:Int)) (.leaf (x.2.2.2.Kind_==(3:Int))) (.leaf false))) (.leaf true))))))))
noncomputable def k66 (n:Nat):Con P_ Ty_:=conOf (X:=Xf×Int×Int×Xb) (R:=Bool) (pro:=[]) (g66_c n) 87 g66_k (by kernel_rfl) (fun x=>.no) [.ag [.im 3,.im 1,.im 4,.im 2],.any,.any,.ag [.any,.any]] [] [] ⟨[(8,.any)],[]⟩ [] true (fun x=>[.ag [.im 3 x.1.Sign_,.im 1 x.1.Regs_,.im 4 x.1.Slots_,.im 2 x.1.List_],.sc (.int .u8 x.2.1),.sc (.int .i64 x.2.2.1),.ag [.sc (.int .i64 x.2.2.2.Kind_),.sc (.int .i64 x.2.2.2.Param_)]]) (fun x=>[]) (fun y=>([(8,.sc (.bool y))],[])) (fun y=>.sc (.bool y)) (fun y=>[]) (g66_t n) (fun x=>by kernel_rfl) (fun x=>by kernel_rfl) (by kernel_rfl) (fun y=>by kernel_rfl) (fun _ y=>by kernel_rfl)
noncomputable def g67_c (n:Nat):Cx P_ Ty_:=⟨[],[],[],[]⟩
abbrev g67_k:List (List Nat):=[[1,2,3],[6]]
noncomputable def g67_t (n:Nat) (x:Xf×Int×Int):Pt P_ Ty_ [] Bool:=.ite (x.2.1==(0:Int)) (.leaf true) (.ite (x.2.1==(1:Int)) (.bnd (idx x.1.Sign_ x.2.2) fun y1=>.leaf (y1.Kind_==(2:Int))) (.leaf false))
noncomputable def k67 (n:Nat):Con P_ Ty_:=conOf (X:=Xf×Int×Int) (R:=Bool) (pro:=[]) (g67_c n) 88 g67_k (by kernel_rfl) (fun x=>.no) [.ag [.im 3,.im 1,.im 4,.im 2],.any,.any] [] [] ⟨[(6,.any)],[]⟩ [] true (fun x=>[.ag [.im 3 x.1.Sign_,.im 1 x.1.Regs_,.im 4 x.1.Slots_,.im 2 x.1.List_],.sc (.int .i64 x.2.1),.sc (.int .i64 x.2.2)]) (fun x=>[]) (fun y=>([(6,.sc (.bool y))],[])) (fun y=>.sc (.bool y)) (fun y=>[]) (g67_t n) (fun x=>by kernel_rfl) (fun x=>by kernel_rfl) (by kernel_rfl) (fun y=>by kernel_rfl) (fun _ y=>by kernel_rfl)
noncomputable def g59_c (n:Nat):Cx P_ Ty_:=⟨[k27 n,k58 n,k66 n,k67 n],[],[],[]⟩
abbrev g59_k:List (List Nat):=[[2,3],[2,3,5,6],[2,3,5,32],[4],[2,3,5,7],[2,3,5,7,36],[2,3,5,7,44],[4],[2,3,5,7],[2,3,5,7,53],[4],[2,3,5,7,81],[4],[2,3,5,8],[2,3,5,8,90],[2,3,5,8],[2,3,8,98],[2,3,8,98,99],[4],[2,3,8,98,109],[4],[2,3,8,98,117],[4],[2,3,141],[4],[4]]
noncomputable def g59_e1 (x:Xf×Xc) (p:ByteArray×Bool):EH Ty_:=([(2,.pt 2 [] 0 0),(3,.pt 3 [] 0 0),(5,.sc (.string p.1)),(32,.sc (.bool p.2))],[(2,.lit 4 [[.im 3 x.1.Sign_,.im 1 x.1.Regs_,.im 4 x.1.Slots_,.im 2 x.1.List_]]),(3,.lit 7 [[.sc (.int .i64 x.2.Op_),.sc (.int .i64 x.2.D_),.sc (.int .i64 x.2.A_),.sc (.int .i64 x.2.B_),.sc (.int .i64 x.2.C_),.sc (.int .i64 x.2.N_),.sc (.int .u32 x.2.Bits_)]])])
noncomputable def g59_e2 (x:Xf×Xc) (p:ByteArray×Int×Int):EH Ty_:=([(2,.pt 2 [] 0 0),(3,.pt 3 [] 0 0),(5,.sc (.string p.1)),(7,.pt 7 [] 0 0)],[(2,.lit 4 [[.im 3 x.1.Sign_,.im 1 x.1.Regs_,.im 4 x.1.Slots_,.im 2 x.1.List_]]),(3,.lit 7 [[.sc (.int .i64 x.2.Op_),.sc (.int .i64 x.2.D_),.sc (.int .i64 x.2.A_),.sc (.int .i64 x.2.B_),.sc (.int .i64 x.2.C_),.sc (.int .i64 x.2.N_),.sc (.int .u32 x.2.Bits_)]]),(7,.lit 2 [[.sc (.int .i64 p.2.1),.sc (.int .i64 p.2.2)]])])
noncomputable def g59_e3 (x:Xf×Xc) (p:ByteArray×Bool×Int×Int):EH Ty_:=([(2,.pt 2 [] 0 0),(3,.pt 3 [] 0 0),(5,.sc (.string p.1)),(7,.pt 7 [] 0 0),(81,.sc (.bool p.2.1))],[(2,.lit 4 [[.im 3 x.1.Sign_,.im 1 x.1.Regs_,.im 4 x.1.Slots_,.im 2 x.1.List_]]),(3,.lit 7 [[.sc (.int .i64 x.2.Op_),.sc (.int .i64 x.2.D_),.sc (.int .i64 x.2.A_),.sc (.int .i64 x.2.B_),.sc (.int .i64 x.2.C_),.sc (.int .i64 x.2.N_),.sc (.int .u32 x.2.Bits_)]]),(7,.lit 2 [[.sc (.int .i64 p.2.2.1),.sc (.int .i64 p.2.2.2)]])])
noncomputable def g59_e4 (x:Xf×Xc) (p:ByteArray×Bool×Int×Int):EH Ty_:=([(2,.pt 2 [] 0 0),(3,.pt 3 [] 0 0),(5,.sc (.string p.1)),(8,.pt 8 [] 0 0),(90,.sc (.bool p.2.1))],[(2,.lit 4 [[.im 3 x.1.Sign_,.im 1 x.1.Regs_,.im 4 x.1.Slots_,.im 2 x.1.List_]]),(3,.lit 7 [[.sc (.int .i64 x.2.Op_),.sc (.int .i64 x.2.D_),.sc (.int .i64 x.2.A_),.sc (.int .i64 x.2.B_),.sc (.int .i64 x.2.C_),.sc (.int .i64 x.2.N_),.sc (.int .u32 x.2.Bits_)]]),(8,.lit 2 [[.sc (.int .i64 p.2.2.1),.sc (.int .i64 p.2.2.2)]])])
noncomputable def g59_e5 (x:Xf×Xc) (p:ByteArray×Int×Int):EH Ty_:=([(2,.pt 2 [] 0 0),(3,.pt 3 [] 0 0),(5,.sc (.string p.1)),(8,.pt 8 [] 0 0)],[(2,.lit 4 [[.im 3 x.1.Sign_,.im 1 x.1.Regs_,.im 4 x.1.Slots_,.im 2 x.1.List_]]),(3,.lit 7 [[.sc (.int .i64 x.2.Op_),.sc (.int .i64 x.2.D_),.sc (.int .i64 x.2.A_),.sc (.int .i64 x.2.B_),.sc (.int .i64 x.2.C_),.sc (.int .i64 x.2.N_),.sc (.int .u32 x.2.Bits_)]]),(8,.lit 2 [[.sc (.int .i64 p.2.1),.sc (.int .i64 p.2.2)]])])
noncomputable def g59_t (n:Nat) (x:Xf×Xc):Pt P_ Ty_ [] Bool:=.call (k27 n) x.2.Op_ fun (y1:ByteArray×Bool)=>.join (S:=ByteArray×Bool) (g59_e1 x) (.ite (!y1.2) (.leaf (.inl (y1.1,true))) (.ite (x.2.Op_ != (1:Int)) (.ite (x.2.Bits_ != (0:Int)) (.leaf (.inl (y1.1,true))) (.call (k58 n) x.2.Bits_ fun (y2:Bool)=>.leaf (.inl (y1.1,(!y2))))) (.call (k58 n) x.2.Bits_ fun (y3:Bool)=>.leaf (.inl (y1.1,(!y3)))))) fun s1=>.ite s1.2 (.leaf false) (.join (S:=ByteArray×Int×Int) (g59_e2 x) (.need (0≤(0:Int)∧(0:Int)<(s1.1.size:Int)) (.ite ((byteAt s1.1 (0:Int)) != (45:Int)) (.need (0≤(0:Int)∧(0:Int)<(s1.1.size:Int)) (.call (k66 n) (x.1,(byteAt s1.1 (0:Int)),x.2.D_,(⟨(0:Int),(0:Int)⟩:Xb)) fun (y4:Bool)=>.ite (!y4) (.leaf (.inr false)) (.bnd (idx x.1.Regs_ x.2.D_) fun y5=>.leaf (.inl (s1.1,y5.Kind_,y5.Param_))))) (.ite (x.2.D_ != (0:Int)) (.leaf (.inr false)) (.leaf (.inl (s1.1,(0:Int),(0:Int))))))) fun s2=>.join (S:=ByteArray×Bool×Int×Int) (g59_e3 x) (.need (0≤(1:Int)∧(1:Int)<(s2.1.size:Int)) (.call (k66 n) (x.1,(byteAt s2.1 (1:Int)),x.2.A_,(⟨s2.2.1,s2.2.2⟩:Xb)) fun (y6:Bool)=>.ite (!y6) (.leaf (.inl (s2.1,true,s2.2.1,s2.2.2))) (.need (0≤(2:Int)∧(2:Int)<(s2.1.size:Int)) (.call (k66 n) (x.1,(byteAt s2.1 (2:Int)),x.2.B_,(⟨s2.2.1,s2.2.2⟩:Xb)) fun (y7:Bool)=>.ite (!y7) (.leaf (.inl (s2.1,true,s2.2.1,s2.2.2))) (.need (0≤(3:Int)∧(3:Int)<(s2.1.size:Int)) (.call (k66 n) (x.1,(byteAt s2.1 (3:Int)),x.2.C_,(⟨s2.2.1,s2.2.2⟩:Xb)) fun (y8:Bool)=>.leaf (.inl (s2.1,(!y8),s2.2.1,s2.2.2)))))))) fun s3=>.ite s3.2.1 (.leaf false) (.join (S:=ByteArray×Int×Int) (g59_e5 x) (.join (S:=ByteArray×Bool×Int×Int) (g59_e4 x) (.need (0≤(0:Int)∧(0:Int)<(s3.1.size:Int)) (.ite ((byteAt s3.1 (0:Int))==(45:Int)) (.need (0≤(1:Int)∧(1:Int)<(s3.1.size:Int)) (.leaf (.inl (s3.1,((byteAt s3.1 (1:Int)) != (45:Int)),s3.2.2.1,s3.2.2.2)))) (.leaf (.inl (s3.1,false,s3.2.2.1,s3.2.2.2))))) fun s4=>.ite s4.2.1 (.bnd (idx x.1.Regs_ x.2.A_) fun y9=>.leaf (.inl (s4.1,y9.Kind_,y9.Param_))) (.leaf (.inl (s4.1,s4.2.2.1,s4.2.2.2)))) fun s5=>.need (0≤(4:Int)∧(4:Int)<(s5.1.size:Int)) (.ite ((byteAt s5.1 (4:Int))==(105:Int)) (.ite (decide (x.2.N_≥(0:Int))) (.leaf (decide (x.2.N_≤(2147483647:Int)))) (.leaf false)) (.ite ((byteAt s5.1 (4:Int))==(112:Int)) (.call (k67 n) (x.1,x.2.N_,s5.2.2) fun (y10:Bool)=>.leaf y10) (.ite ((byteAt s5.1 (4:Int))==(115:Int)) (.ite (decide (x.2.N_≥(0:Int))) (.ite (decide (x.2.N_<(x.1.Slots_.length:Int))) (.bnd (idx x.1.Slots_ x.2.N_) fun y11=>.leaf (y11.Type_.Kind_==s5.2.1 && (y11.Type_.Param_==s5.2.2 && true))) (.leaf false)) (.leaf false)) (.ite ((byteAt s5.1 (4:Int))==(113:Int)) (.ite (decide (x.2.N_≥(0:Int))) (.leaf (decide (x.2.N_<(x.1.Sign_.length:Int)))) (.leaf false)) (.leaf (x.2.N_==(0:Int)))))))))
noncomputable def k59 (n:Nat):Con P_ Ty_:=conOf (X:=Xf×Xc) (R:=Bool) (pro:=[]) (g59_c n) 74 g59_k (by kernel_rfl) (fun x=>.two .no (.two .no (.two (.join (ByteArray×Bool) (g59_e1 x) ⟨[(2,.ref 2),(3,.ref 3),(5,.any),(32,.any)],[(2,.any),(3,.any)]⟩ .no .no) (.two .no (.join (ByteArray×Int×Int) (g59_e2 x) ⟨[(2,.ref 2),(3,.ref 3),(5,.any),(7,.ref 7)],[(2,.any),(3,.any),(7,.any)]⟩ .no (.two (.join (ByteArray×Bool×Int×Int) (g59_e3 x) ⟨[(2,.ref 2),(3,.ref 3),(5,.any),(7,.ref 7),(81,.any)],[(2,.any),(3,.any),(7,.any)]⟩ .no .no) (.two .no (.join (ByteArray×Int×Int) (g59_e5 x) ⟨[(2,.ref 2),(3,.ref 3),(5,.any),(8,.ref 8)],[(2,.any),(3,.any),(8,.any)]⟩ (.join (ByteArray×Bool×Int×Int) (g59_e4 x) ⟨[(2,.ref 2),(3,.ref 3),(5,.any),(8,.ref 8),(90,.any)],[(2,.any),(3,.any),(8,.any)]⟩ .no .no) .no)))))))) [.ag [.im 3,.im 1,.im 4,.im 2],.ag [.any,.any,.any,.any,.any,.any,.any]] [] [] ⟨[(4,.any)],[]⟩ [] true (fun x=>[.ag [.im 3 x.1.Sign_,.im 1 x.1.Regs_,.im 4 x.1.Slots_,.im 2 x.1.List_],.ag [.sc (.int .i64 x.2.Op_),.sc (.int .i64 x.2.D_),.sc (.int .i64 x.2.A_),.sc (.int .i64 x.2.B_),.sc (.int .i64 x.2.C_),.sc (.int .i64 x.2.N_),.sc (.int .u32 x.2.Bits_)]]) (fun x=>[]) (fun y=>([(4,.sc (.bool y))],[])) (fun y=>.sc (.bool y)) (fun y=>[]) (g59_t n) (fun x=>by kernel_rfl) (fun x=>by kernel_rfl) (by kernel_rfl) (fun y=>by kernel_rfl) (fun _ y=>by kernel_rfl)
noncomputable def g14_c (n:Nat):Cx P_ Ty_:=⟨[],[],[],[]⟩
abbrev g14_k:List (List Nat):=[[0],[2]]
noncomputable def g14_t (n:Nat) (x:Int):Pt P_ Ty_ [] Bool:=.ite (decide (x≥(3:Int))) (.leaf (decide (x≤(15:Int)))) (.leaf false)
noncomputable def k14 (n:Nat):Con P_ Ty_:=conOf (X:=Int) (R:=Bool) (pro:=[]) (g14_c n) 59 g14_k (by kernel_rfl) (fun x=>.no) [.any] [] [] ⟨[(2,.any)],[]⟩ [] true (fun x=>[.sc (.int .i64 x)]) (fun x=>[]) (fun y=>([(2,.sc (.bool y))],[])) (fun y=>.sc (.bool y)) (fun y=>[]) (g14_t n) (fun x=>by kernel_rfl) (fun x=>by kernel_rfl) (by kernel_rfl) (fun y=>by kernel_rfl) (fun _ y=>by kernel_rfl)
noncomputable def g60_c (n:Nat):Cx P_ Ty_:=⟨[k14 n],[],[],[]⟩
abbrev g60_k:List (List Nat):=[[2,3],[2,3,5],[2,3,5,6],[2,3,5,6],[2,3,5,6],[2,3,5,6],[2,5],[2,3,5,21],[2,3,5,21],[2,5],[2,5,47],[4],[4]]
noncomputable def g60_e1 (x:Xf×Xc) (p:Bool):EH Ty_:=([(2,.pt 2 [] 0 0),(3,.pt 3 [] 0 0),(5,.sc (.int .i64 (-1:Int))),(6,.sc (.bool p))],[(2,.lit 4 [[.im 3 x.1.Sign_,.im 1 x.1.Regs_,.im 4 x.1.Slots_,.im 2 x.1.List_]]),(3,.lit 7 [[.sc (.int .i64 x.2.Op_),.sc (.int .i64 x.2.D_),.sc (.int .i64 x.2.A_),.sc (.int .i64 x.2.B_),.sc (.int .i64 x.2.C_),.sc (.int .i64 x.2.N_),.sc (.int .u32 x.2.Bits_)]])])
noncomputable def g60_e2 (x:Xf×Xc) (p:Bool):EH Ty_:=([(2,.pt 2 [] 0 0),(3,.pt 3 [] 0 0),(5,.sc (.int .i64 (-1:Int))),(21,.sc (.bool p))],[(2,.lit 4 [[.im 3 x.1.Sign_,.im 1 x.1.Regs_,.im 4 x.1.Slots_,.im 2 x.1.List_]]),(3,.lit 7 [[.sc (.int .i64 x.2.Op_),.sc (.int .i64 x.2.D_),.sc (.int .i64 x.2.A_),.sc (.int .i64 x.2.B_),.sc (.int .i64 x.2.C_),.sc (.int .i64 x.2.N_),.sc (.int .u32 x.2.Bits_)]])])
noncomputable def g60_e3 (x:Xf×Xc) (p:Int):EH Ty_:=([(2,.pt 2 [] 0 0),(5,.sc (.int .i64 p))],[(2,.lit 4 [[.im 3 x.1.Sign_,.im 1 x.1.Regs_,.im 4 x.1.Slots_,.im 2 x.1.List_]])])
noncomputable def g60_e4 (x:Xf×Xc) (p:Int×Bool):EH Ty_:=([(2,.pt 2 [] 0 0),(5,.sc (.int .i64 p.1)),(47,.sc (.bool p.2))],[(2,.lit 4 [[.im 3 x.1.Sign_,.im 1 x.1.Regs_,.im 4 x.1.Slots_,.im 2 x.1.List_]])])
noncomputable def g60_t (n:Nat) (x:Xf×Xc):Pt P_ Ty_ [] Int:=.join (S:=Int) (g60_e3 x) (.join (S:=Bool) (g60_e1 x) (.call (k14 n) x.2.Op_ fun (y1:Bool)=>.ite y1 (.leaf (.inl true)) (.ite (x.2.Op_==(29:Int)) (.leaf (.inl true)) (.ite (x.2.Op_==(30:Int)) (.leaf (.inl true)) (.leaf (.inl (x.2.Op_==(32:Int))))))) fun s1=>.ite s1 (.leaf (.inl x.2.D_)) (.join (S:=Bool) (g60_e2 x) (.ite (x.2.Op_==(31:Int)) (.leaf (.inl true)) (.leaf (.inl (x.2.Op_==(33:Int))))) fun s2=>.ite s2 (.leaf (.inl x.2.A_)) (.leaf (.inl (-1:Int))))) fun s3=>.join (S:=Int×Bool) (g60_e4 x) (.ite (decide (s3<(0:Int))) (.leaf (.inl (s3,true))) (.ite (decide (s3≥(x.1.Regs_.length:Int))) (.leaf (.inl (s3,true))) (.bnd (idx x.1.Regs_ s3) fun y2=>.leaf (.inl (s3,(y2.Kind_ != (3:Int))))))) fun s4=>.ite s4.2 (.leaf (-1:Int)) (.bnd (idx x.1.Regs_ s4.1) fun y3=>.leaf y3.Param_)
noncomputable def k60 (n:Nat):Con P_ Ty_:=conOf (X:=Xf×Xc) (R:=Int) (pro:=[]) (g60_c n) 34 g60_k (by kernel_rfl) (fun x=>.two .no (.two .no (.join Int (g60_e3 x) ⟨[(2,.ref 2),(5,.any)],[(2,.any)]⟩ (.two (.join Bool (g60_e1 x) ⟨[(2,.ref 2),(3,.ref 3),(5,.any),(6,.any)],[(2,.any),(3,.any)]⟩ .no (.two .no (.join Bool (g60_e2 x) ⟨[(2,.ref 2),(3,.ref 3),(5,.any),(21,.any)],[(2,.any),(3,.any)]⟩ .no .no))) .no) (.two (.join (Int×Bool) (g60_e4 x) ⟨[(2,.ref 2),(5,.any),(47,.any)],[(2,.any)]⟩ .no .no) .no)))) [.ag [.im 3,.im 1,.im 4,.im 2],.ag [.any,.any,.any,.any,.any,.any,.any]] [] [] ⟨[(4,.any)],[]⟩ [] true (fun x=>[.ag [.im 3 x.1.Sign_,.im 1 x.1.Regs_,.im 4 x.1.Slots_,.im 2 x.1.List_],.ag [.sc (.int .i64 x.2.Op_),.sc (.int .i64 x.2.D_),.sc (.int .i64 x.2.A_),.sc (.int .i64 x.2.B_),.sc (.int .i64 x.2.C_),.sc (.int .i64 x.2.N_),.sc (.int .u32 x.2.Bits_)]]) (fun x=>[]) (fun y=>([(4,.sc (.int .i64 y))],[])) (fun y=>.sc (.int .i64 y)) (fun y=>[]) (g60_t n) (fun x=>by kernel_rfl) (fun x=>by kernel_rfl) (by kernel_rfl) (fun y=>by kernel_rfl) (fun _ y=>by kernel_rfl)
noncomputable def g10_c (n:Nat):Cx P_ Ty_:=⟨[k27 n],[(20,false,6),(38,false,6),(39,false,6)],[],[]⟩
abbrev g10_k:List (List Nat):=[[1],[1,3],[1,3,4,5],[3,4,5,6],[3,4,5,6,7],[3,4,5,6,7,25],[3,4,5,6,7,32],[3,4,5,6,7],[3,4,5,6,7],[2]]
noncomputable def g10_e1 (x:Xc) (v1:ByteArray×Bool) (q1:Int×(List Int)) (p:Bool):EH Ty_:=([(3,.sw 600001 []),(4,.sc (.string v1.1)),(5,.sc (.bool v1.2)),(6,.sw 20 []),(7,.sc (.int .i64 q1.1)),(25,.sc (.bool p))],[(600001,.typ false 6 q1.2),(20,.typ false 6 ([x.A_,x.B_,x.C_]:List Int))])
noncomputable def g10_t1 (n:Nat) (x:Xc) (v1:ByteArray×Bool) (q1:Int×(List Int)):Pt P_ Ty_ [] (Bo (Int×(List Int)) (Int×(List Int)) Empty):=.join (S:=Bool) (g10_e1 x v1 q1) (.ite v1.2 (.leaf (.inl (decide (q1.1<(3:Int))))) (.leaf (.inl false))) fun s1=>.ite s1 (.need (0≤(W_ (q1.1+(1:Int)))∧(W_ (q1.1+(1:Int)))<(v1.1.size:Int)) (.ite ((byteAt v1.1 (W_ (q1.1+(1:Int)))) != (45:Int)) (.need (0≤q1.1∧q1.1<(([x.A_,x.B_,x.C_]:List Int).length:Int)) (.bnd (([x.A_,x.B_,x.C_]:List Int)[q1.1.toNat]?) fun y2=>.need ((q1.2.length+([y2]:List Int).length) * 8≤140737488355328) (.leaf (.go ((W_ (q1.1+(1:Int))),(q1.2++([y2]:List Int))))))) (.leaf (.go ((W_ (q1.1+(1:Int))),q1.2))))) (.leaf (.out (q1.1,q1.2)))
noncomputable def g10_L1 (n:Nat) (x:Xc) (v1:ByteArray×Bool):LCon P_ Ty_ []:=lcon (X:=Int×(List Int)) (Y:=Int×(List Int)) (Z:=Empty) (g10_c n) (subC [1,1,1,1,0,1,0,0] (fnC P_ 75 g10_k)) (fun q1=>.two (.join Bool (g10_e1 x v1 q1) ⟨[(3,.ref 600001),(4,.any),(5,.any),(6,.ref 20),(7,.any),(25,.any)],[(600001,.any),(20,.any)]⟩ .no .no) .no) 0 false ⟨[(3,.own 600001 false 6),(4,.any),(5,.any),(6,.ref 20),(7,.any)],[(600001,.any),(20,.any)]⟩ ⟨[(3,.ref 600001),(4,.any),(5,.any),(6,.ref 20),(7,.any),(25,.any)],[(600001,.any),(20,.any)]⟩ ⟨[],[]⟩ (fun q1=>([(3,.sw 600001 []),(4,.sc (.string v1.1)),(5,.sc (.bool v1.2)),(6,.sw 20 []),(7,.sc (.int .i64 q1.1))],[(600001,.typ false 6 q1.2),(20,.typ false 6 ([x.A_,x.B_,x.C_]:List Int))])) (fun p=>([(3,.sw 600001 []),(4,.sc (.string v1.1)),(5,.sc (.bool v1.2)),(6,.sw 20 []),(7,.sc (.int .i64 p.1)),(25,.sc (.bool false))],[(600001,.typ false 6 p.2),(20,.typ false 6 ([x.A_,x.B_,x.C_]:List Int))])) (fun p=>nomatch p) n (g10_t1 n x v1) (fun _ z=>nomatch z) (fun q1=>by kernel_rfl)
noncomputable def g10_t (n:Nat) (x:Xc):Pt P_ Ty_ [] (List Int):=.call (k27 n) x.Op_ fun (y1:ByteArray×Bool)=>.loop (V:=ByteArray×Bool) (g10_L1 n x) (y1.1,y1.2) ((0:Int),([]:List Int)) fun (v1:ByteArray×Bool) (y3:Int×(List Int))=>.leaf y3.2
noncomputable def k10 (n:Nat):Con P_ Ty_:=conOf (X:=Xc) (R:=(List Int)) (pro:=[]) (g10_c n) 75 g10_k (by kernel_rfl) (fun x=>.two .no (.two .no (.two .no (.two .no (.two (.two .no (.two (.loop (ByteArray×Bool) (g10_L1 n x) false ⟨[(3,.own 600001 false 6),(4,.any),(5,.any),(6,.ref 20),(7,.any)],[(600001,.any),(20,.any)]⟩) .no)) .no))))) [.ag [.any,.any,.any,.any,.any,.any,.any]] [] [100000] ⟨[(2,.ref 100000)],[(100000,.any)]⟩ [100000] true (fun x=>[.ag [.sc (.int .i64 x.Op_),.sc (.int .i64 x.D_),.sc (.int .i64 x.A_),.sc (.int .i64 x.B_),.sc (.int .i64 x.C_),.sc (.int .i64 x.N_),.sc (.int .u32 x.Bits_)]]) (fun x=>[]) (fun y=>([(2,.sw 100000 [])],[(100000,.typ false 6 y)])) (fun y=>.sw 100000 []) (fun y=>[(100000,.typ false 6 y)]) (g10_t n) (fun x=>by kernel_rfl) (fun x=>by kernel_rfl) (by kernel_rfl) (fun y=>by kernel_rfl) (fun _ y=>by kernel_rfl)
noncomputable def g41_c (n:Nat):Cx P_ Ty_:=⟨[k59 n,k60 n,k10 n],[],[],[]⟩
abbrev g41_k:List (List Nat):=[[2,3,4,5],[2,3,4,5,9],[2,3,5,9,49],[8],[2,3,5,9,10],[2,3,5,9,10,11],[2,3,5,9,10,11,55],[2,3,5,9,10,11,65],[8],[2,3,5,9,10,11],[3,9,67],[3,9,67,68],[3,9,67,68],[8],[3,9,67,74],[8],[9,83],[8],[8]]
noncomputable def g41_e1 (x:Xf×Xc×(List Bool)×(List Xg)) (p:Bool):EH Ty_:=([(2,.im 5 x.2.2.1),(3,.im 8 x.2.2.2),(4,.pt 4 [] 0 0),(5,.pt 5 [] 0 0),(9,.sc (.bool p))],[(4,.lit 4 [[.im 3 x.1.Sign_,.im 1 x.1.Regs_,.im 4 x.1.Slots_,.im 2 x.1.List_]]),(5,.lit 7 [[.sc (.int .i64 x.2.1.Op_),.sc (.int .i64 x.2.1.D_),.sc (.int .i64 x.2.1.A_),.sc (.int .i64 x.2.1.B_),.sc (.int .i64 x.2.1.C_),.sc (.int .i64 x.2.1.N_),.sc (.int .u32 x.2.1.Bits_)]])])
noncomputable def g41_e2 (x:Xf×Xc×(List Bool)×(List Xg)) (p:Bool×Bool):EH Ty_:=([(2,.im 5 x.2.2.1),(3,.im 8 x.2.2.2),(5,.pt 5 [] 0 0),(9,.sc (.bool p.1)),(49,.sc (.bool p.2))],[(5,.lit 7 [[.sc (.int .i64 x.2.1.Op_),.sc (.int .i64 x.2.1.D_),.sc (.int .i64 x.2.1.A_),.sc (.int .i64 x.2.1.B_),.sc (.int .i64 x.2.1.C_),.sc (.int .i64 x.2.1.N_),.sc (.int .u32 x.2.1.Bits_)]])])
noncomputable def g41_e3 (x:Xf×Xc×(List Bool)×(List Xg)) (p:Bool×Bool):EH Ty_:=([(3,.im 8 x.2.2.2),(9,.sc (.bool p.1)),(67,.sc (.int .i64 x.2.1.Op_)),(68,.sc (.bool p.2))],[])
noncomputable def g41_t1 (n:Nat) (x:Xf×Xc×(List Bool)×(List Xg)) (v1:Bool×(List Int)) (q1:Int):Pt P_ Ty_ [] (Bo Int Int Unit):=.ite (decide (q1<(v1.2.length:Int))) (.need (0≤q1∧q1<(v1.2.length:Int)) (.bnd (v1.2[q1.toNat]?) fun y6=>.bnd (idx x.2.2.1 y6) fun y7=>.ite (!y7) (.leaf (.ret ())) (.leaf (.go (W_ (q1+(1:Int))))))) (.leaf (.out q1))
noncomputable def g41_L1 (n:Nat) (x:Xf×Xc×(List Bool)×(List Xg)) (v1:Bool×(List Int)):LCon P_ Ty_ []:=lcon (X:=Int) (Y:=Int) (Z:=Unit) (g41_c n) (subC [1,1,1,1,0,1,0,0] (fnC P_ 53 g41_k)) (fun q1=>.no) 0 true ⟨[(2,.im 5),(3,.im 8),(5,.ref 5),(9,.any),(10,.ref 51),(11,.any)],[(5,.any),(51,.any)]⟩ ⟨[(2,.im 5),(3,.im 8),(5,.ref 5),(9,.any),(10,.ref 51),(11,.any),(55,.any)],[(5,.any),(51,.any)]⟩ ⟨[(8,.any)],[]⟩ (fun q1=>([(2,.im 5 x.2.2.1),(3,.im 8 x.2.2.2),(5,.pt 5 [] 0 0),(9,.sc (.bool v1.1)),(10,.sw 51 []),(11,.sc (.int .i64 q1))],[(5,.lit 7 [[.sc (.int .i64 x.2.1.Op_),.sc (.int .i64 x.2.1.D_),.sc (.int .i64 x.2.1.A_),.sc (.int .i64 x.2.1.B_),.sc (.int .i64 x.2.1.C_),.sc (.int .i64 x.2.1.N_),.sc (.int .u32 x.2.1.Bits_)]]),(51,.typ false 6 v1.2)])) (fun p=>([(2,.im 5 x.2.2.1),(3,.im 8 x.2.2.2),(5,.pt 5 [] 0 0),(9,.sc (.bool v1.1)),(10,.sw 51 []),(11,.sc (.int .i64 p)),(55,.sc (.bool false))],[(5,.lit 7 [[.sc (.int .i64 x.2.1.Op_),.sc (.int .i64 x.2.1.D_),.sc (.int .i64 x.2.1.A_),.sc (.int .i64 x.2.1.B_),.sc (.int .i64 x.2.1.C_),.sc (.int .i64 x.2.1.N_),.sc (.int .u32 x.2.1.Bits_)]]),(51,.typ false 6 v1.2)])) (fun p=>([(8,.sc (.bool false))],[])) n (g41_t1 n x v1) (fun h=>nomatch h) (fun q1=>by kernel_rfl)
noncomputable def g41_t (n:Nat) (x:Xf×Xc×(List Bool)×(List Xg)):Pt P_ Ty_ [] Bool:=.join (S:=Bool) (g41_e1 x) (.ite (decide ((x.2.2.2.length:Int) > (0:Int))) (.bnd (idx x.2.2.2 (W_ ((x.2.2.2.length:Int) - (1:Int)))) fun y1=>.leaf (.inl (y1.Op_==(36:Int)))) (.leaf (.inl false))) fun s1=>.join (S:=Bool×Bool) (g41_e2 x) (.call (k59 n) (x.1,x.2.1) fun (y2:Bool)=>.ite (!y2) (.leaf (.inl (s1,true))) (.ite s1 (.ite (x.2.1.Op_ != (37:Int)) (.call (k60 n) (x.1,x.2.1) fun (y3:Int)=>.bnd (idx x.2.2.2 (W_ ((x.2.2.2.length:Int) - (1:Int)))) fun y4=>.leaf (.inl (s1,(y3 != y4.Param_)))) (.leaf (.inl (s1,false)))) (.leaf (.inl (s1,false))))) fun s2=>.ite s2.2 (.leaf false) (.call (k10 n) x.2.1 fun (y5:(List Int))=>.loopR (V:=Bool×(List Int)) (g41_L1 n x) (s2.1,y5) (0:Int) (fun (v1:Bool×(List Int)) (y8:Int)=>.join (S:=Bool×Bool) (g41_e3 x) (.ite (x.2.1.Op_==(34:Int)) (.leaf (.inl (v1.1,true))) (.leaf (.inl (v1.1,(x.2.1.Op_==(36:Int)))))) fun s3=>.ite s3.2 (.leaf (decide ((x.2.2.2.length:Int)<(64:Int)))) (.ite (x.2.1.Op_==(35:Int)) (.ite (decide ((x.2.2.2.length:Int) > (0:Int))) (.leaf (!s3.1)) (.leaf false)) (.ite (x.2.1.Op_==(37:Int)) (.leaf s3.1) (.leaf true)))) fun (v1:Bool×(List Int)) (z1:Unit)=>.leaf false)
noncomputable def k41 (n:Nat):Con P_ Ty_:=conOf (X:=Xf×Xc×(List Bool)×(List Xg)) (R:=Bool) (pro:=[]) (g41_c n) 53 g41_k (by kernel_rfl) (fun x=>.two .no (.join Bool (g41_e1 x) ⟨[(2,.im 5),(3,.im 8),(4,.ref 4),(5,.ref 5),(9,.any)],[(4,.any),(5,.any)]⟩ .no (.two (.join (Bool×Bool) (g41_e2 x) ⟨[(2,.im 5),(3,.im 8),(5,.ref 5),(9,.any),(49,.any)],[(5,.any)]⟩ .no .no) (.two .no (.two (.two .no (.two (.loop (Bool×(List Int)) (g41_L1 n x) true ⟨[(2,.im 5),(3,.im 8),(5,.ref 5),(9,.any),(10,.ref 51),(11,.any)],[(5,.any),(51,.any)]⟩) .no)) (.two (.two .no (.two (.join (Bool×Bool) (g41_e3 x) ⟨[(3,.im 8),(9,.any),(67,.any),(68,.any)],[]⟩ .no .no) .no)) .no)))))) [.ag [.im 3,.im 1,.im 4,.im 2],.ag [.any,.any,.any,.any,.any,.any,.any],.im 5,.im 8] [] [] ⟨[(8,.any)],[]⟩ [] true (fun x=>[.ag [.im 3 x.1.Sign_,.im 1 x.1.Regs_,.im 4 x.1.Slots_,.im 2 x.1.List_],.ag [.sc (.int .i64 x.2.1.Op_),.sc (.int .i64 x.2.1.D_),.sc (.int .i64 x.2.1.A_),.sc (.int .i64 x.2.1.B_),.sc (.int .i64 x.2.1.C_),.sc (.int .i64 x.2.1.N_),.sc (.int .u32 x.2.1.Bits_)],.im 5 x.2.2.1,.im 8 x.2.2.2]) (fun x=>[]) (fun y=>([(8,.sc (.bool y))],[])) (fun y=>.sc (.bool y)) (fun y=>[]) (g41_t n) (fun x=>by kernel_rfl) (fun x=>by kernel_rfl) (by kernel_rfl) (fun y=>by kernel_rfl) (fun _ y=>by kernel_rfl)
noncomputable def g42_c (n:Nat):Cx P_ Ty_:=⟨[],[(6,false,5)],[],[]⟩
abbrev g42_k:List (List Nat):=[[0],[0,3],[2]]
noncomputable def g42_t (n:Nat) (x:(List Bool)):Pt P_ Ty_ [] (List Bool):=.need (x.length * 1≤140737488355328) (.leaf x)
noncomputable def k42 (n:Nat):Con P_ Ty_:=conOf (X:=(List Bool)) (R:=(List Bool)) (pro:=[]) (g42_c n) 54 g42_k (by kernel_rfl) (fun x=>.no) [.im 5] [] [100000] ⟨[(2,.ref 100000)],[(100000,.any)]⟩ [100000] true (fun x=>[.im 5 x]) (fun x=>[]) (fun y=>([(2,.sw 100000 [])],[(100000,.typ false 5 y)])) (fun y=>.sw 100000 []) (fun y=>[(100000,.typ false 5 y)]) (g42_t n) (fun x=>by kernel_rfl) (fun x=>by kernel_rfl) (by kernel_rfl) (fun y=>by kernel_rfl) (fun _ y=>by kernel_rfl)
noncomputable def g12_c (n:Nat):Cx P_ Ty_:=⟨[k27 n],[],[],[]⟩
abbrev g12_k:List (List Nat):=[[1],[3,4],[2]]
noncomputable def g12_t (n:Nat) (x:Xc):Pt P_ Ty_ [] Bool:=.call (k27 n) x.Op_ fun (y1:ByteArray×Bool)=>.ite y1.2 (.need (0≤(0:Int)∧(0:Int)<(y1.1.size:Int)) (.leaf ((byteAt y1.1 (0:Int)) != (45:Int)))) (.leaf false)
noncomputable def k12 (n:Nat):Con P_ Ty_:=conOf (X:=Xc) (R:=Bool) (pro:=[]) (g12_c n) 33 g12_k (by kernel_rfl) (fun x=>.no) [.ag [.any,.any,.any,.any,.any,.any,.any]] [] [] ⟨[(2,.any)],[]⟩ [] true (fun x=>[.ag [.sc (.int .i64 x.Op_),.sc (.int .i64 x.D_),.sc (.int .i64 x.A_),.sc (.int .i64 x.B_),.sc (.int .i64 x.C_),.sc (.int .i64 x.N_),.sc (.int .u32 x.Bits_)]]) (fun x=>[]) (fun y=>([(2,.sc (.bool y))],[])) (fun y=>.sc (.bool y)) (fun y=>[]) (g12_t n) (fun x=>by kernel_rfl) (fun x=>by kernel_rfl) (by kernel_rfl) (fun y=>by kernel_rfl) (fun _ y=>by kernel_rfl)
noncomputable def g21_c (n:Nat):Cx P_ Ty_:=⟨[k38 n,k39 n,k40 n,k41 n,k42 n,k12 n],[(75,false,5),(76,false,5),(113,true,8),(114,true,8)],[113],[]⟩
abbrev g21_k:List (List Nat):=[[1],[1,4],[1,4,15],[2,3],[1,19],[2,3],[1,30],[2,3],[1,5],[1,5,39],[1,5,50],[2,3],[1,5],[1,6],[1,6,55],[1,6,66],[2,3],[1,6],[1,7],[1,7,8],[1,7,8,71],[1,7,8],[1,7,8],[1,7,9],[1,7,9,10],[1,7,9,10,81],[1,7,9,10,11],[1,7,9,10,11,94],[2,3],[1,7,9,10,11,96],[1,7,9,10],[1,7,9,10,11,115],[1,7,9,10],[1,7,9,10],[1,7,9,10,11,132],[1,7,9,10],[1,7,9,10,11,141],[1,7,9,10],[1,7,9,10],[1,150],[2,3],[2,3]]
noncomputable def g21_e1 (x:Xf) (p:Bool):EH Ty_:=([(1,.pt 1 [] 0 0),(19,.sc (.bool p))],[(1,.lit 4 [[.im 3 x.Sign_,.im 1 x.Regs_,.im 4 x.Slots_,.im 2 x.List_]])])
noncomputable def g21_e2 (x:Xf) (v4:Unit) (q4:Int×(List Bool)×(List Xg)) (p:Bool×Int×Int×Int×Int×Int×Int×Int):EH Ty_:=([(1,.pt 1 [] 0 0),(7,.sw 600002 []),(9,.sw 600003 []),(10,.sc (.int .i64 q4.1)),(11,.pt 11 [] 0 0),(96,.sc (.bool p.1))],[(1,.lit 4 [[.im 3 x.Sign_,.im 1 x.Regs_,.im 4 x.Slots_,.im 2 x.List_]]),(600002,.typ false 5 q4.2.1),(600003,.typ true 8 q4.2.2),(11,.lit 7 [[.sc (.int .i64 p.2.1),.sc (.int .i64 p.2.2.1),.sc (.int .i64 p.2.2.2.1),.sc (.int .i64 p.2.2.2.2.1),.sc (.int .i64 p.2.2.2.2.2.1),.sc (.int .i64 p.2.2.2.2.2.2.1),.sc (.int .u32 p.2.2.2.2.2.2.2)]])])
noncomputable def g21_t1 (n:Nat) (x:Xf) (v1:Unit) (q1:Int):Pt P_ Ty_ [] (Bo Int Int Unit):=.ite (decide (q1<(x.Regs_.length:Int))) (.bnd (idx x.Regs_ q1) fun y2=>.call (k39 n) (y2,x.Sign_) fun (y3:Bool)=>.ite (!y3) (.leaf (.ret ())) (.leaf (.go (W_ (q1+(1:Int)))))) (.leaf (.out q1))
noncomputable def g21_L1 (n:Nat) (x:Xf) (v1:Unit):LCon P_ Ty_ []:=lcon (X:=Int) (Y:=Int) (Z:=Unit) (g21_c n) (subC [1,1,1,0,1,0,0] (fnC P_ 27 g21_k)) (fun q1=>.no) 1 true ⟨[(1,.ref 1),(5,.any)],[(1,.any)]⟩ ⟨[(1,.ref 1),(5,.any),(39,.any)],[(1,.any)]⟩ ⟨[(2,.any),(3,.any)],[]⟩ (fun q1=>([(1,.pt 1 [] 0 0),(5,.sc (.int .i64 q1))],[(1,.lit 4 [[.im 3 x.Sign_,.im 1 x.Regs_,.im 4 x.Slots_,.im 2 x.List_]])])) (fun p=>([(1,.pt 1 [] 0 0),(5,.sc (.int .i64 p)),(39,.sc (.bool false))],[(1,.lit 4 [[.im 3 x.Sign_,.im 1 x.Regs_,.im 4 x.Slots_,.im 2 x.List_]])])) (fun p=>([(2,.sc (.int .i64 (160:Int))),(3,.sc (.int .i64 (-1:Int)))],[])) n (g21_t1 n x v1) (fun h=>nomatch h) (fun q1=>by kernel_rfl)
noncomputable def g21_t2 (n:Nat) (x:Xf) (v2:Unit) (q2:Int):Pt P_ Ty_ [] (Bo Int Int Unit):=.ite (decide (q2<(x.Slots_.length:Int))) (.bnd (idx x.Slots_ q2) fun y5=>.call (k40 n) (y5,x.Sign_) fun (y6:Bool)=>.ite (!y6) (.leaf (.ret ())) (.leaf (.go (W_ (q2+(1:Int)))))) (.leaf (.out q2))
noncomputable def g21_L2 (n:Nat) (x:Xf) (v2:Unit):LCon P_ Ty_ []:=lcon (X:=Int) (Y:=Int) (Z:=Unit) (g21_c n) (subC [1,1,1,1,0,1,0,0] (fnC P_ 27 g21_k)) (fun q2=>.no) 3 true ⟨[(1,.ref 1),(6,.any)],[(1,.any)]⟩ ⟨[(1,.ref 1),(6,.any),(55,.any)],[(1,.any)]⟩ ⟨[(2,.any),(3,.any)],[]⟩ (fun q2=>([(1,.pt 1 [] 0 0),(6,.sc (.int .i64 q2))],[(1,.lit 4 [[.im 3 x.Sign_,.im 1 x.Regs_,.im 4 x.Slots_,.im 2 x.List_]])])) (fun p=>([(1,.pt 1 [] 0 0),(6,.sc (.int .i64 p)),(55,.sc (.bool false))],[(1,.lit 4 [[.im 3 x.Sign_,.im 1 x.Regs_,.im 4 x.Slots_,.im 2 x.List_]])])) (fun p=>([(2,.sc (.int .i64 (160:Int))),(3,.sc (.int .i64 (-1:Int)))],[])) n (g21_t2 n x v2) (fun h=>nomatch h) (fun q2=>by kernel_rfl)
noncomputable def g21_t3 (n:Nat) (x:Xf) (v3:Unit) (q3:Int×(List Bool)):Pt P_ Ty_ [] (Bo (Int×(List Bool)) (Int×(List Bool)) Empty):=.ite (decide (q3.1<(x.Regs_.length:Int))) (.need ((q3.2.length+([false]:List Bool).length) * 1≤140737488355328) (.leaf (.go ((W_ (q3.1+(1:Int))),(q3.2++([false]:List Bool)))))) (.leaf (.out (q3.1,q3.2)))
noncomputable def g21_L3 (n:Nat) (x:Xf) (v3:Unit):LCon P_ Ty_ []:=lcon (X:=Int×(List Bool)) (Y:=Int×(List Bool)) (Z:=Empty) (g21_c n) (subC [1,1,1,1,1,1,0,1,0,0] (fnC P_ 27 g21_k)) (fun q3=>.no) 5 false ⟨[(1,.ref 1),(7,.own 600001 false 5),(8,.any)],[(1,.any),(600001,.any)]⟩ ⟨[(1,.ref 1),(7,.ref 600001),(8,.any),(71,.any)],[(1,.any),(600001,.any)]⟩ ⟨[],[]⟩ (fun q3=>([(1,.pt 1 [] 0 0),(7,.sw 600001 []),(8,.sc (.int .i64 q3.1))],[(1,.lit 4 [[.im 3 x.Sign_,.im 1 x.Regs_,.im 4 x.Slots_,.im 2 x.List_]]),(600001,.typ false 5 q3.2)])) (fun p=>([(1,.pt 1 [] 0 0),(7,.sw 600001 []),(8,.sc (.int .i64 p.1)),(71,.sc (.bool false))],[(1,.lit 4 [[.im 3 x.Sign_,.im 1 x.Regs_,.im 4 x.Slots_,.im 2 x.List_]]),(600001,.typ false 5 p.2)])) (fun p=>nomatch p) n (g21_t3 n x v3) (fun _ z=>nomatch z) (fun q3=>by kernel_rfl)
noncomputable def g21_t4 (n:Nat) (x:Xf) (v4:Unit) (q4:Int×(List Bool)×(List Xg)):Pt P_ Ty_ [] (Bo (Int×(List Bool)×(List Xg)) (Int×(List Bool)×(List Xg)) Int):=.ite (decide (q4.1<(x.List_.length:Int))) (.bnd (idx x.List_ q4.1) fun y9=>.call (k41 n) (x,y9,q4.2.1,q4.2.2) fun (y10:Bool)=>.ite (!y10) (.leaf (.ret q4.1)) (.join (S:=Bool×Int×Int×Int×Int×Int×Int×Int) (g21_e2 x v4 q4) (.ite (y9.Op_==(34:Int)) (.leaf (.inl (true,y9.Op_,y9.D_,y9.A_,y9.B_,y9.C_,y9.N_,y9.Bits_))) (.leaf (.inl ((y9.Op_==(36:Int)),y9.Op_,y9.D_,y9.A_,y9.B_,y9.C_,y9.N_,y9.Bits_)))) fun s2=>.ite s2.1 (.call (k42 n) q4.2.1 fun (y11:(List Bool))=>.need ((q4.2.2.length+([(⟨s2.2.1,s2.2.2.2.2.2.2.1,y11⟩:Xg)]:List Xg).length) * 40≤140737488355328) (.leaf (.go ((W_ (q4.1+(1:Int))),q4.2.1,(q4.2.2++([(⟨s2.2.1,s2.2.2.2.2.2.2.1,y11⟩:Xg)]:List Xg)))))) (.ite (s2.2.1==(35:Int)) (.need (0≤(W_ ((q4.2.2.length:Int) - (1:Int)))∧(W_ ((q4.2.2.length:Int) - (1:Int)))<(q4.2.2.length:Int)) (.bnd (q4.2.2[(W_ ((q4.2.2.length:Int) - (1:Int))).toNat]?) fun y12=>.bnd (q4.2.2[(W_ ((q4.2.2.length:Int) - (1:Int))).toNat]?) fun y13=>.call (k42 n) y13.Set_ fun (y14:(List Bool))=>.need (0≤(W_ ((q4.2.2.length:Int) - (1:Int)))∧(W_ ((q4.2.2.length:Int) - (1:Int)))≤(q4.2.2.length:Int)) (.need ((W_ ((q4.2.2.length:Int) - (1:Int))).toNat≤q4.2.2.length) (.leaf (.go ((W_ (q4.1+(1:Int))),y14,(q4.2.2.take ((W_ ((q4.2.2.length:Int) - (1:Int))).toNat)))))))) (.ite (s2.2.1==(37:Int)) (.need (0≤(W_ ((q4.2.2.length:Int) - (1:Int)))∧(W_ ((q4.2.2.length:Int) - (1:Int)))≤(q4.2.2.length:Int)) (.need ((W_ ((q4.2.2.length:Int) - (1:Int))).toNat≤q4.2.2.length) (.leaf (.go ((W_ (q4.1+(1:Int))),q4.2.1,(q4.2.2.take ((W_ ((q4.2.2.length:Int) - (1:Int))).toNat))))))) (.call (k12 n) (⟨s2.2.1,s2.2.2.1,s2.2.2.2.1,s2.2.2.2.2.1,s2.2.2.2.2.2.1,s2.2.2.2.2.2.2.1,s2.2.2.2.2.2.2.2⟩:Xc) fun (y15:Bool)=>.ite y15 (.need (0≤s2.2.2.1∧s2.2.2.1<(q4.2.1.length:Int)) (.bnd (q4.2.1[s2.2.2.1.toNat]?) fun y16=>.leaf (.go ((W_ (q4.1+(1:Int))),(q4.2.1.set s2.2.2.1.toNat true),q4.2.2)))) (.leaf (.go ((W_ (q4.1+(1:Int))),q4.2.1,q4.2.2)))))))) (.leaf (.out (q4.1,q4.2.1,q4.2.2)))
noncomputable def g21_L4 (n:Nat) (x:Xf) (v4:Unit):LCon P_ Ty_ []:=lcon (X:=Int×(List Bool)×(List Xg)) (Y:=Int×(List Bool)×(List Xg)) (Z:=Int) (g21_c n) (subC [1,1,1,1,1,1,1,1,0,1,0,0] (fnC P_ 27 g21_k)) (fun q4=>.two .no (.two (.two (.two .no (.two .no (.two (.join (Bool×Int×Int×Int×Int×Int×Int×Int) (g21_e2 x v4 q4) ⟨[(1,.ref 1),(7,.ref 600002),(9,.ref 600003),(10,.any),(11,.ref 11),(96,.any)],[(1,.any),(600002,.any),(600003,.any),(11,.any)]⟩ .no .no) .no))) .no) .no)) 7 true ⟨[(1,.ref 1),(7,.ref 600002),(9,.own 600003 true 8),(10,.any)],[(1,.any),(600002,.any),(600003,.any)]⟩ ⟨[(1,.ref 1),(7,.ref 600002),(9,.ref 600003),(10,.any),(81,.any)],[(1,.any),(600002,.any),(600003,.any)]⟩ ⟨[(2,.any),(3,.any)],[]⟩ (fun q4=>([(1,.pt 1 [] 0 0),(7,.sw 600002 []),(9,.sw 600003 []),(10,.sc (.int .i64 q4.1))],[(1,.lit 4 [[.im 3 x.Sign_,.im 1 x.Regs_,.im 4 x.Slots_,.im 2 x.List_]]),(600002,.typ false 5 q4.2.1),(600003,.typ true 8 q4.2.2)])) (fun p=>([(1,.pt 1 [] 0 0),(7,.sw 600002 []),(9,.sw 600003 []),(10,.sc (.int .i64 p.1)),(81,.sc (.bool false))],[(1,.lit 4 [[.im 3 x.Sign_,.im 1 x.Regs_,.im 4 x.Slots_,.im 2 x.List_]]),(600002,.typ false 5 p.2.1),(600003,.typ true 8 p.2.2)])) (fun p=>([(2,.sc (.int .i64 (160:Int))),(3,.sc (.int .i64 p))],[])) n (g21_t4 n x v4) (fun h=>nomatch h) (fun q4=>by kernel_rfl)
noncomputable def g21_t (n:Nat) (x:Xf):Pt P_ Ty_ [] (Int×Int):=.call (k38 n) x.Sign_ fun (y1:Int)=>.ite (y1 != (0:Int)) (.leaf (y1,(-1:Int))) (.join (S:=Bool) (g21_e1 x) (.ite (decide ((x.Regs_.length:Int) > (16384:Int))) (.leaf (.inl true)) (.leaf (.inl (decide ((x.List_.length:Int) > (32768:Int)))))) fun s1=>.ite s1 (.leaf ((181:Int),(-1:Int))) (.ite (decide ((x.Slots_.length:Int) > (4096:Int))) (.leaf ((180:Int),(-1:Int))) (.loopR (V:=Unit) (g21_L1 n x) () (0:Int) (fun (v1:Unit) (y4:Int)=>.loopR (V:=Unit) (g21_L2 n x) () (0:Int) (fun (v2:Unit) (y7:Int)=>.loop (V:=Unit) (g21_L3 n x) () ((0:Int),([]:List Bool)) fun (v3:Unit) (y8:Int×(List Bool))=>.loopR (V:=Unit) (g21_L4 n x) () ((0:Int),y8.2,([]:List Xg)) (fun (v4:Unit) (y17:Int×(List Bool)×(List Xg))=>.ite (decide ((y17.2.2.length:Int) > (0:Int))) (.leaf ((160:Int),(x.List_.length:Int))) (.leaf ((0:Int),(0:Int)))) fun (v4:Unit) (z3:Int)=>.leaf ((160:Int),z3)) fun (v2:Unit) (z2:Unit)=>.leaf ((160:Int),(-1:Int))) fun (v1:Unit) (z1:Unit)=>.leaf ((160:Int),(-1:Int)))))
noncomputable def k21 (n:Nat):Con P_ Ty_:=conOf (X:=Xf) (R:=Int×Int) (pro:=[]) (g21_c n) 27 g21_k (by kernel_rfl) (fun x=>.two .no (.two .no (.two (.two (.two .no (.two .no (.join Bool (g21_e1 x) ⟨[(1,.ref 1),(19,.any)],[(1,.any)]⟩ .no .no))) .no) (.two (.two .no (.two (.loop Unit (g21_L1 n x) true ⟨[(1,.ref 1),(5,.any)],[(1,.any)]⟩) .no)) (.two (.two .no (.two (.loop Unit (g21_L2 n x) true ⟨[(1,.ref 1),(6,.any)],[(1,.any)]⟩) .no)) (.two .no (.two (.two .no (.two (.loop Unit (g21_L3 n x) false ⟨[(1,.ref 1),(7,.own 600001 false 5),(8,.any)],[(1,.any),(600001,.any)]⟩) .no)) (.two .no (.two (.two .no (.two (.loop Unit (g21_L4 n x) true ⟨[(1,.ref 1),(7,.ref 600002),(9,.own 600003 true 8),(10,.any)],[(1,.any),(600002,.any),(600003,.any)]⟩) .no)) .no))))))))) [.ag [.im 3,.im 1,.im 4,.im 2]] [] [] ⟨[(2,.any),(3,.any)],[]⟩ [] true (fun x=>[.ag [.im 3 x.Sign_,.im 1 x.Regs_,.im 4 x.Slots_,.im 2 x.List_]]) (fun x=>[]) (fun y=>([(2,.sc (.int .i64 y.1)),(3,.sc (.int .i64 y.2))],[])) (fun y=>.tu [.sc (.int .i64 y.1),.sc (.int .i64 y.2)]) (fun y=>[]) (g21_t n) (fun x=>by kernel_rfl) (fun x=>by kernel_rfl) (by kernel_rfl) (fun y=>by kernel_rfl) (fun _ y=>by kernel_rfl)
noncomputable def g125_c (n:Nat):Cx P_ Ty_:=⟨[k21 n],[],[],[]⟩
abbrev g125_k:List (List Nat):=[[1],[3],[2]]
noncomputable def g125_t (n:Nat) (x:Xf):Pt P_ Ty_ [] Bool:=.call (k21 n) x fun (y1:Int×Int)=>.leaf (y1.1==(0:Int))
noncomputable def k125 (n:Nat):Con P_ Ty_:=conOf (X:=Xf) (R:=Bool) (pro:=[]) (g125_c n) 11 g125_k (by kernel_rfl) (fun x=>.no) [.ag [.im 3,.im 1,.im 4,.im 2]] [] [] ⟨[(2,.any)],[]⟩ [] true (fun x=>[.ag [.im 3 x.Sign_,.im 1 x.Regs_,.im 4 x.Slots_,.im 2 x.List_]]) (fun x=>[]) (fun y=>([(2,.sc (.bool y))],[])) (fun y=>.sc (.bool y)) (fun y=>[]) (g125_t n) (fun x=>by kernel_rfl) (fun x=>by kernel_rfl) (by kernel_rfl) (fun y=>by kernel_rfl) (fun _ y=>by kernel_rfl)
noncomputable def g127_c (n:Nat):Cx P_ Ty_:=⟨[],[(7,false,2),(9,false,3),(12,false,1)],[],[]⟩
abbrev g127_k:List (List Nat):=[[0],[0,1],[0,1,2],[0]]
noncomputable def g127_t (n:Nat) (x:Unit):Pt P_ Ty_ [] Unit:=.leaf ()
noncomputable def k127 (n:Nat):Con P_ Ty_:=conOf (X:=Unit) (R:=Unit) (pro:=[]) (g127_c n) 28 g127_k (by kernel_rfl) (fun x=>.no) [] [] [100000] ⟨[(0,.ref 100000)],[(100000,.any)]⟩ [100000] true (fun x=>[]) (fun x=>[]) (fun y=>([(0,.pt 100000 [] 0 0)],[(100000,.lit 4 [[.ow false 3 ([(⟨(⟨#[119]⟩:ByteArray),(1:Int),(2:Int)⟩:Xd)]:List Xd),.ow false 1 ([(⟨(3:Int),(0:Int)⟩:Xb),(⟨(3:Int),(0:Int)⟩:Xb)]:List Xb),.zs,.ow false 2 ([(⟨(29:Int),(0:Int),(0:Int),(0:Int),(0:Int),(0:Int),(0:Int)⟩:Xc),(⟨(12:Int),(1:Int),(0:Int),(0:Int),(0:Int),(0:Int),(0:Int)⟩:Xc),(⟨(31:Int),(0:Int),(1:Int),(0:Int),(0:Int),(0:Int),(0:Int)⟩:Xc)]:List Xc)]])])) (fun y=>.ag [.sw 100000 [(0,0)],.sw 100000 [(0,1)],.zs,.sw 100000 [(0,3)]]) (fun y=>[(100000,.lit 4 [[.ow false 3 ([(⟨(⟨#[119]⟩:ByteArray),(1:Int),(2:Int)⟩:Xd)]:List Xd),.ow false 1 ([(⟨(3:Int),(0:Int)⟩:Xb),(⟨(3:Int),(0:Int)⟩:Xb)]:List Xb),.zs,.ow false 2 ([(⟨(29:Int),(0:Int),(0:Int),(0:Int),(0:Int),(0:Int),(0:Int)⟩:Xc),(⟨(12:Int),(1:Int),(0:Int),(0:Int),(0:Int),(0:Int),(0:Int)⟩:Xc),(⟨(31:Int),(0:Int),(1:Int),(0:Int),(0:Int),(0:Int),(0:Int)⟩:Xc)]:List Xc)]])]) (g127_t n) (fun x=>by kernel_rfl) (fun x=>by kernel_rfl) (by kernel_rfl) (fun y=>by kernel_rfl) (fun _ y=>by kernel_rfl)
noncomputable def g134_c (n:Nat):Cx P_ Ty_:=⟨[],[],[],[]⟩
abbrev g134_k:List (List Nat):=[[2,3],[2,3,7],[4],[4]]
noncomputable def g134_t (n:Nat) (x:Xf×Xb):Pt P_ Ty_ [] Int:=.ite (x.2.Kind_==(3:Int)) (.bnd (idx x.1.Sign_ x.2.Param_) fun y1=>.leaf y1.Len_) (.leaf (1:Int))
noncomputable def k134 (n:Nat):Con P_ Ty_:=conOf (X:=Xf×Xb) (R:=Int) (pro:=[]) (g134_c n) 77 g134_k (by kernel_rfl) (fun x=>.no) [.ag [.im 3,.im 1,.im 4,.im 2],.ag [.any,.any]] [] [] ⟨[(4,.any)],[]⟩ [] true (fun x=>[.ag [.im 3 x.1.Sign_,.im 1 x.1.Regs_,.im 4 x.1.Slots_,.im 2 x.1.List_],.ag [.sc (.int .i64 x.2.Kind_),.sc (.int .i64 x.2.Param_)]]) (fun x=>[]) (fun y=>([(4,.sc (.int .i64 y))],[])) (fun y=>.sc (.int .i64 y)) (fun y=>[]) (g134_t n) (fun x=>by kernel_rfl) (fun x=>by kernel_rfl) (by kernel_rfl) (fun y=>by kernel_rfl) (fun _ y=>by kernel_rfl)
noncomputable def g137_c (n:Nat):Cx P_ Ty_:=⟨[],[],[],[]⟩
abbrev g137_k:List (List Nat):=[[0],[2]]
noncomputable def g137_t (n:Nat) (x:Int):Pt P_ Ty_ [] Bool:=.leaf (decide ((x.tmod (2147483648:Int)) > (2139095040:Int)))
noncomputable def k137 (n:Nat):Con P_ Ty_:=conOf (X:=Int) (R:=Bool) (pro:=[]) (g137_c n) 102 g137_k (by kernel_rfl) (fun x=>.no) [.any] [] [] ⟨[(2,.any)],[]⟩ [] true (fun x=>[.sc (.int .i64 x)]) (fun x=>[]) (fun y=>([(2,.sc (.bool y))],[])) (fun y=>.sc (.bool y)) (fun y=>[]) (g137_t n) (fun x=>by kernel_rfl) (fun x=>by kernel_rfl) (by kernel_rfl) (fun y=>by kernel_rfl) (fun _ y=>by kernel_rfl)
noncomputable def g136_c (n:Nat):Cx P_ Ty_:=⟨[k137 n],[],[],[]⟩
abbrev g136_k:List (List Nat):=[[0],[0,4],[2],[2]]
noncomputable def g136_t (n:Nat) (x:Int):Pt P_ Ty_ [] Int:=.call (k137 n) x fun (y1:Bool)=>.ite y1 (.leaf (2143289344:Int)) (.leaf x)
noncomputable def k136 (n:Nat):Con P_ Ty_:=conOf (X:=Int) (R:=Int) (pro:=[]) (g136_c n) 89 g136_k (by kernel_rfl) (fun x=>.no) [.any] [] [] ⟨[(2,.any)],[]⟩ [] true (fun x=>[.sc (.int .i64 x)]) (fun x=>[]) (fun y=>([(2,.sc (.int .i64 y))],[])) (fun y=>.sc (.int .i64 y)) (fun y=>[]) (g136_t n) (fun x=>by kernel_rfl) (fun x=>by kernel_rfl) (by kernel_rfl) (fun y=>by kernel_rfl) (fun _ y=>by kernel_rfl)
noncomputable def g135_c (n:Nat):Cx P_ Ty_:=⟨[k136 n],[(22,false,6),(23,false,6)],[],[]⟩
abbrev g135_k:List (List Nat):=[[0,1],[0,1,13],[4,5],[0,1,6],[0,1,6,7],[0,1,6,7,16],[0,1,6,7],[0,1,6,7],[4,5]]
noncomputable def g135_e1 (x:Int×Int) (p:Bool):EH Ty_:=([(0,.sc (.int .i64 x.1)),(1,.sc (.int .i64 x.2)),(13,.sc (.bool p))],[])
noncomputable def g135_t1 (n:Nat) (x:Int×Int) (v1:Unit) (q1:Int×(List Int)):Pt P_ Ty_ [] (Bo (Int×(List Int)) (Int×(List Int)) Empty):=.ite (decide (q1.1<x.1)) (.call (k136 n) x.2 fun (y1:Int)=>.need ((q1.2.length+([y1]:List Int).length) * 8≤140737488355328) (.leaf (.go ((W_ (q1.1+(1:Int))),(q1.2++([y1]:List Int)))))) (.leaf (.out (q1.1,q1.2)))
noncomputable def g135_L1 (n:Nat) (x:Int×Int) (v1:Unit):LCon P_ Ty_ []:=lcon (X:=Int×(List Int)) (Y:=Int×(List Int)) (Z:=Empty) (g135_c n) (subC [1,1,1,0,1,0,0] (fnC P_ 76 g135_k)) (fun q1=>.no) 0 false ⟨[(0,.any),(1,.any),(6,.own 600001 false 6),(7,.any)],[(600001,.any)]⟩ ⟨[(0,.any),(1,.any),(6,.ref 600001),(7,.any),(16,.any)],[(600001,.any)]⟩ ⟨[],[]⟩ (fun q1=>([(0,.sc (.int .i64 x.1)),(1,.sc (.int .i64 x.2)),(6,.sw 600001 []),(7,.sc (.int .i64 q1.1))],[(600001,.typ false 6 q1.2)])) (fun p=>([(0,.sc (.int .i64 x.1)),(1,.sc (.int .i64 x.2)),(6,.sw 600001 []),(7,.sc (.int .i64 p.1)),(16,.sc (.bool false))],[(600001,.typ false 6 p.2)])) (fun p=>nomatch p) n (g135_t1 n x v1) (fun _ z=>nomatch z) (fun q1=>by kernel_rfl)
noncomputable def g135_t (n:Nat) (x:Int×Int):Pt P_ Ty_ [] (Int×(List Int)):=.join (S:=Bool) (g135_e1 x) (.ite (decide (x.1<(0:Int))) (.leaf (.inl true)) (.leaf (.inl (decide (x.1 > (65536:Int)))))) fun s1=>.ite s1 (.leaf ((1:Int),([]:List Int))) (.loop (V:=Unit) (g135_L1 n x) () ((0:Int),([]:List Int)) fun (v1:Unit) (y2:Int×(List Int))=>.leaf ((0:Int),y2.2))
noncomputable def k135 (n:Nat):Con P_ Ty_:=conOf (X:=Int×Int) (R:=Int×(List Int)) (pro:=[]) (g135_c n) 76 g135_k (by kernel_rfl) (fun x=>.two .no (.two (.join Bool (g135_e1 x) ⟨[(0,.any),(1,.any),(13,.any)],[]⟩ .no .no) (.two .no (.two (.two .no (.two (.loop Unit (g135_L1 n x) false ⟨[(0,.any),(1,.any),(6,.own 600001 false 6),(7,.any)],[(600001,.any)]⟩) .no)) .no)))) [.any,.any] [] [100000] ⟨[(4,.own 100000 false 6),(5,.any)],[(100000,.any)]⟩ [100000] true (fun x=>[.sc (.int .i64 x.1),.sc (.int .i64 x.2)]) (fun x=>[]) (fun y=>([(4,.sw 100000 []),(5,.sc (.int .i64 y.1))],[(100000,.typ false 6 y.2)])) (fun y=>.tu [.sw 100000 [],.sc (.int .i64 y.1)]) (fun y=>[(100000,.typ false 6 y.2)]) (g135_t n) (fun x=>by kernel_rfl) (fun x=>by kernel_rfl) (by kernel_rfl) (fun y=>by kernel_rfl) (fun _ y=>by kernel_rfl)
noncomputable def g133_c (n:Nat):Cx P_ Ty_:=⟨[k134 n,k135 n],[],[],[]⟩
abbrev g133_k:List (List Nat):=[[2,3,4],[2,3,4,10],[4],[4,5],[4]]
noncomputable def g133_t (n:Nat) (x:Xf×Xe):Pt P_ Ty_ [] ((List Int)×Int):=.ite (x.2.Type_.Kind_==(2:Int)) (.leaf (([]:List Int),x.2.Int_)) (.call (k134 n) (x.1,x.2.Type_) fun (y1:Int)=>.call (k135 n) (y1,(W_ x.2.Bits_)) fun (y2:Int×(List Int))=>.leaf (y2.2,(0:Int)))
noncomputable def k133 (n:Nat):Con P_ Ty_:=conOf (X:=Xf×Xe) (R:=(List Int)×Int) (pro:=[]) (g133_c n) 55 g133_k (by kernel_rfl) (fun x=>.no) [.ag [.im 3,.im 1,.im 4,.im 2],.ag [.any,.any,.any,.any,.any]] [] [] ⟨[(4,.ref 100000)],[(100000,.fix [.im 6,.no])]⟩ [] false (fun x=>[.ag [.im 3 x.1.Sign_,.im 1 x.1.Regs_,.im 4 x.1.Slots_,.im 2 x.1.List_],.ag [.sc (.int .i64 x.2.Type_.Kind_),.sc (.int .i64 x.2.Type_.Param_),.sc (.bool x.2.Keep_),.sc (.int .u32 x.2.Bits_),.sc (.int .i64 x.2.Int_)]]) (fun x=>[]) (fun y=>([(4,.pt 100000 [] 0 0)],[(100000,.lit 2 [[.im 6 y.1,.sc (.int .i64 y.2)]])])) (fun y=>.ag [.im 6 y.1,.sc (.int .i64 y.2)]) (fun y=>[]) (g133_t n) (fun x=>by kernel_rfl) (fun x=>by kernel_rfl) (by kernel_rfl) (fun y=>by kernel_rfl) (fun h=>nomatch h)
noncomputable def g132_c (n:Nat):Cx P_ Ty_:=⟨[k21 n,k133 n],[(35,false,12),(36,false,12)],[],[]⟩
abbrev g132_k:List (List Nat):=[[1,2],[1,2,4],[1,2,4,14],[2,3],[1,2,6],[1,2,6,7],[1,2,6,7,23],[1,2,6,7],[1,2,6,7],[2,3]]
noncomputable def g132_t1 (n:Nat) (x:Xf) (v1:Unit) (q1:Int×(List Xi)):Pt P_ Ty_ [] (Bo (Int×(List Xi)) (Int×(List Xi)) Empty):=.ite (decide (q1.1<(x.Slots_.length:Int))) (.bnd (idx x.Slots_ q1.1) fun y2=>.call (k133 n) (x,y2) fun (y3:(List Int)×Int)=>.need ((q1.2.length+([(⟨y3.1,y3.2⟩:Xi)]:List Xi).length) * 32≤140737488355328) (.leaf (.go ((W_ (q1.1+(1:Int))),(q1.2++([(⟨y3.1,y3.2⟩:Xi)]:List Xi)))))) (.leaf (.out (q1.1,q1.2)))
noncomputable def g132_L1 (n:Nat) (x:Xf) (v1:Unit):LCon P_ Ty_ []:=lcon (X:=Int×(List Xi)) (Y:=Int×(List Xi)) (Z:=Empty) (g132_c n) (subC [1,1,1,1,0,1,0,0] (fnC P_ 29 g132_k)) (fun q1=>.no) 0 false ⟨[(1,.ref 1),(2,.ref 2),(6,.ref 6),(7,.any)],[(1,.any),(2,.any),(6,.fix [.no,.no,.no,.no,.ow false 12])]⟩ ⟨[(1,.ref 1),(2,.ref 2),(6,.ref 6),(7,.any),(23,.any)],[(1,.any),(2,.any),(6,.any)]⟩ ⟨[],[]⟩ (fun q1=>([(1,.pt 1 [] 0 0),(2,.pt 2 [] 0 0),(6,.pt 6 [] 0 0),(7,.sc (.int .i64 q1.1))],[(1,.lit 4 [[.im 3 x.Sign_,.im 1 x.Regs_,.im 4 x.Slots_,.im 2 x.List_]]),(2,.lit 5 [[.zs,.zs,.zs,.zs,.zs]]),(6,.lit 5 [[.im 3 x.Sign_,.im 1 x.Regs_,.im 4 x.Slots_,.im 2 x.List_,.ow false 12 q1.2]])])) (fun p=>([(1,.pt 1 [] 0 0),(2,.pt 2 [] 0 0),(6,.pt 6 [] 0 0),(7,.sc (.int .i64 p.1)),(23,.sc (.bool false))],[(1,.lit 4 [[.im 3 x.Sign_,.im 1 x.Regs_,.im 4 x.Slots_,.im 2 x.List_]]),(2,.lit 5 [[.zs,.zs,.zs,.zs,.zs]]),(6,.lit 5 [[.im 3 x.Sign_,.im 1 x.Regs_,.im 4 x.Slots_,.im 2 x.List_,.ow false 12 p.2]])])) (fun p=>nomatch p) n (g132_t1 n x v1) (fun _ z=>nomatch z) (fun q1=>by kernel_rfl)
noncomputable def g132_t (n:Nat) (x:Xf):Pt P_ Ty_ [] (Int×(List Xd)×(List Xb)×(List Xe)×(List Xc)×(List Xi)):=.call (k21 n) x fun (y1:Int×Int)=>.ite (y1.1 != (0:Int)) (.leaf (y1.1,([]:List Xd),([]:List Xb),([]:List Xe),([]:List Xc),([]:List Xi))) (.loop (V:=Unit) (g132_L1 n x) () ((0:Int),([]:List Xi)) fun (v1:Unit) (y4:Int×(List Xi))=>.leaf ((0:Int),x.Sign_,x.Regs_,x.Slots_,x.List_,y4.2))
noncomputable def k132 (n:Nat):Con P_ Ty_:=conOf (X:=Xf) (R:=Int×(List Xd)×(List Xb)×(List Xe)×(List Xc)×(List Xi)) (pro:=[]) (g132_c n) 29 g132_k (by kernel_rfl) (fun x=>.two .no (.two .no (.two .no (.two .no (.two (.two .no (.two (.loop Unit (g132_L1 n x) false ⟨[(1,.ref 1),(2,.ref 2),(6,.ref 6),(7,.any)],[(1,.any),(2,.any),(6,.fix [.no,.no,.no,.no,.ow false 12])]⟩) .no)) .no))))) [.ag [.im 3,.im 1,.im 4,.im 2]] [] [] ⟨[(2,.ref 100000),(3,.any)],[(100000,.fix [.im 3,.im 1,.im 4,.im 2,.im 12])]⟩ [] false (fun x=>[.ag [.im 3 x.Sign_,.im 1 x.Regs_,.im 4 x.Slots_,.im 2 x.List_]]) (fun x=>[]) (fun y=>([(2,.pt 100000 [] 0 0),(3,.sc (.int .i64 y.1))],[(100000,.lit 5 [[.im 3 y.2.1,.im 1 y.2.2.1,.im 4 y.2.2.2.1,.im 2 y.2.2.2.2.1,.im 12 y.2.2.2.2.2]])])) (fun y=>.tu [.ag [.im 3 y.2.1,.im 1 y.2.2.1,.im 4 y.2.2.2.1,.im 2 y.2.2.2.2.1,.im 12 y.2.2.2.2.2],.sc (.int .i64 y.1)]) (fun y=>[]) (g132_t n) (fun x=>by kernel_rfl) (fun x=>by kernel_rfl) (by kernel_rfl) (fun y=>by kernel_rfl) (fun h=>nomatch h)
noncomputable def g149_c (n:Nat):Cx P_ Ty_:=⟨[k64 n],[],[],[]⟩
abbrev g149_k:List (List Nat):=[[0,1],[0,1,10],[4],[0,1,5],[0,1,5,14],[0,1,5,27],[4],[0,1,5],[4]]
noncomputable def g149_t1 (n:Nat) (x:(List Xd)×(List (List Int))) (v1:Unit) (q1:Int):Pt P_ Ty_ [] (Bo Int Int Unit):=.ite (decide (q1<(x.1.length:Int))) (.bnd (idx x.2 q1) fun y1=>.bnd (idx x.1 q1) fun y2=>.call (k64 n) y2 fun (y3:Int)=>.ite ((y1.length:Int) != y3) (.leaf (.ret ())) (.leaf (.go (W_ (q1+(1:Int)))))) (.leaf (.out q1))
noncomputable def g149_L1 (n:Nat) (x:(List Xd)×(List (List Int))) (v1:Unit):LCon P_ Ty_ []:=lcon (X:=Int) (Y:=Int) (Z:=Unit) (g149_c n) (subC [1,1,0,1,0,0] (fnC P_ 78 g149_k)) (fun q1=>.no) 0 true ⟨[(0,.im 3),(1,.im 10),(5,.any)],[]⟩ ⟨[(0,.im 3),(1,.im 10),(5,.any),(14,.any)],[]⟩ ⟨[(4,.any)],[]⟩ (fun q1=>([(0,.im 3 x.1),(1,.im 10 x.2),(5,.sc (.int .i64 q1))],[])) (fun p=>([(0,.im 3 x.1),(1,.im 10 x.2),(5,.sc (.int .i64 p)),(14,.sc (.bool false))],[])) (fun p=>([(4,.sc (.bool false))],[])) n (g149_t1 n x v1) (fun h=>nomatch h) (fun q1=>by kernel_rfl)
noncomputable def g149_t (n:Nat) (x:(List Xd)×(List (List Int))):Pt P_ Ty_ [] Bool:=.ite ((x.2.length:Int) != (x.1.length:Int)) (.leaf false) (.loopR (V:=Unit) (g149_L1 n x) () (0:Int) (fun (v1:Unit) (y4:Int)=>.leaf true) fun (v1:Unit) (z1:Unit)=>.leaf false)
noncomputable def k149 (n:Nat):Con P_ Ty_:=conOf (X:=(List Xd)×(List (List Int))) (R:=Bool) (pro:=[]) (g149_c n) 78 g149_k (by kernel_rfl) (fun x=>.two .no (.two .no (.two (.two .no (.two (.loop Unit (g149_L1 n x) true ⟨[(0,.im 3),(1,.im 10),(5,.any)],[]⟩) .no)) .no))) [.im 3,.im 10] [] [] ⟨[(4,.any)],[]⟩ [] true (fun x=>[.im 3 x.1,.im 10 x.2]) (fun x=>[]) (fun y=>([(4,.sc (.bool y))],[])) (fun y=>.sc (.bool y)) (fun y=>[]) (g149_t n) (fun x=>by kernel_rfl) (fun x=>by kernel_rfl) (by kernel_rfl) (fun y=>by kernel_rfl) (fun _ y=>by kernel_rfl)
noncomputable def g153_c (n:Nat):Cx P_ Ty_:=⟨[k134 n],[],[],[]⟩
abbrev g153_k:List (List Nat):=[[2,3],[2,3,5],[2,3,5],[2,3,5],[2,3,5],[4],[2,3,31],[4],[2,3,35],[2,3,35],[2,3,35],[2,3,35],[4],[4]]
noncomputable def g153_e1 (x:Xf×Xc) (p:Bool):EH Ty_:=([(2,.pt 2 [] 0 0),(3,.pt 3 [] 0 0),(5,.sc (.bool p))],[(2,.lit 4 [[.im 3 x.1.Sign_,.im 1 x.1.Regs_,.im 4 x.1.Slots_,.im 2 x.1.List_]]),(3,.lit 7 [[.sc (.int .i64 x.2.Op_),.sc (.int .i64 x.2.D_),.sc (.int .i64 x.2.A_),.sc (.int .i64 x.2.B_),.sc (.int .i64 x.2.C_),.sc (.int .i64 x.2.N_),.sc (.int .u32 x.2.Bits_)]])])
noncomputable def g153_e2 (x:Xf×Xc) (p:Bool):EH Ty_:=([(2,.pt 2 [] 0 0),(3,.pt 3 [] 0 0),(5,.sc (.bool p))],[(2,.lit 4 [[.im 3 x.1.Sign_,.im 1 x.1.Regs_,.im 4 x.1.Slots_,.im 2 x.1.List_]]),(3,.lit 7 [[.sc (.int .i64 x.2.Op_),.sc (.int .i64 x.2.D_),.sc (.int .i64 x.2.A_),.sc (.int .i64 x.2.B_),.sc (.int .i64 x.2.C_),.sc (.int .i64 x.2.N_),.sc (.int .u32 x.2.Bits_)]])])
noncomputable def g153_e3 (x:Xf×Xc) (p:Bool):EH Ty_:=([(2,.pt 2 [] 0 0),(3,.pt 3 [] 0 0),(35,.sc (.bool p))],[(2,.lit 4 [[.im 3 x.1.Sign_,.im 1 x.1.Regs_,.im 4 x.1.Slots_,.im 2 x.1.List_]]),(3,.lit 7 [[.sc (.int .i64 x.2.Op_),.sc (.int .i64 x.2.D_),.sc (.int .i64 x.2.A_),.sc (.int .i64 x.2.B_),.sc (.int .i64 x.2.C_),.sc (.int .i64 x.2.N_),.sc (.int .u32 x.2.Bits_)]])])
noncomputable def g153_t (n:Nat) (x:Xf×Xc):Pt P_ Ty_ [] Int:=.join (S:=Bool) (g153_e2 x) (.join (S:=Bool) (g153_e1 x) (.ite (decide (x.2.Op_≥(3:Int))) (.leaf (.inl (decide (x.2.Op_≤(15:Int))))) (.leaf (.inl false))) fun s1=>.ite s1 (.leaf (.inl true)) (.ite (x.2.Op_==(29:Int)) (.leaf (.inl true)) (.ite (x.2.Op_==(30:Int)) (.leaf (.inl true)) (.leaf (.inl (x.2.Op_==(32:Int))))))) fun s2=>.ite s2 (.bnd (idx x.1.Regs_ x.2.D_) fun y1=>.call (k134 n) (x.1,y1) fun (y2:Int)=>.leaf y2) (.ite (x.2.Op_==(16:Int)) (.leaf (62:Int)) (.join (S:=Bool) (g153_e3 x) (.ite (x.2.Op_==(31:Int)) (.leaf (.inl true)) (.ite (x.2.Op_==(33:Int)) (.leaf (.inl true)) (.ite (x.2.Op_==(19:Int)) (.leaf (.inl true)) (.leaf (.inl (x.2.Op_==(20:Int))))))) fun s3=>.ite s3 (.bnd (idx x.1.Regs_ x.2.A_) fun y3=>.call (k134 n) (x.1,y3) fun (y4:Int)=>.leaf y4) (.leaf (1:Int))))
noncomputable def k153 (n:Nat):Con P_ Ty_:=conOf (X:=Xf×Xc) (R:=Int) (pro:=[]) (g153_c n) 79 g153_k (by kernel_rfl) (fun x=>.two .no (.two (.two (.join Bool (g153_e2 x) ⟨[(2,.ref 2),(3,.ref 3),(5,.any)],[(2,.any),(3,.any)]⟩ (.join Bool (g153_e1 x) ⟨[(2,.ref 2),(3,.ref 3),(5,.any)],[(2,.any),(3,.any)]⟩ .no .no) (.two .no (.two .no (.two .no (.join Bool (g153_e3 x) ⟨[(2,.ref 2),(3,.ref 3),(35,.any)],[(2,.any),(3,.any)]⟩ .no .no))))) .no) .no)) [.ag [.im 3,.im 1,.im 4,.im 2],.ag [.any,.any,.any,.any,.any,.any,.any]] [] [] ⟨[(4,.any)],[]⟩ [] true (fun x=>[.ag [.im 3 x.1.Sign_,.im 1 x.1.Regs_,.im 4 x.1.Slots_,.im 2 x.1.List_],.ag [.sc (.int .i64 x.2.Op_),.sc (.int .i64 x.2.D_),.sc (.int .i64 x.2.A_),.sc (.int .i64 x.2.B_),.sc (.int .i64 x.2.C_),.sc (.int .i64 x.2.N_),.sc (.int .u32 x.2.Bits_)]]) (fun x=>[]) (fun y=>([(4,.sc (.int .i64 y))],[])) (fun y=>.sc (.int .i64 y)) (fun y=>[]) (g153_t n) (fun x=>by kernel_rfl) (fun x=>by kernel_rfl) (by kernel_rfl) (fun y=>by kernel_rfl) (fun _ y=>by kernel_rfl)
noncomputable def g176_c (n:Nat):Cx P_ Ty_:=⟨[],[],[],[]⟩
abbrev g176_k:List (List Nat):=[[0],[3],[3,4],[3,4],[3,4],[3,4],[3,4],[2],[3,10],[3,10],[3,10],[3,10],[3,10],[3,10],[3,10],[2],[18],[2],[2]]
noncomputable def g176_e1 (x:Int) (p:Bool):EH Ty_:=([(3,.sc (.int .i64 x)),(4,.sc (.bool p))],[])
noncomputable def g176_e2 (x:Int) (p:Bool):EH Ty_:=([(3,.sc (.int .i64 x)),(10,.sc (.bool p))],[])
noncomputable def g176_t (n:Nat) (x:Int):Pt P_ Ty_ [] Int:=.join (S:=Bool) (g176_e1 x) (.ite (x==(3:Int)) (.leaf (.inl true)) (.ite (x==(11:Int)) (.leaf (.inl true)) (.ite (x==(12:Int)) (.leaf (.inl true)) (.ite (x==(13:Int)) (.leaf (.inl true)) (.leaf (.inl (x==(14:Int)))))))) fun s1=>.ite s1 (.leaf (1:Int)) (.join (S:=Bool) (g176_e2 x) (.ite (x==(4:Int)) (.leaf (.inl true)) (.ite (x==(5:Int)) (.leaf (.inl true)) (.ite (x==(6:Int)) (.leaf (.inl true)) (.ite (x==(7:Int)) (.leaf (.inl true)) (.ite (x==(8:Int)) (.leaf (.inl true)) (.ite (x==(9:Int)) (.leaf (.inl true)) (.leaf (.inl (x==(10:Int)))))))))) fun s2=>.ite s2 (.leaf (2:Int)) (.ite (x==(15:Int)) (.leaf (3:Int)) (.leaf (0:Int))))
noncomputable def k176 (n:Nat):Con P_ Ty_:=conOf (X:=Int) (R:=Int) (pro:=[]) (g176_c n) 104 g176_k (by kernel_rfl) (fun x=>.two .no (.two (.two .no (.two (.join Bool (g176_e1 x) ⟨[(3,.any),(4,.any)],[]⟩ .no (.two .no (.join Bool (g176_e2 x) ⟨[(3,.any),(10,.any)],[]⟩ .no .no))) .no)) .no)) [.any] [] [] ⟨[(2,.any)],[]⟩ [] true (fun x=>[.sc (.int .i64 x)]) (fun x=>[]) (fun y=>([(2,.sc (.int .i64 y))],[])) (fun y=>.sc (.int .i64 y)) (fun y=>[]) (g176_t n) (fun x=>by kernel_rfl) (fun x=>by kernel_rfl) (by kernel_rfl) (fun y=>by kernel_rfl) (fun _ y=>by kernel_rfl)
noncomputable def g177_c (n:Nat):Cx P_ Ty_:=⟨[],[],[],[]⟩
abbrev g177_k:List (List Nat):=[[0,1],[0,1,7],[4],[4]]
noncomputable def g177_t (n:Nat) (x:(List Int)×Int):Pt P_ Ty_ [] Int:=.ite ((x.1.length:Int)==(1:Int)) (.bnd (idx x.1 (0:Int)) fun y1=>.leaf y1) (.bnd (idx x.1 x.2) fun y2=>.leaf y2)
noncomputable def k177 (n:Nat):Con P_ Ty_:=conOf (X:=(List Int)×Int) (R:=Int) (pro:=[]) (g177_c n) 111 g177_k (by kernel_rfl) (fun x=>.no) [.im 6,.any] [] [] ⟨[(4,.any)],[]⟩ [] true (fun x=>[.im 6 x.1,.sc (.int .i64 x.2)]) (fun x=>[]) (fun y=>([(4,.sc (.int .i64 y))],[])) (fun y=>.sc (.int .i64 y)) (fun y=>[]) (g177_t n) (fun x=>by kernel_rfl) (fun x=>by kernel_rfl) (by kernel_rfl) (fun y=>by kernel_rfl) (fun _ y=>by kernel_rfl)
noncomputable def g180_c (n:Nat):Cx P_ Ty_:=⟨[],[],[],[]⟩
abbrev g180_k:List (List Nat):=[[1,2],[1,2,5],[1,2],[1,2],[2]]
noncomputable def g180_t1 (n:Nat) (x:Xl) (v1:Unit) (q1:Int×Int):Pt P_ Ty_ [] (Bo (Int×Int) (Int×Int) Empty):=.ite (decide (q1.1<(8388608:Int))) (.leaf (.go ((IntKind.u64.wrap (q1.1 * (2:Int))),(W_ (q1.2 - (1:Int)))))) (.leaf (.out (q1.1,q1.2)))
noncomputable def g180_L1 (n:Nat) (x:Xl) (v1:Unit):LCon P_ Ty_ []:=lcon (X:=Int×Int) (Y:=Int×Int) (Z:=Empty) (g180_c n) (subC [1,0,0,0] (fnC P_ 131 g180_k)) (fun q1=>.no) 0 false ⟨[(1,.ref 1),(2,.ref 2)],[(1,.any),(2,.any)]⟩ ⟨[(1,.ref 1),(2,.ref 2),(5,.any)],[(1,.any),(2,.any)]⟩ ⟨[],[]⟩ (fun q1=>([(1,.pt 1 [] 0 0),(2,.pt 2 [] 0 0)],[(1,.lit 5 [[.sc (.bool x.Minus_),.sc (.int .u64 q1.1),.sc (.int .i64 q1.2),.sc (.bool x.Inf_),.sc (.bool x.Nan_)]]),(2,.lit 5 [[.sc (.bool false),.sc (.int .u64 (0:Int)),.sc (.int .i64 (0:Int)),.sc (.bool false),.sc (.bool false)]])])) (fun p=>([(1,.pt 1 [] 0 0),(2,.pt 2 [] 0 0),(5,.sc (.bool false))],[(1,.lit 5 [[.sc (.bool x.Minus_),.sc (.int .u64 p.1),.sc (.int .i64 p.2),.sc (.bool x.Inf_),.sc (.bool x.Nan_)]]),(2,.lit 5 [[.sc (.bool false),.sc (.int .u64 (0:Int)),.sc (.int .i64 (0:Int)),.sc (.bool false),.sc (.bool false)]])])) (fun p=>nomatch p) n (g180_t1 n x v1) (fun _ z=>nomatch z) (fun q1=>by kernel_rfl)
noncomputable def g180_t (n:Nat) (x:Xl):Pt P_ Ty_ [] (Bool×Int×Int×Bool×Bool):=.loop (V:=Unit) (g180_L1 n x) () (x.M_,x.E_) fun (v1:Unit) (y1:Int×Int)=>.leaf (x.Minus_,y1.1,y1.2,x.Inf_,x.Nan_)
noncomputable def k180 (n:Nat):Con P_ Ty_:=conOf (X:=Xl) (R:=Bool×Int×Int×Bool×Bool) (pro:=[]) (g180_c n) 131 g180_k (by kernel_rfl) (fun x=>.two .no (.two (.two (.loop Unit (g180_L1 n x) false ⟨[(1,.ref 1),(2,.ref 2)],[(1,.any),(2,.any)]⟩) .no) .no)) [.ag [.any,.any,.any,.any,.any]] [] [] ⟨[(2,.ref 100000)],[(100000,.any)]⟩ [] true (fun x=>[.ag [.sc (.bool x.Minus_),.sc (.int .u64 x.M_),.sc (.int .i64 x.E_),.sc (.bool x.Inf_),.sc (.bool x.Nan_)]]) (fun x=>[]) (fun y=>([(2,.pt 100000 [] 0 0)],[(100000,.lit 5 [[.sc (.bool y.1),.sc (.int .u64 y.2.1),.sc (.int .i64 y.2.2.1),.sc (.bool y.2.2.2.1),.sc (.bool y.2.2.2.2)]])])) (fun y=>.ag [.sc (.bool y.1),.sc (.int .u64 y.2.1),.sc (.int .i64 y.2.2.1),.sc (.bool y.2.2.2.1),.sc (.bool y.2.2.2.2)]) (fun y=>[]) (g180_t n) (fun x=>by kernel_rfl) (fun x=>by kernel_rfl) (by kernel_rfl) (fun y=>by kernel_rfl) (fun _ y=>by kernel_rfl)
noncomputable def g161_c (n:Nat):Cx P_ Ty_:=⟨[],[],[],[]⟩
abbrev g161_k:List (List Nat):=[[0],[3],[2],[2]]
noncomputable def g161_t (n:Nat) (x:Bool):Pt P_ Ty_ [] Int:=.ite x (.leaf (2147483648:Int)) (.leaf (0:Int))
noncomputable def k161 (n:Nat):Con P_ Ty_:=conOf (X:=Bool) (R:=Int) (pro:=[]) (g161_c n) 117 g161_k (by kernel_rfl) (fun x=>.no) [.any] [] [] ⟨[(2,.any)],[]⟩ [] true (fun x=>[.sc (.bool x)]) (fun x=>[]) (fun y=>([(2,.sc (.int .u64 y))],[])) (fun y=>.sc (.int .u64 y)) (fun y=>[]) (g161_t n) (fun x=>by kernel_rfl) (fun x=>by kernel_rfl) (by kernel_rfl) (fun y=>by kernel_rfl) (fun _ y=>by kernel_rfl)
noncomputable def g163_c (n:Nat):Cx P_ Ty_:=⟨[k161 n],[],[],[]⟩
abbrev g163_k:List (List Nat):=[[0],[2]]
noncomputable def g163_t (n:Nat) (x:Bool):Pt P_ Ty_ [] Int:=.call (k161 n) x fun (y1:Int)=>.leaf (W_ y1)
noncomputable def k163 (n:Nat):Con P_ Ty_:=conOf (X:=Bool) (R:=Int) (pro:=[]) (g163_c n) 115 g163_k (by kernel_rfl) (fun x=>.no) [.any] [] [] ⟨[(2,.any)],[]⟩ [] true (fun x=>[.sc (.bool x)]) (fun x=>[]) (fun y=>([(2,.sc (.int .i64 y))],[])) (fun y=>.sc (.int .i64 y)) (fun y=>[]) (g163_t n) (fun x=>by kernel_rfl) (fun x=>by kernel_rfl) (by kernel_rfl) (fun y=>by kernel_rfl) (fun _ y=>by kernel_rfl)
noncomputable def g157_c (n:Nat):Cx P_ Ty_:=⟨[],[],[],[]⟩
abbrev g157_k:List (List Nat):=[[0],[0,3],[0,3,5],[0,3],[0,3],[2]]
noncomputable def g157_t1 (n:Nat) (x:Int) (v1:Unit) (q1:Int×Int):Pt P_ Ty_ [] (Bo (Int×Int) (Int×Int) Empty):=.ite (decide (q1.1 > (0:Int))) (.leaf (.go ((q1.1.fdiv (2 ^ min (1:Int).toNat IntKind.u64.bits)),(W_ (q1.2+(1:Int)))))) (.leaf (.out (q1.1,q1.2)))
noncomputable def g157_L1 (n:Nat) (x:Int) (v1:Unit):LCon P_ Ty_ []:=lcon (X:=Int×Int) (Y:=Int×Int) (Z:=Empty) (g157_c n) (subC [1,1,0,0,0] (fnC P_ 105 g157_k)) (fun q1=>.no) 0 false ⟨[(0,.any),(3,.any)],[]⟩ ⟨[(0,.any),(3,.any),(5,.any)],[]⟩ ⟨[],[]⟩ (fun q1=>([(0,.sc (.int .u64 q1.1)),(3,.sc (.int .i64 q1.2))],[])) (fun p=>([(0,.sc (.int .u64 p.1)),(3,.sc (.int .i64 p.2)),(5,.sc (.bool false))],[])) (fun p=>nomatch p) n (g157_t1 n x v1) (fun _ z=>nomatch z) (fun q1=>by kernel_rfl)
noncomputable def g157_t (n:Nat) (x:Int):Pt P_ Ty_ [] Int:=.loop (V:=Unit) (g157_L1 n x) () (x,(0:Int)) fun (v1:Unit) (y1:Int×Int)=>.leaf y1.2
noncomputable def k157 (n:Nat):Con P_ Ty_:=conOf (X:=Int) (R:=Int) (pro:=[]) (g157_c n) 105 g157_k (by kernel_rfl) (fun x=>.two .no (.two .no (.two (.two (.loop Unit (g157_L1 n x) false ⟨[(0,.any),(3,.any)],[]⟩) .no) .no))) [.any] [] [] ⟨[(2,.any)],[]⟩ [] true (fun x=>[.sc (.int .u64 x)]) (fun x=>[]) (fun y=>([(2,.sc (.int .i64 y))],[])) (fun y=>.sc (.int .i64 y)) (fun y=>[]) (g157_t n) (fun x=>by kernel_rfl) (fun x=>by kernel_rfl) (by kernel_rfl) (fun y=>by kernel_rfl) (fun _ y=>by kernel_rfl)
noncomputable def g164_c (n:Nat):Cx P_ Ty_:=⟨[],[],[],[]⟩
abbrev g164_k:List (List Nat):=[[0,1],[0,1,9],[4],[0,1,5],[0,1,5,6],[0,1,5,6,12],[0,1,5],[1,5,6],[5,6,7],[5,39],[5],[4]]
noncomputable def g164_e1 (x:Int×Int) (p:Int×Int):EH Ty_:=([(1,.sc (.int .i64 x.2)),(5,.sc (.int .u64 p.1)),(6,.sc (.int .u64 p.2))],[])
noncomputable def g164_e2 (x:Int×Int) (p:Int×Bool):EH Ty_:=([(5,.sc (.int .u64 p.1)),(39,.sc (.bool p.2))],[])
noncomputable def g164_t (n:Nat) (x:Int×Int):Pt P_ Ty_ [] Int:=.ite (decide (x.2 > (64:Int))) (.leaf (0:Int)) (.join (S:=Int×Int) (g164_e1 x) (.ite (decide (x.2<(64:Int))) (.need (0≤(IntKind.u64.wrap x.2)) (.need (0≤(IntKind.u64.wrap x.2)) (.leaf (.inl ((x.1.fdiv (2 ^ min (IntKind.u64.wrap x.2).toNat IntKind.u64.bits)),(IntKind.u64.wrap (BitVec.ofInt IntKind.u64.bits x.1 &&& BitVec.ofInt IntKind.u64.bits (IntKind.u64.wrap ((IntKind.u64.wrap ((1:Int) * 2 ^ min (IntKind.u64.wrap x.2).toNat IntKind.u64.bits)) - (1:Int)))).toNat)))))) (.leaf (.inl ((0:Int),x.1)))) fun s1=>.need (0≤(IntKind.u64.wrap (W_ (x.2 - (1:Int))))) (.join (S:=Int×Bool) (g164_e2 x) (.ite (decide (s1.2 > (IntKind.u64.wrap ((1:Int) * 2 ^ min (IntKind.u64.wrap (W_ (x.2 - (1:Int)))).toNat IntKind.u64.bits)))) (.leaf (.inl (s1.1,true))) (.ite (s1.2==(IntKind.u64.wrap ((1:Int) * 2 ^ min (IntKind.u64.wrap (W_ (x.2 - (1:Int)))).toNat IntKind.u64.bits))) (.leaf (.inl (s1.1,((s1.1.tmod (2:Int))==(1:Int))))) (.leaf (.inl (s1.1,false))))) fun s2=>.ite s2.2 (.leaf (IntKind.u64.wrap (s2.1+(1:Int)))) (.leaf s2.1)))
noncomputable def k164 (n:Nat):Con P_ Ty_:=conOf (X:=Int×Int) (R:=Int) (pro:=[]) (g164_c n) 116 g164_k (by kernel_rfl) (fun x=>.two .no (.two .no (.two .no (.two .no (.join (Int×Int) (g164_e1 x) ⟨[(1,.any),(5,.any),(6,.any)],[]⟩ .no (.two .no (.two (.join (Int×Bool) (g164_e2 x) ⟨[(5,.any),(39,.any)],[]⟩ .no .no) .no))))))) [.any,.any] [] [] ⟨[(4,.any)],[]⟩ [] true (fun x=>[.sc (.int .u64 x.1),.sc (.int .i64 x.2)]) (fun x=>[]) (fun y=>([(4,.sc (.int .u64 y))],[])) (fun y=>.sc (.int .u64 y)) (fun y=>[]) (g164_t n) (fun x=>by kernel_rfl) (fun x=>by kernel_rfl) (by kernel_rfl) (fun y=>by kernel_rfl) (fun _ y=>by kernel_rfl)
noncomputable def g160_c (n:Nat):Cx P_ Ty_:=⟨[k161 n],[],[],[]⟩
abbrev g160_k:List (List Nat):=[[0],[2]]
noncomputable def g160_t (n:Nat) (x:Bool):Pt P_ Ty_ [] Int:=.call (k161 n) x fun (y1:Int)=>.leaf (W_ (IntKind.u64.wrap (y1+(2139095040:Int))))
noncomputable def k160 (n:Nat):Con P_ Ty_:=conOf (X:=Bool) (R:=Int) (pro:=[]) (g160_c n) 114 g160_k (by kernel_rfl) (fun x=>.no) [.any] [] [] ⟨[(2,.any)],[]⟩ [] true (fun x=>[.sc (.bool x)]) (fun x=>[]) (fun y=>([(2,.sc (.int .i64 y))],[])) (fun y=>.sc (.int .i64 y)) (fun y=>[]) (g160_t n) (fun x=>by kernel_rfl) (fun x=>by kernel_rfl) (by kernel_rfl) (fun y=>by kernel_rfl) (fun _ y=>by kernel_rfl)
noncomputable def g162_c (n:Nat):Cx P_ Ty_:=⟨[k163 n,k157 n,k164 n,k161 n,k160 n],[],[],[]⟩
abbrev g162_k:List (List Nat):=[[0,1,2],[0,1,2,12],[6],[0,1,2,7],[0,1,7,8],[0,1,7,8],[0,1,7,8,26],[0,7,9],[0,7,9],[0,7,9,36],[0,7,9],[0,7,9],[0,7,9,40],[6],[0,9,10],[0,9,10,49],[6],[6]]
noncomputable def g162_e1 (x:Bool×Int×Int) (p:Int×Int):EH Ty_:=([(0,.sc (.bool x.1)),(7,.sc (.int .i64 p.1)),(9,.sc (.int .u64 p.2))],[])
noncomputable def g162_e2 (x:Bool×Int×Int) (p:Int×Int):EH Ty_:=([(0,.sc (.bool x.1)),(7,.sc (.int .i64 p.1)),(9,.sc (.int .u64 p.2))],[])
noncomputable def g162_t (n:Nat) (x:Bool×Int×Int):Pt P_ Ty_ [] Int:=.ite (x.2.1==(0:Int)) (.call (k163 n) x.1 fun (y1:Int)=>.leaf y1) (.call (k157 n) x.2.1 fun (y2:Int)=>.join (S:=Int×Int) (g162_e1 x) (.ite (decide ((W_ ((if (-149:Int) > (W_ ((W_ (x.2.2+y2)) - (24:Int))) then (-149:Int) else (W_ ((W_ (x.2.2+y2)) - (24:Int)))) - x.2.2))≤(0:Int))) (.need (0≤(IntKind.u64.wrap (W_ (0 - (W_ ((if (-149:Int) > (W_ ((W_ (x.2.2+y2)) - (24:Int))) then (-149:Int) else (W_ ((W_ (x.2.2+y2)) - (24:Int)))) - x.2.2)))))) (.leaf (.inl ((if (-149:Int) > (W_ ((W_ (x.2.2+y2)) - (24:Int))) then (-149:Int) else (W_ ((W_ (x.2.2+y2)) - (24:Int)))),(IntKind.u64.wrap (x.2.1 * 2 ^ min (IntKind.u64.wrap (W_ (0 - (W_ ((if (-149:Int) > (W_ ((W_ (x.2.2+y2)) - (24:Int))) then (-149:Int) else (W_ ((W_ (x.2.2+y2)) - (24:Int)))) - x.2.2))))).toNat IntKind.u64.bits)))))) (.call (k164 n) (x.2.1,(W_ ((if (-149:Int) > (W_ ((W_ (x.2.2+y2)) - (24:Int))) then (-149:Int) else (W_ ((W_ (x.2.2+y2)) - (24:Int)))) - x.2.2))) fun (y3:Int)=>.leaf (.inl ((if (-149:Int) > (W_ ((W_ (x.2.2+y2)) - (24:Int))) then (-149:Int) else (W_ ((W_ (x.2.2+y2)) - (24:Int)))),y3)))) fun s1=>.join (S:=Int×Int) (g162_e2 x) (.ite (s1.2==(16777216:Int)) (.leaf (.inl ((W_ (s1.1+(1:Int))),(8388608:Int)))) (.leaf (.inl (s1.1,s1.2)))) fun s2=>.ite (decide (s2.2<(8388608:Int))) (.call (k161 n) x.1 fun (y4:Int)=>.leaf (W_ (IntKind.u64.wrap (y4+s2.2)))) (.ite (decide ((W_ (s2.1+(150:Int)))≥(255:Int))) (.call (k160 n) x.1 fun (y5:Int)=>.leaf y5) (.call (k161 n) x.1 fun (y6:Int)=>.leaf (W_ (IntKind.u64.wrap ((IntKind.u64.wrap ((IntKind.u64.wrap (y6+(IntKind.u64.wrap ((IntKind.u64.wrap (W_ (s2.1+(150:Int)))) * 2 ^ min (23:Int).toNat IntKind.u64.bits))))+s2.2)) - (8388608:Int)))))))
noncomputable def k162 (n:Nat):Con P_ Ty_:=conOf (X:=Bool×Int×Int) (R:=Int) (pro:=[]) (g162_c n) 107 g162_k (by kernel_rfl) (fun x=>.two .no (.two .no (.two .no (.two .no (.two .no (.join (Int×Int) (g162_e1 x) ⟨[(0,.any),(7,.any),(9,.any)],[]⟩ .no (.join (Int×Int) (g162_e2 x) ⟨[(0,.any),(7,.any),(9,.any)],[]⟩ .no .no))))))) [.any,.any,.any] [] [] ⟨[(6,.any)],[]⟩ [] true (fun x=>[.sc (.bool x.1),.sc (.int .u64 x.2.1),.sc (.int .i64 x.2.2)]) (fun x=>[]) (fun y=>([(6,.sc (.int .i64 y))],[])) (fun y=>.sc (.int .i64 y)) (fun y=>[]) (g162_t n) (fun x=>by kernel_rfl) (fun x=>by kernel_rfl) (by kernel_rfl) (fun y=>by kernel_rfl) (fun _ y=>by kernel_rfl)
noncomputable def g179_c (n:Nat):Cx P_ Ty_:=⟨[k69 n,k180 n,k162 n],[],[],[]⟩
abbrev g179_k:List (List Nat):=[[0],[0,3],[0,3,11],[2],[0,3,14],[2],[0,3,24],[2],[0,3,27],[2],[3],[3,4],[4,5],[4,5,41],[4,5],[4,5],[4,5,6],[4,5,6,7],[4,5,6,7,47],[4,5,6,7,58],[4,5,6,7],[4,5,6,7],[4,5,6,8],[5,8,68],[5,8],[2]]
noncomputable def g179_e1 (x:Int) (p:Bool×Bool×Int×Int×Bool×Bool):EH Ty_:=([(0,.sc (.int .i64 x)),(3,.pt 3 [] 0 0),(14,.sc (.bool p.1))],[(3,.lit 5 [[.sc (.bool p.2.1),.sc (.int .u64 p.2.2.1),.sc (.int .i64 p.2.2.2.1),.sc (.bool p.2.2.2.2.1),.sc (.bool p.2.2.2.2.2)]])])
noncomputable def g179_e2 (x:Int) (p:Int×Int):EH Ty_:=([(4,.sc (.int .u64 p.1)),(5,.sc (.int .i64 p.2))],[])
noncomputable def g179_e3 (x:Int) (p:Int×Int):EH Ty_:=([(5,.sc (.int .i64 p.1)),(8,.sc (.int .u64 p.2))],[])
noncomputable def g179_t1 (n:Nat) (x:Int) (v1:Int×Int) (q1:Int×Int):Pt P_ Ty_ [] (Bo (Int×Int) (Int×Int) Empty):=.ite (decide (q1.2 > (0:Int))) (.ite (decide ((IntKind.u64.wrap ((IntKind.u64.wrap (q1.1+q1.2)) * (IntKind.u64.wrap (q1.1+q1.2))))≤v1.1)) (.leaf (.go ((IntKind.u64.wrap (q1.1+q1.2)),(IntKind.u64.wrap (q1.2.tdiv (2:Int)))))) (.leaf (.go (q1.1,(IntKind.u64.wrap (q1.2.tdiv (2:Int))))))) (.leaf (.out (q1.1,q1.2)))
noncomputable def g179_L1 (n:Nat) (x:Int) (v1:Int×Int):LCon P_ Ty_ []:=lcon (X:=Int×Int) (Y:=Int×Int) (Z:=Empty) (g179_c n) (subC [1,1,1,1,1,1,1,1,0,1,0,0] (fnC P_ 121 g179_k)) (fun q1=>.no) 1 false ⟨[(4,.any),(5,.any),(6,.any),(7,.any)],[]⟩ ⟨[(4,.any),(5,.any),(6,.any),(7,.any),(47,.any)],[]⟩ ⟨[],[]⟩ (fun q1=>([(4,.sc (.int .u64 v1.1)),(5,.sc (.int .i64 v1.2)),(6,.sc (.int .u64 q1.1)),(7,.sc (.int .u64 q1.2))],[])) (fun p=>([(4,.sc (.int .u64 v1.1)),(5,.sc (.int .i64 v1.2)),(6,.sc (.int .u64 p.1)),(7,.sc (.int .u64 p.2)),(47,.sc (.bool false))],[])) (fun p=>nomatch p) n (g179_t1 n x v1) (fun _ z=>nomatch z) (fun q1=>by kernel_rfl)
noncomputable def g179_t (n:Nat) (x:Int):Pt P_ Ty_ [] Int:=.call (k69 n) x fun (y1:Bool×Int×Int×Bool×Bool)=>.ite y1.2.2.2.2 (.leaf (2143289344:Int)) (.join (S:=Bool×Bool×Int×Int×Bool×Bool) (g179_e1 x) (.ite (!y1.2.2.2.1) (.leaf (.inl ((y1.2.1==(0:Int)),y1.1,y1.2.1,y1.2.2.1,y1.2.2.2.1,y1.2.2.2.2))) (.leaf (.inl (false,y1.1,y1.2.1,y1.2.2.1,y1.2.2.2.1,y1.2.2.2.2)))) fun s1=>.ite s1.1 (.leaf x) (.ite s1.2.1 (.leaf (2143289344:Int)) (.ite s1.2.2.2.2.1 (.leaf x) (.call (k180 n) (⟨s1.2.1,s1.2.2.1,s1.2.2.2.1,s1.2.2.2.2.1,s1.2.2.2.2.2⟩:Xl) fun (y2:Bool×Int×Int×Bool×Bool)=>.join (S:=Int×Int) (g179_e2 x) (.ite (((W_ (y2.2.2.1 - (36:Int))).tmod (2:Int)) != (0:Int)) (.leaf (.inl ((IntKind.u64.wrap ((IntKind.u64.wrap (y2.2.1 * 2 ^ min (36:Int).toNat IntKind.u64.bits)) * (2:Int))),(W_ ((W_ (y2.2.2.1 - (36:Int))) - (1:Int)))))) (.leaf (.inl ((IntKind.u64.wrap (y2.2.1 * 2 ^ min (36:Int).toNat IntKind.u64.bits)),(W_ (y2.2.2.1 - (36:Int))))))) fun s2=>.loop (V:=Int×Int) (g179_L1 n x) (s2.1,s2.2) ((0:Int),(2147483648:Int)) fun (v1:Int×Int) (y3:Int×Int)=>.join (S:=Int×Int) (g179_e3 x) (.ite (decide ((IntKind.u64.wrap (y3.1 * y3.1))<v1.1)) (.leaf (.inl (v1.2,(IntKind.u64.wrap ((IntKind.u64.wrap (y3.1 * (2:Int)))+(1:Int)))))) (.leaf (.inl (v1.2,(IntKind.u64.wrap (y3.1 * (2:Int))))))) fun s3=>.call (k162 n) (false,s3.2,(W_ ((W_ (s3.1.tdiv (2:Int))) - (1:Int)))) fun (y4:Int)=>.leaf y4))))
noncomputable def k179 (n:Nat):Con P_ Ty_:=conOf (X:=Int) (R:=Int) (pro:=[]) (g179_c n) 121 g179_k (by kernel_rfl) (fun x=>.two .no (.two .no (.two (.two (.two .no (.two .no (.join (Bool×Bool×Int×Int×Bool×Bool) (g179_e1 x) ⟨[(0,.any),(3,.ref 3),(14,.any)],[(3,.any)]⟩ .no .no))) .no) (.two .no (.two .no (.two .no (.join (Int×Int) (g179_e2 x) ⟨[(4,.any),(5,.any)],[]⟩ .no (.two .no (.two (.two .no (.two (.loop (Int×Int) (g179_L1 n x) false ⟨[(4,.any),(5,.any),(6,.any),(7,.any)],[]⟩) .no)) (.two .no (.join (Int×Int) (g179_e3 x) ⟨[(5,.any),(8,.any)],[]⟩ .no .no))))))))))) [.any] [] [] ⟨[(2,.any)],[]⟩ [] true (fun x=>[.sc (.int .i64 x)]) (fun x=>[]) (fun y=>([(2,.sc (.int .i64 y))],[])) (fun y=>.sc (.int .i64 y)) (fun y=>[]) (g179_t n) (fun x=>by kernel_rfl) (fun x=>by kernel_rfl) (by kernel_rfl) (fun y=>by kernel_rfl) (fun _ y=>by kernel_rfl)
noncomputable def g181_c (n:Nat):Cx P_ Ty_:=⟨[k69 n],[],[],[]⟩
abbrev g181_k:List (List Nat):=[[0],[0,5],[2],[2]]
noncomputable def g181_t (n:Nat) (x:Int):Pt P_ Ty_ [] Int:=.call (k69 n) x fun (y1:Bool×Int×Int×Bool×Bool)=>.ite y1.2.2.2.2 (.leaf (2143289344:Int)) (.leaf (W_ (BitVec.ofInt IntKind.i64.bits x ^^^ BitVec.ofInt IntKind.i64.bits (2147483648:Int)).toNat))
noncomputable def k181 (n:Nat):Con P_ Ty_:=conOf (X:=Int) (R:=Int) (pro:=[]) (g181_c n) 122 g181_k (by kernel_rfl) (fun x=>.no) [.any] [] [] ⟨[(2,.any)],[]⟩ [] true (fun x=>[.sc (.int .i64 x)]) (fun x=>[]) (fun y=>([(2,.sc (.int .i64 y))],[])) (fun y=>.sc (.int .i64 y)) (fun y=>[]) (g181_t n) (fun x=>by kernel_rfl) (fun x=>by kernel_rfl) (by kernel_rfl) (fun y=>by kernel_rfl) (fun _ y=>by kernel_rfl)
noncomputable def g182_c (n:Nat):Cx P_ Ty_:=⟨[k69 n],[],[],[]⟩
abbrev g182_k:List (List Nat):=[[0],[0,5],[2],[2]]
noncomputable def g182_t (n:Nat) (x:Int):Pt P_ Ty_ [] Int:=.call (k69 n) x fun (y1:Bool×Int×Int×Bool×Bool)=>.ite y1.2.2.2.2 (.leaf (2143289344:Int)) (.leaf (W_ (BitVec.ofInt IntKind.i64.bits x &&& ~~~BitVec.ofInt IntKind.i64.bits (2147483648:Int)).toNat))
noncomputable def k182 (n:Nat):Con P_ Ty_:=conOf (X:=Int) (R:=Int) (pro:=[]) (g182_c n) 123 g182_k (by kernel_rfl) (fun x=>.no) [.any] [] [] ⟨[(2,.any)],[]⟩ [] true (fun x=>[.sc (.int .i64 x)]) (fun x=>[]) (fun y=>([(2,.sc (.int .i64 y))],[])) (fun y=>.sc (.int .i64 y)) (fun y=>[]) (g182_t n) (fun x=>by kernel_rfl) (fun x=>by kernel_rfl) (by kernel_rfl) (fun y=>by kernel_rfl) (fun _ y=>by kernel_rfl)
noncomputable def g183_c (n:Nat):Cx P_ Ty_:=⟨[],[],[],[]⟩
abbrev g183_k:List (List Nat):=[[0],[2]]
noncomputable def g183_t (n:Nat) (x:Int):Pt P_ Ty_ [] Bool:=.leaf (decide ((x.tmod (2147483648:Int))<(2139095040:Int)))
noncomputable def k183 (n:Nat):Con P_ Ty_:=conOf (X:=Int) (R:=Bool) (pro:=[]) (g183_c n) 125 g183_k (by kernel_rfl) (fun x=>.no) [.any] [] [] ⟨[(2,.any)],[]⟩ [] true (fun x=>[.sc (.int .i64 x)]) (fun x=>[]) (fun y=>([(2,.sc (.bool y))],[])) (fun y=>.sc (.bool y)) (fun y=>[]) (g183_t n) (fun x=>by kernel_rfl) (fun x=>by kernel_rfl) (by kernel_rfl) (fun y=>by kernel_rfl) (fun _ y=>by kernel_rfl)
noncomputable def g184_c (n:Nat):Cx P_ Ty_:=⟨[],[],[],[]⟩
abbrev g184_k:List (List Nat):=[[0],[3],[2],[2]]
noncomputable def g184_t (n:Nat) (x:Bool):Pt P_ Ty_ [] Int:=.ite x (.leaf (1065353216:Int)) (.leaf (0:Int))
noncomputable def k184 (n:Nat):Con P_ Ty_:=conOf (X:=Bool) (R:=Int) (pro:=[]) (g184_c n) 124 g184_k (by kernel_rfl) (fun x=>.no) [.any] [] [] ⟨[(2,.any)],[]⟩ [] true (fun x=>[.sc (.bool x)]) (fun x=>[]) (fun y=>([(2,.sc (.int .i64 y))],[])) (fun y=>.sc (.int .i64 y)) (fun y=>[]) (g184_t n) (fun x=>by kernel_rfl) (fun x=>by kernel_rfl) (by kernel_rfl) (fun y=>by kernel_rfl) (fun _ y=>by kernel_rfl)
noncomputable def g159_c (n:Nat):Cx P_ Ty_:=⟨[],[],[],[]⟩
abbrev g159_k:List (List Nat):=[[2,3],[4]]
noncomputable def g159_t (n:Nat) (x:Xl×Xl):Pt P_ Ty_ [] Bool:=.ite x.1.Nan_ (.leaf true) (.leaf x.2.Nan_)
noncomputable def k159 (n:Nat):Con P_ Ty_:=conOf (X:=Xl×Xl) (R:=Bool) (pro:=[]) (g159_c n) 113 g159_k (by kernel_rfl) (fun x=>.no) [.ag [.any,.any,.any,.any,.any],.ag [.any,.any,.any,.any,.any]] [] [] ⟨[(4,.any)],[]⟩ [] true (fun x=>[.ag [.sc (.bool x.1.Minus_),.sc (.int .u64 x.1.M_),.sc (.int .i64 x.1.E_),.sc (.bool x.1.Inf_),.sc (.bool x.1.Nan_)],.ag [.sc (.bool x.2.Minus_),.sc (.int .u64 x.2.M_),.sc (.int .i64 x.2.E_),.sc (.bool x.2.Inf_),.sc (.bool x.2.Nan_)]]) (fun x=>[]) (fun y=>([(4,.sc (.bool y))],[])) (fun y=>.sc (.bool y)) (fun y=>[]) (g159_t n) (fun x=>by kernel_rfl) (fun x=>by kernel_rfl) (by kernel_rfl) (fun y=>by kernel_rfl) (fun _ y=>by kernel_rfl)
noncomputable def g169_c (n:Nat):Cx P_ Ty_:=⟨[k163 n,k162 n],[],[],[]⟩
abbrev g169_k:List (List Nat):=[[2,3],[2,3,5],[2,3,5],[2,3,5,7],[2,3,5,7,16],[2,3,6,7],[2,3,6],[2,3,6,7],[2,3,6,7],[3,6,7,32],[3,6,7],[3,6,7,36],[6,7],[6,7],[6,7,48],[4],[6,7,51],[4],[4]]
noncomputable def g169_e1 (x:Xl×Xl) (p:Int×Int×Int):EH Ty_:=([(2,.pt 2 [] 0 0),(3,.pt 3 [] 0 0),(6,.sc (.int .i64 p.1)),(7,.sc (.int .i64 p.2.1))],[(2,.lit 5 [[.sc (.bool x.1.Minus_),.sc (.int .u64 x.1.M_),.sc (.int .i64 x.1.E_),.sc (.bool x.1.Inf_),.sc (.bool x.1.Nan_)]]),(3,.lit 5 [[.sc (.bool x.2.Minus_),.sc (.int .u64 p.2.2),.sc (.int .i64 x.2.E_),.sc (.bool x.2.Inf_),.sc (.bool x.2.Nan_)]])])
noncomputable def g169_e2 (x:Xl×Xl) (p:Int×Int×Int):EH Ty_:=([(3,.pt 3 [] 0 0),(6,.sc (.int .i64 p.1)),(7,.sc (.int .i64 p.2.1))],[(3,.lit 5 [[.sc (.bool x.2.Minus_),.sc (.int .u64 p.2.2),.sc (.int .i64 x.2.E_),.sc (.bool x.2.Inf_),.sc (.bool x.2.Nan_)]])])
noncomputable def g169_e3 (x:Xl×Xl) (p:Int×Int):EH Ty_:=([(6,.sc (.int .i64 p.1)),(7,.sc (.int .i64 p.2))],[])
noncomputable def g169_t (n:Nat) (x:Xl×Xl):Pt P_ Ty_ [] Int:=.join (S:=Int×Int×Int) (g169_e1 x) (.ite (decide ((W_ (x.1.E_ - x.2.E_))≤(36:Int))) (.need (0≤(IntKind.u64.wrap (W_ (x.1.E_ - x.2.E_)))) (.leaf (.inl ((W_ (IntKind.u64.wrap (x.1.M_ * 2 ^ min (IntKind.u64.wrap (W_ (x.1.E_ - x.2.E_))).toNat IntKind.u64.bits))),x.2.E_,x.2.M_)))) (.leaf (.inl ((W_ (IntKind.u64.wrap (x.1.M_ * 2 ^ min (36:Int).toNat IntKind.u64.bits))),(W_ (x.1.E_ - (36:Int))),(1:Int))))) fun s1=>.join (S:=Int×Int×Int) (g169_e2 x) (.ite x.1.Minus_ (.leaf (.inl ((W_ (0 - s1.1)),s1.2.1,s1.2.2))) (.leaf (.inl (s1.1,s1.2.1,s1.2.2)))) fun s2=>.join (S:=Int×Int) (g169_e3 x) (.ite x.2.Minus_ (.leaf (.inl ((W_ (s2.1 - (W_ s2.2.2))),s2.2.1))) (.leaf (.inl ((W_ (s2.1+(W_ s2.2.2))),s2.2.1)))) fun s3=>.ite (s3.1==(0:Int)) (.call (k163 n) false fun (y1:Int)=>.leaf y1) (.ite (decide (s3.1<(0:Int))) (.call (k162 n) (true,(IntKind.u64.wrap (W_ (0 - s3.1))),s3.2) fun (y2:Int)=>.leaf y2) (.call (k162 n) (false,(IntKind.u64.wrap s3.1),s3.2) fun (y3:Int)=>.leaf y3))
noncomputable def k169 (n:Nat):Con P_ Ty_:=conOf (X:=Xl×Xl) (R:=Int) (pro:=[]) (g169_c n) 118 g169_k (by kernel_rfl) (fun x=>.two .no (.two .no (.two .no (.two .no (.join (Int×Int×Int) (g169_e1 x) ⟨[(2,.ref 2),(3,.ref 3),(6,.any),(7,.any)],[(2,.any),(3,.any)]⟩ .no (.join (Int×Int×Int) (g169_e2 x) ⟨[(3,.ref 3),(6,.any),(7,.any)],[(3,.any)]⟩ .no (.join (Int×Int) (g169_e3 x) ⟨[(6,.any),(7,.any)],[]⟩ .no .no))))))) [.ag [.any,.any,.any,.any,.any],.ag [.any,.any,.any,.any,.any]] [] [] ⟨[(4,.any)],[]⟩ [] true (fun x=>[.ag [.sc (.bool x.1.Minus_),.sc (.int .u64 x.1.M_),.sc (.int .i64 x.1.E_),.sc (.bool x.1.Inf_),.sc (.bool x.1.Nan_)],.ag [.sc (.bool x.2.Minus_),.sc (.int .u64 x.2.M_),.sc (.int .i64 x.2.E_),.sc (.bool x.2.Inf_),.sc (.bool x.2.Nan_)]]) (fun x=>[]) (fun y=>([(4,.sc (.int .i64 y))],[])) (fun y=>.sc (.int .i64 y)) (fun y=>[]) (g169_t n) (fun x=>by kernel_rfl) (fun x=>by kernel_rfl) (by kernel_rfl) (fun y=>by kernel_rfl) (fun _ y=>by kernel_rfl)
noncomputable def g168_c (n:Nat):Cx P_ Ty_:=⟨[k69 n,k159 n,k160 n,k163 n,k162 n,k169 n],[],[],[]⟩
abbrev g168_k:List (List Nat):=[[0,1],[1,5],[5,6],[5,6,11],[4],[5,6,30],[4],[5,6,36],[4],[5,6,42],[4],[5,6,58],[4],[5,6,69],[4],[5,6,84],[5,6],[4]]
noncomputable def g168_e1 (x:Int×Int) (p:Bool×Bool×Int×Int×Bool×Bool×Bool×Int×Int×Bool×Bool):EH Ty_:=([(5,.pt 5 [] 0 0),(6,.pt 6 [] 0 0),(11,.sc (.bool p.1))],[(5,.lit 5 [[.sc (.bool p.2.1),.sc (.int .u64 p.2.2.1),.sc (.int .i64 p.2.2.2.1),.sc (.bool p.2.2.2.2.1),.sc (.bool p.2.2.2.2.2.1)]]),(6,.lit 5 [[.sc (.bool p.2.2.2.2.2.2.1),.sc (.int .u64 p.2.2.2.2.2.2.2.1),.sc (.int .i64 p.2.2.2.2.2.2.2.2.1),.sc (.bool p.2.2.2.2.2.2.2.2.2.1),.sc (.bool p.2.2.2.2.2.2.2.2.2.2)]])])
noncomputable def g168_e2 (x:Int×Int) (p:Bool×Bool×Int×Int×Bool×Bool×Bool×Int×Int×Bool×Bool):EH Ty_:=([(5,.pt 5 [] 0 0),(6,.pt 6 [] 0 0),(42,.sc (.bool p.1))],[(5,.lit 5 [[.sc (.bool p.2.1),.sc (.int .u64 p.2.2.1),.sc (.int .i64 p.2.2.2.1),.sc (.bool p.2.2.2.2.1),.sc (.bool p.2.2.2.2.2.1)]]),(6,.lit 5 [[.sc (.bool p.2.2.2.2.2.2.1),.sc (.int .u64 p.2.2.2.2.2.2.2.1),.sc (.int .i64 p.2.2.2.2.2.2.2.2.1),.sc (.bool p.2.2.2.2.2.2.2.2.2.1),.sc (.bool p.2.2.2.2.2.2.2.2.2.2)]])])
noncomputable def g168_e3 (x:Int×Int) (p:Bool×Int×Int×Bool×Bool×Bool×Int×Int×Bool×Bool):EH Ty_:=([(5,.pt 5 [] 0 0),(6,.pt 6 [] 0 0)],[(5,.lit 5 [[.sc (.bool p.1),.sc (.int .u64 p.2.1),.sc (.int .i64 p.2.2.1),.sc (.bool p.2.2.2.1),.sc (.bool p.2.2.2.2.1)]]),(6,.lit 5 [[.sc (.bool p.2.2.2.2.2.1),.sc (.int .u64 p.2.2.2.2.2.2.1),.sc (.int .i64 p.2.2.2.2.2.2.2.1),.sc (.bool p.2.2.2.2.2.2.2.2.1),.sc (.bool p.2.2.2.2.2.2.2.2.2)]])])
noncomputable def g168_t (n:Nat) (x:Int×Int):Pt P_ Ty_ [] Int:=.call (k69 n) x.1 fun (y1:Bool×Int×Int×Bool×Bool)=>.call (k69 n) x.2 fun (y2:Bool×Int×Int×Bool×Bool)=>.join (S:=Bool×Bool×Int×Int×Bool×Bool×Bool×Int×Int×Bool×Bool) (g168_e1 x) (.call (k159 n) ((⟨y1.1,y1.2.1,y1.2.2.1,y1.2.2.2.1,y1.2.2.2.2⟩:Xl),(⟨y2.1,y2.2.1,y2.2.2.1,y2.2.2.2.1,y2.2.2.2.2⟩:Xl)) fun (y3:Bool)=>.ite y3 (.leaf (.inl (true,y1.1,y1.2.1,y1.2.2.1,y1.2.2.2.1,y1.2.2.2.2,y2.1,y2.2.1,y2.2.2.1,y2.2.2.2.1,y2.2.2.2.2))) (.ite y1.2.2.2.1 (.ite y2.2.2.2.1 (.leaf (.inl ((y1.1 != y2.1),y1.1,y1.2.1,y1.2.2.1,y1.2.2.2.1,y1.2.2.2.2,y2.1,y2.2.1,y2.2.2.1,y2.2.2.2.1,y2.2.2.2.2))) (.leaf (.inl (false,y1.1,y1.2.1,y1.2.2.1,y1.2.2.2.1,y1.2.2.2.2,y2.1,y2.2.1,y2.2.2.1,y2.2.2.2.1,y2.2.2.2.2)))) (.leaf (.inl (false,y1.1,y1.2.1,y1.2.2.1,y1.2.2.2.1,y1.2.2.2.2,y2.1,y2.2.1,y2.2.2.1,y2.2.2.2.1,y2.2.2.2.2))))) fun s1=>.ite s1.1 (.leaf (2143289344:Int)) (.ite s1.2.2.2.2.1 (.call (k160 n) s1.2.1 fun (y4:Int)=>.leaf y4) (.ite s1.2.2.2.2.2.2.2.2.2.1 (.call (k160 n) s1.2.2.2.2.2.2.1 fun (y5:Int)=>.leaf y5) (.join (S:=Bool×Bool×Int×Int×Bool×Bool×Bool×Int×Int×Bool×Bool) (g168_e2 x) (.ite (s1.2.2.1==(0:Int)) (.leaf (.inl ((s1.2.2.2.2.2.2.2.1==(0:Int)),s1.2.1,s1.2.2.1,s1.2.2.2.1,s1.2.2.2.2.1,s1.2.2.2.2.2.1,s1.2.2.2.2.2.2.1,s1.2.2.2.2.2.2.2.1,s1.2.2.2.2.2.2.2.2.1,s1.2.2.2.2.2.2.2.2.2.1,s1.2.2.2.2.2.2.2.2.2.2))) (.leaf (.inl (false,s1.2.1,s1.2.2.1,s1.2.2.2.1,s1.2.2.2.2.1,s1.2.2.2.2.2.1,s1.2.2.2.2.2.2.1,s1.2.2.2.2.2.2.2.1,s1.2.2.2.2.2.2.2.2.1,s1.2.2.2.2.2.2.2.2.2.1,s1.2.2.2.2.2.2.2.2.2.2)))) fun s2=>.ite s2.1 (.ite s2.2.1 (.call (k163 n) s2.2.2.2.2.2.2.1 fun (y6:Int)=>.leaf y6) (.call (k163 n) false fun (y7:Int)=>.leaf y7)) (.ite (s2.2.2.1==(0:Int)) (.call (k162 n) (s2.2.2.2.2.2.2.1,s2.2.2.2.2.2.2.2.1,s2.2.2.2.2.2.2.2.2.1) fun (y8:Int)=>.leaf y8) (.ite (s2.2.2.2.2.2.2.2.1==(0:Int)) (.call (k162 n) (s2.2.1,s2.2.2.1,s2.2.2.2.1) fun (y9:Int)=>.leaf y9) (.join (S:=Bool×Int×Int×Bool×Bool×Bool×Int×Int×Bool×Bool) (g168_e3 x) (.ite (decide (s2.2.2.2.1<s2.2.2.2.2.2.2.2.2.1)) (.leaf (.inl (s2.2.2.2.2.2.2.1,s2.2.2.2.2.2.2.2.1,s2.2.2.2.2.2.2.2.2.1,s2.2.2.2.2.2.2.2.2.2.1,s2.2.2.2.2.2.2.2.2.2.2,s2.2.1,s2.2.2.1,s2.2.2.2.1,s2.2.2.2.2.1,s2.2.2.2.2.2.1))) (.leaf (.inl (s2.2.1,s2.2.2.1,s2.2.2.2.1,s2.2.2.2.2.1,s2.2.2.2.2.2.1,s2.2.2.2.2.2.2.1,s2.2.2.2.2.2.2.2.1,s2.2.2.2.2.2.2.2.2.1,s2.2.2.2.2.2.2.2.2.2.1,s2.2.2.2.2.2.2.2.2.2.2)))) fun s3=>.call (k169 n) ((⟨s3.1,s3.2.1,s3.2.2.1,s3.2.2.2.1,s3.2.2.2.2.1⟩:Xl),(⟨s3.2.2.2.2.2.1,s3.2.2.2.2.2.2.1,s3.2.2.2.2.2.2.2.1,s3.2.2.2.2.2.2.2.2.1,s3.2.2.2.2.2.2.2.2.2⟩:Xl)) fun (y10:Int)=>.leaf y10))))))
noncomputable def k168 (n:Nat):Con P_ Ty_:=conOf (X:=Int×Int) (R:=Int) (pro:=[]) (g168_c n) 108 g168_k (by kernel_rfl) (fun x=>.two .no (.two .no (.two .no (.two (.two (.join (Bool×Bool×Int×Int×Bool×Bool×Bool×Int×Int×Bool×Bool) (g168_e1 x) ⟨[(5,.ref 5),(6,.ref 6),(11,.any)],[(5,.any),(6,.any)]⟩ .no (.two .no (.two .no (.two .no (.two .no (.two .no (.join (Bool×Bool×Int×Int×Bool×Bool×Bool×Int×Int×Bool×Bool) (g168_e2 x) ⟨[(5,.ref 5),(6,.ref 6),(42,.any)],[(5,.any),(6,.any)]⟩ .no .no))))))) .no) (.join (Bool×Int×Int×Bool×Bool×Bool×Int×Int×Bool×Bool) (g168_e3 x) ⟨[(5,.ref 5),(6,.ref 6)],[(5,.any),(6,.any)]⟩ .no .no))))) [.any,.any] [] [] ⟨[(4,.any)],[]⟩ [] true (fun x=>[.sc (.int .i64 x.1),.sc (.int .i64 x.2)]) (fun x=>[]) (fun y=>([(4,.sc (.int .i64 y))],[])) (fun y=>.sc (.int .i64 y)) (fun y=>[]) (g168_t n) (fun x=>by kernel_rfl) (fun x=>by kernel_rfl) (by kernel_rfl) (fun y=>by kernel_rfl) (fun _ y=>by kernel_rfl)
noncomputable def g185_c (n:Nat):Cx P_ Ty_:=⟨[k181 n,k168 n],[],[],[]⟩
abbrev g185_k:List (List Nat):=[[0,1],[4]]
noncomputable def g185_t (n:Nat) (x:Int×Int):Pt P_ Ty_ [] Int:=.call (k181 n) x.2 fun (y1:Int)=>.call (k168 n) (x.1,y1) fun (y2:Int)=>.leaf y2
noncomputable def k185 (n:Nat):Con P_ Ty_:=conOf (X:=Int×Int) (R:=Int) (pro:=[]) (g185_c n) 126 g185_k (by kernel_rfl) (fun x=>.no) [.any,.any] [] [] ⟨[(4,.any)],[]⟩ [] true (fun x=>[.sc (.int .i64 x.1),.sc (.int .i64 x.2)]) (fun x=>[]) (fun y=>([(4,.sc (.int .i64 y))],[])) (fun y=>.sc (.int .i64 y)) (fun y=>[]) (g185_t n) (fun x=>by kernel_rfl) (fun x=>by kernel_rfl) (by kernel_rfl) (fun y=>by kernel_rfl) (fun _ y=>by kernel_rfl)
noncomputable def g158_c (n:Nat):Cx P_ Ty_:=⟨[k69 n,k159 n,k160 n,k162 n],[],[],[]⟩
abbrev g158_k:List (List Nat):=[[0,1],[1,5],[5,6],[5,6,7],[5,6,7,17],[4],[5,6,7,49],[4],[4]]
noncomputable def g158_e1 (x:Int×Int) (p:Bool×Bool×Bool×Int×Int×Bool×Bool×Bool×Int×Int×Bool×Bool):EH Ty_:=([(5,.pt 5 [] 0 0),(6,.pt 6 [] 0 0),(7,.sc (.bool p.1)),(17,.sc (.bool p.2.1))],[(5,.lit 5 [[.sc (.bool p.2.2.1),.sc (.int .u64 p.2.2.2.1),.sc (.int .i64 p.2.2.2.2.1),.sc (.bool p.2.2.2.2.2.1),.sc (.bool p.2.2.2.2.2.2.1)]]),(6,.lit 5 [[.sc (.bool p.2.2.2.2.2.2.2.1),.sc (.int .u64 p.2.2.2.2.2.2.2.2.1),.sc (.int .i64 p.2.2.2.2.2.2.2.2.2.1),.sc (.bool p.2.2.2.2.2.2.2.2.2.2.1),.sc (.bool p.2.2.2.2.2.2.2.2.2.2.2)]])])
noncomputable def g158_e2 (x:Int×Int) (p:Bool×Bool×Bool×Int×Int×Bool×Bool×Bool×Int×Int×Bool×Bool):EH Ty_:=([(5,.pt 5 [] 0 0),(6,.pt 6 [] 0 0),(7,.sc (.bool p.1)),(49,.sc (.bool p.2.1))],[(5,.lit 5 [[.sc (.bool p.2.2.1),.sc (.int .u64 p.2.2.2.1),.sc (.int .i64 p.2.2.2.2.1),.sc (.bool p.2.2.2.2.2.1),.sc (.bool p.2.2.2.2.2.2.1)]]),(6,.lit 5 [[.sc (.bool p.2.2.2.2.2.2.2.1),.sc (.int .u64 p.2.2.2.2.2.2.2.2.1),.sc (.int .i64 p.2.2.2.2.2.2.2.2.2.1),.sc (.bool p.2.2.2.2.2.2.2.2.2.2.1),.sc (.bool p.2.2.2.2.2.2.2.2.2.2.2)]])])
noncomputable def g158_t (n:Nat) (x:Int×Int):Pt P_ Ty_ [] Int:=.call (k69 n) x.1 fun (y1:Bool×Int×Int×Bool×Bool)=>.call (k69 n) x.2 fun (y2:Bool×Int×Int×Bool×Bool)=>.join (S:=Bool×Bool×Bool×Int×Int×Bool×Bool×Bool×Int×Int×Bool×Bool) (g158_e1 x) (.call (k159 n) ((⟨y1.1,y1.2.1,y1.2.2.1,y1.2.2.2.1,y1.2.2.2.2⟩:Xl),(⟨y2.1,y2.2.1,y2.2.2.1,y2.2.2.2.1,y2.2.2.2.2⟩:Xl)) fun (y3:Bool)=>.ite y3 (.leaf (.inl ((y1.1 != y2.1),true,y1.1,y1.2.1,y1.2.2.1,y1.2.2.2.1,y1.2.2.2.2,y2.1,y2.2.1,y2.2.2.1,y2.2.2.2.1,y2.2.2.2.2))) (.ite y1.2.2.2.1 (.ite (!y2.2.2.2.1) (.ite (y2.2.1==(0:Int)) (.leaf (.inl ((y1.1 != y2.1),true,y1.1,y1.2.1,y1.2.2.1,y1.2.2.2.1,y1.2.2.2.2,y2.1,y2.2.1,y2.2.2.1,y2.2.2.2.1,y2.2.2.2.2))) (.ite y2.2.2.2.1 (.ite (!y1.2.2.2.1) (.leaf (.inl ((y1.1 != y2.1),(y1.2.1==(0:Int)),y1.1,y1.2.1,y1.2.2.1,y1.2.2.2.1,y1.2.2.2.2,y2.1,y2.2.1,y2.2.2.1,y2.2.2.2.1,y2.2.2.2.2))) (.leaf (.inl ((y1.1 != y2.1),false,y1.1,y1.2.1,y1.2.2.1,y1.2.2.2.1,y1.2.2.2.2,y2.1,y2.2.1,y2.2.2.1,y2.2.2.2.1,y2.2.2.2.2)))) (.leaf (.inl ((y1.1 != y2.1),false,y1.1,y1.2.1,y1.2.2.1,y1.2.2.2.1,y1.2.2.2.2,y2.1,y2.2.1,y2.2.2.1,y2.2.2.2.1,y2.2.2.2.2))))) (.ite y2.2.2.2.1 (.ite (!y1.2.2.2.1) (.leaf (.inl ((y1.1 != y2.1),(y1.2.1==(0:Int)),y1.1,y1.2.1,y1.2.2.1,y1.2.2.2.1,y1.2.2.2.2,y2.1,y2.2.1,y2.2.2.1,y2.2.2.2.1,y2.2.2.2.2))) (.leaf (.inl ((y1.1 != y2.1),false,y1.1,y1.2.1,y1.2.2.1,y1.2.2.2.1,y1.2.2.2.2,y2.1,y2.2.1,y2.2.2.1,y2.2.2.2.1,y2.2.2.2.2)))) (.leaf (.inl ((y1.1 != y2.1),false,y1.1,y1.2.1,y1.2.2.1,y1.2.2.2.1,y1.2.2.2.2,y2.1,y2.2.1,y2.2.2.1,y2.2.2.2.1,y2.2.2.2.2))))) (.ite y2.2.2.2.1 (.ite (!y1.2.2.2.1) (.leaf (.inl ((y1.1 != y2.1),(y1.2.1==(0:Int)),y1.1,y1.2.1,y1.2.2.1,y1.2.2.2.1,y1.2.2.2.2,y2.1,y2.2.1,y2.2.2.1,y2.2.2.2.1,y2.2.2.2.2))) (.leaf (.inl ((y1.1 != y2.1),false,y1.1,y1.2.1,y1.2.2.1,y1.2.2.2.1,y1.2.2.2.2,y2.1,y2.2.1,y2.2.2.1,y2.2.2.2.1,y2.2.2.2.2)))) (.leaf (.inl ((y1.1 != y2.1),false,y1.1,y1.2.1,y1.2.2.1,y1.2.2.2.1,y1.2.2.2.2,y2.1,y2.2.1,y2.2.2.1,y2.2.2.2.1,y2.2.2.2.2)))))) fun s1=>.ite s1.2.1 (.leaf (2143289344:Int)) (.join (S:=Bool×Bool×Bool×Int×Int×Bool×Bool×Bool×Int×Int×Bool×Bool) (g158_e2 x) (.ite s1.2.2.2.2.2.1 (.leaf (.inl (s1.1,true,s1.2.2.1,s1.2.2.2.1,s1.2.2.2.2.1,s1.2.2.2.2.2.1,s1.2.2.2.2.2.2.1,s1.2.2.2.2.2.2.2.1,s1.2.2.2.2.2.2.2.2.1,s1.2.2.2.2.2.2.2.2.2.1,s1.2.2.2.2.2.2.2.2.2.2.1,s1.2.2.2.2.2.2.2.2.2.2.2))) (.leaf (.inl (s1.1,s1.2.2.2.2.2.2.2.2.2.2.1,s1.2.2.1,s1.2.2.2.1,s1.2.2.2.2.1,s1.2.2.2.2.2.1,s1.2.2.2.2.2.2.1,s1.2.2.2.2.2.2.2.1,s1.2.2.2.2.2.2.2.2.1,s1.2.2.2.2.2.2.2.2.2.1,s1.2.2.2.2.2.2.2.2.2.2.1,s1.2.2.2.2.2.2.2.2.2.2.2)))) fun s2=>.ite s2.2.1 (.call (k160 n) s2.1 fun (y4:Int)=>.leaf y4) (.call (k162 n) (s2.1,(IntKind.u64.wrap (s2.2.2.2.1 * s2.2.2.2.2.2.2.2.2.1)),(W_ (s2.2.2.2.2.1+s2.2.2.2.2.2.2.2.2.2.1))) fun (y5:Int)=>.leaf y5))
noncomputable def k158 (n:Nat):Con P_ Ty_:=conOf (X:=Int×Int) (R:=Int) (pro:=[]) (g158_c n) 106 g158_k (by kernel_rfl) (fun x=>.two .no (.two .no (.two .no (.two .no (.two (.two (.join (Bool×Bool×Bool×Int×Int×Bool×Bool×Bool×Int×Int×Bool×Bool) (g158_e1 x) ⟨[(5,.ref 5),(6,.ref 6),(7,.any),(17,.any)],[(5,.any),(6,.any)]⟩ .no (.two .no (.join (Bool×Bool×Bool×Int×Int×Bool×Bool×Bool×Int×Int×Bool×Bool) (g158_e2 x) ⟨[(5,.ref 5),(6,.ref 6),(7,.any),(49,.any)],[(5,.any),(6,.any)]⟩ .no .no))) .no) .no))))) [.any,.any] [] [] ⟨[(4,.any)],[]⟩ [] true (fun x=>[.sc (.int .i64 x.1),.sc (.int .i64 x.2)]) (fun x=>[]) (fun y=>([(4,.sc (.int .i64 y))],[])) (fun y=>.sc (.int .i64 y)) (fun y=>[]) (g158_t n) (fun x=>by kernel_rfl) (fun x=>by kernel_rfl) (by kernel_rfl) (fun y=>by kernel_rfl) (fun _ y=>by kernel_rfl)
noncomputable def g186_c (n:Nat):Cx P_ Ty_:=⟨[k69 n,k159 n,k160 n,k163 n,k180 n,k162 n],[],[],[]⟩
abbrev g186_k:List (List Nat):=[[0,1],[1,5],[5,6],[5,6,7],[5,6,7,20],[4],[5,6,7,52],[4],[5,6,7,67],[4],[5,6,7],[5,6,7],[5,6,7,8],[5,6,7,8,9],[5,6,7,9,10],[5,6,7,9,10],[5,6,7,9,95],[5,6,7,9],[4]]
noncomputable def g186_e1 (x:Int×Int) (p:Bool×Bool×Bool×Int×Int×Bool×Bool×Bool×Int×Int×Bool×Bool):EH Ty_:=([(5,.pt 5 [] 0 0),(6,.pt 6 [] 0 0),(7,.sc (.bool p.1)),(20,.sc (.bool p.2.1))],[(5,.lit 5 [[.sc (.bool p.2.2.1),.sc (.int .u64 p.2.2.2.1),.sc (.int .i64 p.2.2.2.2.1),.sc (.bool p.2.2.2.2.2.1),.sc (.bool p.2.2.2.2.2.2.1)]]),(6,.lit 5 [[.sc (.bool p.2.2.2.2.2.2.2.1),.sc (.int .u64 p.2.2.2.2.2.2.2.2.1),.sc (.int .i64 p.2.2.2.2.2.2.2.2.2.1),.sc (.bool p.2.2.2.2.2.2.2.2.2.2.1),.sc (.bool p.2.2.2.2.2.2.2.2.2.2.2)]])])
noncomputable def g186_e2 (x:Int×Int) (p:Bool×Bool×Bool×Int×Int×Bool×Bool×Bool×Int×Int×Bool×Bool):EH Ty_:=([(5,.pt 5 [] 0 0),(6,.pt 6 [] 0 0),(7,.sc (.bool p.1)),(52,.sc (.bool p.2.1))],[(5,.lit 5 [[.sc (.bool p.2.2.1),.sc (.int .u64 p.2.2.2.1),.sc (.int .i64 p.2.2.2.2.1),.sc (.bool p.2.2.2.2.2.1),.sc (.bool p.2.2.2.2.2.2.1)]]),(6,.lit 5 [[.sc (.bool p.2.2.2.2.2.2.2.1),.sc (.int .u64 p.2.2.2.2.2.2.2.2.1),.sc (.int .i64 p.2.2.2.2.2.2.2.2.2.1),.sc (.bool p.2.2.2.2.2.2.2.2.2.2.1),.sc (.bool p.2.2.2.2.2.2.2.2.2.2.2)]])])
noncomputable def g186_e3 (x:Int×Int) (p:Bool×Bool×Bool×Int×Int×Bool×Bool×Bool×Int×Int×Bool×Bool):EH Ty_:=([(5,.pt 5 [] 0 0),(6,.pt 6 [] 0 0),(7,.sc (.bool p.1)),(67,.sc (.bool p.2.1))],[(5,.lit 5 [[.sc (.bool p.2.2.1),.sc (.int .u64 p.2.2.2.1),.sc (.int .i64 p.2.2.2.2.1),.sc (.bool p.2.2.2.2.2.1),.sc (.bool p.2.2.2.2.2.2.1)]]),(6,.lit 5 [[.sc (.bool p.2.2.2.2.2.2.2.1),.sc (.int .u64 p.2.2.2.2.2.2.2.2.1),.sc (.int .i64 p.2.2.2.2.2.2.2.2.2.1),.sc (.bool p.2.2.2.2.2.2.2.2.2.2.1),.sc (.bool p.2.2.2.2.2.2.2.2.2.2.2)]])])
noncomputable def g186_e4 (x:Int×Int) (p:Bool×Int×Bool×Int×Int×Bool×Bool×Bool×Int×Int×Bool×Bool):EH Ty_:=([(5,.pt 5 [] 0 0),(6,.pt 6 [] 0 0),(7,.sc (.bool p.1)),(9,.sc (.int .u64 p.2.1))],[(5,.lit 5 [[.sc (.bool p.2.2.1),.sc (.int .u64 p.2.2.2.1),.sc (.int .i64 p.2.2.2.2.1),.sc (.bool p.2.2.2.2.2.1),.sc (.bool p.2.2.2.2.2.2.1)]]),(6,.lit 5 [[.sc (.bool p.2.2.2.2.2.2.2.1),.sc (.int .u64 p.2.2.2.2.2.2.2.2.1),.sc (.int .i64 p.2.2.2.2.2.2.2.2.2.1),.sc (.bool p.2.2.2.2.2.2.2.2.2.2.1),.sc (.bool p.2.2.2.2.2.2.2.2.2.2.2)]])])
noncomputable def g186_t (n:Nat) (x:Int×Int):Pt P_ Ty_ [] Int:=.call (k69 n) x.1 fun (y1:Bool×Int×Int×Bool×Bool)=>.call (k69 n) x.2 fun (y2:Bool×Int×Int×Bool×Bool)=>.join (S:=Bool×Bool×Bool×Int×Int×Bool×Bool×Bool×Int×Int×Bool×Bool) (g186_e1 x) (.call (k159 n) ((⟨y1.1,y1.2.1,y1.2.2.1,y1.2.2.2.1,y1.2.2.2.2⟩:Xl),(⟨y2.1,y2.2.1,y2.2.2.1,y2.2.2.2.1,y2.2.2.2.2⟩:Xl)) fun (y3:Bool)=>.ite y3 (.leaf (.inl ((y1.1 != y2.1),true,y1.1,y1.2.1,y1.2.2.1,y1.2.2.2.1,y1.2.2.2.2,y2.1,y2.2.1,y2.2.2.1,y2.2.2.2.1,y2.2.2.2.2))) (.ite y1.2.2.2.1 (.ite y2.2.2.2.1 (.leaf (.inl ((y1.1 != y2.1),true,y1.1,y1.2.1,y1.2.2.1,y1.2.2.2.1,y1.2.2.2.2,y2.1,y2.2.1,y2.2.2.1,y2.2.2.2.1,y2.2.2.2.2))) (.ite (!y1.2.2.2.1) (.ite (!y2.2.2.2.1) (.ite (y1.2.1==(0:Int)) (.leaf (.inl ((y1.1 != y2.1),(y2.2.1==(0:Int)),y1.1,y1.2.1,y1.2.2.1,y1.2.2.2.1,y1.2.2.2.2,y2.1,y2.2.1,y2.2.2.1,y2.2.2.2.1,y2.2.2.2.2))) (.leaf (.inl ((y1.1 != y2.1),false,y1.1,y1.2.1,y1.2.2.1,y1.2.2.2.1,y1.2.2.2.2,y2.1,y2.2.1,y2.2.2.1,y2.2.2.2.1,y2.2.2.2.2)))) (.leaf (.inl ((y1.1 != y2.1),false,y1.1,y1.2.1,y1.2.2.1,y1.2.2.2.1,y1.2.2.2.2,y2.1,y2.2.1,y2.2.2.1,y2.2.2.2.1,y2.2.2.2.2)))) (.leaf (.inl ((y1.1 != y2.1),false,y1.1,y1.2.1,y1.2.2.1,y1.2.2.2.1,y1.2.2.2.2,y2.1,y2.2.1,y2.2.2.1,y2.2.2.2.1,y2.2.2.2.2))))) (.ite (!y1.2.2.2.1) (.ite (!y2.2.2.2.1) (.ite (y1.2.1==(0:Int)) (.leaf (.inl ((y1.1 != y2.1),(y2.2.1==(0:Int)),y1.1,y1.2.1,y1.2.2.1,y1.2.2.2.1,y1.2.2.2.2,y2.1,y2.2.1,y2.2.2.1,y2.2.2.2.1,y2.2.2.2.2))) (.leaf (.inl ((y1.1 != y2.1),false,y1.1,y1.2.1,y1.2.2.1,y1.2.2.2.1,y1.2.2.2.2,y2.1,y2.2.1,y2.2.2.1,y2.2.2.2.1,y2.2.2.2.2)))) (.leaf (.inl ((y1.1 != y2.1),false,y1.1,y1.2.1,y1.2.2.1,y1.2.2.2.1,y1.2.2.2.2,y2.1,y2.2.1,y2.2.2.1,y2.2.2.2.1,y2.2.2.2.2)))) (.leaf (.inl ((y1.1 != y2.1),false,y1.1,y1.2.1,y1.2.2.1,y1.2.2.2.1,y1.2.2.2.2,y2.1,y2.2.1,y2.2.2.1,y2.2.2.2.1,y2.2.2.2.2)))))) fun s1=>.ite s1.2.1 (.leaf (2143289344:Int)) (.join (S:=Bool×Bool×Bool×Int×Int×Bool×Bool×Bool×Int×Int×Bool×Bool) (g186_e2 x) (.ite s1.2.2.2.2.2.1 (.leaf (.inl (s1.1,true,s1.2.2.1,s1.2.2.2.1,s1.2.2.2.2.1,s1.2.2.2.2.2.1,s1.2.2.2.2.2.2.1,s1.2.2.2.2.2.2.2.1,s1.2.2.2.2.2.2.2.2.1,s1.2.2.2.2.2.2.2.2.2.1,s1.2.2.2.2.2.2.2.2.2.2.1,s1.2.2.2.2.2.2.2.2.2.2.2))) (.ite (!s1.2.2.2.2.2.2.2.2.2.2.1) (.leaf (.inl (s1.1,(s1.2.2.2.2.2.2.2.2.1==(0:Int)),s1.2.2.1,s1.2.2.2.1,s1.2.2.2.2.1,s1.2.2.2.2.2.1,s1.2.2.2.2.2.2.1,s1.2.2.2.2.2.2.2.1,s1.2.2.2.2.2.2.2.2.1,s1.2.2.2.2.2.2.2.2.2.1,s1.2.2.2.2.2.2.2.2.2.2.1,s1.2.2.2.2.2.2.2.2.2.2.2))) (.leaf (.inl (s1.1,false,s1.2.2.1,s1.2.2.2.1,s1.2.2.2.2.1,s1.2.2.2.2.2.1,s1.2.2.2.2.2.2.1,s1.2.2.2.2.2.2.2.1,s1.2.2.2.2.2.2.2.2.1,s1.2.2.2.2.2.2.2.2.2.1,s1.2.2.2.2.2.2.2.2.2.2.1,s1.2.2.2.2.2.2.2.2.2.2.2))))) fun s2=>.ite s2.2.1 (.call (k160 n) s2.1 fun (y4:Int)=>.leaf y4) (.join (S:=Bool×Bool×Bool×Int×Int×Bool×Bool×Bool×Int×Int×Bool×Bool) (g186_e3 x) (.ite s2.2.2.2.2.2.2.2.2.2.2.1 (.leaf (.inl (s2.1,true,s2.2.2.1,s2.2.2.2.1,s2.2.2.2.2.1,s2.2.2.2.2.2.1,s2.2.2.2.2.2.2.1,s2.2.2.2.2.2.2.2.1,s2.2.2.2.2.2.2.2.2.1,s2.2.2.2.2.2.2.2.2.2.1,s2.2.2.2.2.2.2.2.2.2.2.1,s2.2.2.2.2.2.2.2.2.2.2.2))) (.leaf (.inl (s2.1,(s2.2.2.2.1==(0:Int)),s2.2.2.1,s2.2.2.2.1,s2.2.2.2.2.1,s2.2.2.2.2.2.1,s2.2.2.2.2.2.2.1,s2.2.2.2.2.2.2.2.1,s2.2.2.2.2.2.2.2.2.1,s2.2.2.2.2.2.2.2.2.2.1,s2.2.2.2.2.2.2.2.2.2.2.1,s2.2.2.2.2.2.2.2.2.2.2.2)))) fun s3=>.ite s3.2.1 (.call (k163 n) s3.1 fun (y5:Int)=>.leaf y5) (.call (k180 n) (⟨s3.2.2.1,s3.2.2.2.1,s3.2.2.2.2.1,s3.2.2.2.2.2.1,s3.2.2.2.2.2.2.1⟩:Xl) fun (y6:Bool×Int×Int×Bool×Bool)=>.call (k180 n) (⟨s3.2.2.2.2.2.2.2.1,s3.2.2.2.2.2.2.2.2.1,s3.2.2.2.2.2.2.2.2.2.1,s3.2.2.2.2.2.2.2.2.2.2.1,s3.2.2.2.2.2.2.2.2.2.2.2⟩:Xl) fun (y7:Bool×Int×Int×Bool×Bool)=>.need (y7.2.1 ≠ 0) (.need (y7.2.1 ≠ 0) (.join (S:=Bool×Int×Bool×Int×Int×Bool×Bool×Bool×Int×Int×Bool×Bool) (g186_e4 x) (.ite (decide (((IntKind.u64.wrap (y6.2.1 * 2 ^ min (38:Int).toNat IntKind.u64.bits)).tmod y7.2.1) > (0:Int))) (.leaf (.inl (s3.1,(IntKind.u64.wrap ((IntKind.u64.wrap ((IntKind.u64.wrap ((IntKind.u64.wrap (y6.2.1 * 2 ^ min (38:Int).toNat IntKind.u64.bits)).tdiv y7.2.1)) * (2:Int)))+(1:Int))),y6.1,y6.2.1,y6.2.2.1,y6.2.2.2.1,y6.2.2.2.2,y7.1,y7.2.1,y7.2.2.1,y7.2.2.2.1,y7.2.2.2.2))) (.leaf (.inl (s3.1,(IntKind.u64.wrap ((IntKind.u64.wrap ((IntKind.u64.wrap (y6.2.1 * 2 ^ min (38:Int).toNat IntKind.u64.bits)).tdiv y7.2.1)) * (2:Int))),y6.1,y6.2.1,y6.2.2.1,y6.2.2.2.1,y6.2.2.2.2,y7.1,y7.2.1,y7.2.2.1,y7.2.2.2.1,y7.2.2.2.2)))) fun s4=>.call (k162 n) (s4.1,s4.2.1,(W_ ((W_ (s4.2.2.2.2.1 - s4.2.2.2.2.2.2.2.2.2.1)) - (39:Int)))) fun (y8:Int)=>.leaf y8)))))
noncomputable def k186 (n:Nat):Con P_ Ty_:=conOf (X:=Int×Int) (R:=Int) (pro:=[]) (g186_c n) 127 g186_k (by kernel_rfl) (fun x=>.two .no (.two .no (.two .no (.two .no (.two (.two (.join (Bool×Bool×Bool×Int×Int×Bool×Bool×Bool×Int×Int×Bool×Bool) (g186_e1 x) ⟨[(5,.ref 5),(6,.ref 6),(7,.any),(20,.any)],[(5,.any),(6,.any)]⟩ .no (.two .no (.join (Bool×Bool×Bool×Int×Int×Bool×Bool×Bool×Int×Int×Bool×Bool) (g186_e2 x) ⟨[(5,.ref 5),(6,.ref 6),(7,.any),(52,.any)],[(5,.any),(6,.any)]⟩ .no (.two .no (.join (Bool×Bool×Bool×Int×Int×Bool×Bool×Bool×Int×Int×Bool×Bool) (g186_e3 x) ⟨[(5,.ref 5),(6,.ref 6),(7,.any),(67,.any)],[(5,.any),(6,.any)]⟩ .no .no))))) .no) (.two .no (.two .no (.two .no (.two .no (.two .no (.two .no (.join (Bool×Int×Bool×Int×Int×Bool×Bool×Bool×Int×Int×Bool×Bool) (g186_e4 x) ⟨[(5,.ref 5),(6,.ref 6),(7,.any),(9,.any)],[(5,.any),(6,.any)]⟩ .no .no)))))))))))) [.any,.any] [] [] ⟨[(4,.any)],[]⟩ [] true (fun x=>[.sc (.int .i64 x.1),.sc (.int .i64 x.2)]) (fun x=>[]) (fun y=>([(4,.sc (.int .i64 y))],[])) (fun y=>.sc (.int .i64 y)) (fun y=>[]) (g186_t n) (fun x=>by kernel_rfl) (fun x=>by kernel_rfl) (by kernel_rfl) (fun y=>by kernel_rfl) (fun _ y=>by kernel_rfl)
noncomputable def g172_c (n:Nat):Cx P_ Ty_:=⟨[],[],[],[]⟩
abbrev g172_k:List (List Nat):=[[0],[0,3],[3,8],[2],[2]]
noncomputable def g172_t (n:Nat) (x:Int):Pt P_ Ty_ [] Int:=.ite ((x.fdiv (2 ^ min (31:Int).toNat IntKind.i64.bits))==(1:Int)) (.leaf (W_ ((W_ (0 - (W_ (BitVec.ofInt IntKind.i64.bits x &&& ~~~BitVec.ofInt IntKind.i64.bits (2147483648:Int)).toNat))) - (1:Int)))) (.leaf (W_ (BitVec.ofInt IntKind.i64.bits x &&& ~~~BitVec.ofInt IntKind.i64.bits (2147483648:Int)).toNat))
noncomputable def k172 (n:Nat):Con P_ Ty_:=conOf (X:=Int) (R:=Int) (pro:=[]) (g172_c n) 119 g172_k (by kernel_rfl) (fun x=>.no) [.any] [] [] ⟨[(2,.any)],[]⟩ [] true (fun x=>[.sc (.int .i64 x)]) (fun x=>[]) (fun y=>([(2,.sc (.int .i64 y))],[])) (fun y=>.sc (.int .i64 y)) (fun y=>[]) (g172_t n) (fun x=>by kernel_rfl) (fun x=>by kernel_rfl) (by kernel_rfl) (fun y=>by kernel_rfl) (fun _ y=>by kernel_rfl)
noncomputable def g171_c (n:Nat):Cx P_ Ty_:=⟨[k69 n,k159 n,k172 n],[],[],[]⟩
abbrev g171_k:List (List Nat):=[[0,1],[0,1,9],[4],[0,1,14],[4],[4]]
noncomputable def g171_t (n:Nat) (x:Int×Int):Pt P_ Ty_ [] Int:=.call (k69 n) x.1 fun (y1:Bool×Int×Int×Bool×Bool)=>.call (k69 n) x.2 fun (y2:Bool×Int×Int×Bool×Bool)=>.call (k159 n) ((⟨y1.1,y1.2.1,y1.2.2.1,y1.2.2.2.1,y1.2.2.2.2⟩:Xl),(⟨y2.1,y2.2.1,y2.2.2.1,y2.2.2.2.1,y2.2.2.2.2⟩:Xl)) fun (y3:Bool)=>.ite y3 (.leaf (2143289344:Int)) (.call (k172 n) x.2 fun (y4:Int)=>.call (k172 n) x.1 fun (y5:Int)=>.ite (decide (y4<y5)) (.leaf x.2) (.leaf x.1))
noncomputable def k171 (n:Nat):Con P_ Ty_:=conOf (X:=Int×Int) (R:=Int) (pro:=[]) (g171_c n) 109 g171_k (by kernel_rfl) (fun x=>.no) [.any,.any] [] [] ⟨[(4,.any)],[]⟩ [] true (fun x=>[.sc (.int .i64 x.1),.sc (.int .i64 x.2)]) (fun x=>[]) (fun y=>([(4,.sc (.int .i64 y))],[])) (fun y=>.sc (.int .i64 y)) (fun y=>[]) (g171_t n) (fun x=>by kernel_rfl) (fun x=>by kernel_rfl) (by kernel_rfl) (fun y=>by kernel_rfl) (fun _ y=>by kernel_rfl)
noncomputable def g187_c (n:Nat):Cx P_ Ty_:=⟨[k69 n,k159 n,k172 n],[],[],[]⟩
abbrev g187_k:List (List Nat):=[[0,1],[0,1,9],[4],[0,1,14],[4],[4]]
noncomputable def g187_t (n:Nat) (x:Int×Int):Pt P_ Ty_ [] Int:=.call (k69 n) x.1 fun (y1:Bool×Int×Int×Bool×Bool)=>.call (k69 n) x.2 fun (y2:Bool×Int×Int×Bool×Bool)=>.call (k159 n) ((⟨y1.1,y1.2.1,y1.2.2.1,y1.2.2.2.1,y1.2.2.2.2⟩:Xl),(⟨y2.1,y2.2.1,y2.2.2.1,y2.2.2.2.1,y2.2.2.2.2⟩:Xl)) fun (y3:Bool)=>.ite y3 (.leaf (2143289344:Int)) (.call (k172 n) x.2 fun (y4:Int)=>.call (k172 n) x.1 fun (y5:Int)=>.ite (decide (y4 > y5)) (.leaf x.2) (.leaf x.1))
noncomputable def k187 (n:Nat):Con P_ Ty_:=conOf (X:=Int×Int) (R:=Int) (pro:=[]) (g187_c n) 128 g187_k (by kernel_rfl) (fun x=>.no) [.any,.any] [] [] ⟨[(4,.any)],[]⟩ [] true (fun x=>[.sc (.int .i64 x.1),.sc (.int .i64 x.2)]) (fun x=>[]) (fun y=>([(4,.sc (.int .i64 y))],[])) (fun y=>.sc (.int .i64 y)) (fun y=>[]) (g187_t n) (fun x=>by kernel_rfl) (fun x=>by kernel_rfl) (by kernel_rfl) (fun y=>by kernel_rfl) (fun _ y=>by kernel_rfl)
noncomputable def g189_c (n:Nat):Cx P_ Ty_:=⟨[],[],[],[]⟩
abbrev g189_k:List (List Nat):=[[0],[2]]
noncomputable def g189_t (n:Nat) (x:Int):Pt P_ Ty_ [] Bool:=.leaf ((W_ (BitVec.ofInt IntKind.i64.bits x &&& ~~~BitVec.ofInt IntKind.i64.bits (2147483648:Int)).toNat)==(0:Int))
noncomputable def k189 (n:Nat):Con P_ Ty_:=conOf (X:=Int) (R:=Bool) (pro:=[]) (g189_c n) 132 g189_k (by kernel_rfl) (fun x=>.no) [.any] [] [] ⟨[(2,.any)],[]⟩ [] true (fun x=>[.sc (.int .i64 x)]) (fun x=>[]) (fun y=>([(2,.sc (.bool y))],[])) (fun y=>.sc (.bool y)) (fun y=>[]) (g189_t n) (fun x=>by kernel_rfl) (fun x=>by kernel_rfl) (by kernel_rfl) (fun y=>by kernel_rfl) (fun _ y=>by kernel_rfl)
noncomputable def g188_c (n:Nat):Cx P_ Ty_:=⟨[k69 n,k159 n,k189 n,k172 n],[],[],[]⟩
abbrev g188_k:List (List Nat):=[[0,1],[0,1,17],[4],[4]]
noncomputable def g188_e1 (x:Int×Int) (p:Bool):EH Ty_:=([(0,.sc (.int .i64 x.1)),(1,.sc (.int .i64 x.2)),(17,.sc (.bool p))],[])
noncomputable def g188_t (n:Nat) (x:Int×Int):Pt P_ Ty_ [] Bool:=.join (S:=Bool) (g188_e1 x) (.call (k69 n) x.1 fun (y1:Bool×Int×Int×Bool×Bool)=>.call (k69 n) x.2 fun (y2:Bool×Int×Int×Bool×Bool)=>.call (k159 n) ((⟨y1.1,y1.2.1,y1.2.2.1,y1.2.2.2.1,y1.2.2.2.2⟩:Xl),(⟨y2.1,y2.2.1,y2.2.2.1,y2.2.2.2.1,y2.2.2.2.2⟩:Xl)) fun (y3:Bool)=>.ite y3 (.leaf (.inl true)) (.call (k189 n) x.1 fun (y4:Bool)=>.ite y4 (.call (k189 n) x.2 fun (y5:Bool)=>.leaf (.inl y5)) (.leaf (.inl false)))) fun s1=>.ite s1 (.leaf false) (.call (k172 n) x.1 fun (y6:Int)=>.call (k172 n) x.2 fun (y7:Int)=>.leaf (decide (y6<y7)))
noncomputable def k188 (n:Nat):Con P_ Ty_:=conOf (X:=Int×Int) (R:=Bool) (pro:=[]) (g188_c n) 129 g188_k (by kernel_rfl) (fun x=>.two .no (.two (.join Bool (g188_e1 x) ⟨[(0,.any),(1,.any),(17,.any)],[]⟩ .no .no) .no)) [.any,.any] [] [] ⟨[(4,.any)],[]⟩ [] true (fun x=>[.sc (.int .i64 x.1),.sc (.int .i64 x.2)]) (fun x=>[]) (fun y=>([(4,.sc (.bool y))],[])) (fun y=>.sc (.bool y)) (fun y=>[]) (g188_t n) (fun x=>by kernel_rfl) (fun x=>by kernel_rfl) (by kernel_rfl) (fun y=>by kernel_rfl) (fun _ y=>by kernel_rfl)
noncomputable def g190_c (n:Nat):Cx P_ Ty_:=⟨[k69 n,k189 n,k65 n],[],[],[]⟩
abbrev g190_k:List (List Nat):=[[0,1,2],[1,2,13],[6],[6]]
noncomputable def g190_e1 (x:Int×Int×Int) (p:Bool):EH Ty_:=([(1,.sc (.int .i64 x.2.1)),(2,.sc (.int .i64 x.2.2)),(13,.sc (.bool p))],[])
noncomputable def g190_t (n:Nat) (x:Int×Int×Int):Pt P_ Ty_ [] Int:=.join (S:=Bool) (g190_e1 x) (.call (k69 n) x.1 fun (y1:Bool×Int×Int×Bool×Bool)=>.ite y1.2.2.2.2 (.leaf (.inl true)) (.call (k189 n) x.1 fun (y2:Bool)=>.leaf (.inl y2))) fun s1=>.ite s1 (.call (k65 n) x.2.2 fun (y3:Int)=>.leaf y3) (.call (k65 n) x.2.1 fun (y4:Int)=>.leaf y4)
noncomputable def k190 (n:Nat):Con P_ Ty_:=conOf (X:=Int×Int×Int) (R:=Int) (pro:=[]) (g190_c n) 130 g190_k (by kernel_rfl) (fun x=>.two .no (.two (.join Bool (g190_e1 x) ⟨[(1,.any),(2,.any),(13,.any)],[]⟩ .no .no) .no)) [.any,.any,.any] [] [] ⟨[(6,.any)],[]⟩ [] true (fun x=>[.sc (.int .i64 x.1),.sc (.int .i64 x.2.1),.sc (.int .i64 x.2.2)]) (fun x=>[]) (fun y=>([(6,.sc (.int .i64 y))],[])) (fun y=>.sc (.int .i64 y)) (fun y=>[]) (g190_t n) (fun x=>by kernel_rfl) (fun x=>by kernel_rfl) (by kernel_rfl) (fun y=>by kernel_rfl) (fun _ y=>by kernel_rfl)
noncomputable def g178_c (n:Nat):Cx P_ Ty_:=⟨[k136 n,k179 n,k181 n,k182 n,k183 n,k184 n,k168 n,k185 n,k158 n,k186 n,k171 n,k187 n,k188 n,k190 n],[],[],[]⟩
abbrev g178_k:List (List Nat):=[[0,1,2,3],[1,2,3,9],[1,2,3,9,10],[8],[1,2,3,9,14],[8],[1,2,3,9,18],[8],[1,2,3,9,22],[8],[1,2,3,9,26],[8],[1,2,3,9,31],[8],[1,2,3,9,36],[8],[1,2,3,9,41],[8],[1,2,3,9,46],[8],[1,2,3,9,51],[8],[1,2,3,9,56],[8],[1,2,3,61],[8],[8]]
noncomputable def g178_t (n:Nat) (x:Int×Int×Int×Int):Pt P_ Ty_ [] Int:=.ite (x.1==(3:Int)) (.call (k136 n) x.2.1 fun (y1:Int)=>.leaf y1) (.ite (x.1==(11:Int)) (.call (k179 n) x.2.1 fun (y2:Int)=>.leaf y2) (.ite (x.1==(12:Int)) (.call (k181 n) x.2.1 fun (y3:Int)=>.leaf y3) (.ite (x.1==(13:Int)) (.call (k182 n) x.2.1 fun (y4:Int)=>.leaf y4) (.ite (x.1==(14:Int)) (.call (k183 n) x.2.1 fun (y5:Bool)=>.call (k184 n) y5 fun (y6:Int)=>.leaf y6) (.ite (x.1==(4:Int)) (.call (k168 n) (x.2.1,x.2.2.1) fun (y7:Int)=>.leaf y7) (.ite (x.1==(5:Int)) (.call (k185 n) (x.2.1,x.2.2.1) fun (y8:Int)=>.leaf y8) (.ite (x.1==(6:Int)) (.call (k158 n) (x.2.1,x.2.2.1) fun (y9:Int)=>.leaf y9) (.ite (x.1==(7:Int)) (.call (k186 n) (x.2.1,x.2.2.1) fun (y10:Int)=>.leaf y10) (.ite (x.1==(8:Int)) (.call (k171 n) (x.2.1,x.2.2.1) fun (y11:Int)=>.leaf y11) (.ite (x.1==(9:Int)) (.call (k187 n) (x.2.1,x.2.2.1) fun (y12:Int)=>.leaf y12) (.ite (x.1==(10:Int)) (.call (k188 n) (x.2.1,x.2.2.1) fun (y13:Bool)=>.call (k184 n) y13 fun (y14:Int)=>.leaf y14) (.call (k190 n) (x.2.1,x.2.2.1,x.2.2.2) fun (y15:Int)=>.leaf y15))))))))))))
noncomputable def k178 (n:Nat):Con P_ Ty_:=conOf (X:=Int×Int×Int×Int) (R:=Int) (pro:=[]) (g178_c n) 112 g178_k (by kernel_rfl) (fun x=>.no) [.any,.any,.any,.any] [] [] ⟨[(8,.any)],[]⟩ [] true (fun x=>[.sc (.int .i64 x.1),.sc (.int .i64 x.2.1),.sc (.int .i64 x.2.2.1),.sc (.int .i64 x.2.2.2)]) (fun x=>[]) (fun y=>([(8,.sc (.int .i64 y))],[])) (fun y=>.sc (.int .i64 y)) (fun y=>[]) (g178_t n) (fun x=>by kernel_rfl) (fun x=>by kernel_rfl) (by kernel_rfl) (fun y=>by kernel_rfl) (fun _ y=>by kernel_rfl)
end Loom
