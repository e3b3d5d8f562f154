/- What the functions that VerifySpends reaches answer,and that they do (part 1 of 2). -/
import Derived.Test.YtkmiaggdcepcdaaGreatLoomC
import Derived.Test.YtkmiaggdcepcdaaGreatChecked
import Derived.KernelRfl
import Derived.WalkKit
import Derived.WalkSpells
import Derived.WalkLawsBesides
import Derived.Lib.Bytealg
set_option linter.unusedVariables false
set_option linter.unusedSimpArgs false
namespace Loom
open Go Go.RowKit
set_option maxRecDepth 100000
noncomputable abbrev P_:=Go.Proofs.Tryz.prog
abbrev I_ {E} (x:Int):TV E:=.sc (.int .i64 x)
abbrev B_ {E} (x:Bool):TV E:=.sc (.bool x)
structure Xa where
 Name_:ByteArray
 Kind_:Int
 Len_:Int
structure Xb where
 Kind_:Int
 Param_:Int
structure Xc where
 Type_:Xb
 Keep_:Bool
 Bits_:Int
 Int_:Int
structure Xd where
 Op_:Int
 D_:Int
 A_:Int
 B_:Int
 C_:Int
 N_:Int
 Bits_:Int
structure Xe where
 Sign_:(List Xa)
 Regs_:(List Xb)
 Slots_:(List Xc)
 List_:(List Xd)
structure Xf where
 Grads_:(List (List Int))
 Params_:(List (List Int))
structure Xg where
 Op_:Int
 Param_:Int
 Set_:(List Bool)
structure Xh where
 Nums_:(List Int)
 Int_:Int
structure Xi where
 C_:Xe
 Slots_:(List Xh)
structure Xj where
 C_:Xe
 Regs_:(List Xh)
 Slots_:(List Xh)
 Out_:(List (List Int))
 Grads_:(List (List Int))
 Params_:(List (List Int))
 Cost_:Int
structure Xk where
 Minus_:Bool
 M_:Int
 E_:Int
 Inf_:Bool
 Nan_:Bool
def El_:Nat→Type
 | 0=>Int
 | 1=>Xa
 | 2=>Xb
 | 3=>Xc
 | 4=>Xd
 | 5=>Int
 | 6=>(List Int)
 | 7=>Xf
 | 8=>Bool
 | 9=>Int
 | 10=>(List Int)
 | 11=>Xg
 | 12=>Xh
 | 13=>Xe
 | _+14=>Empty
def c0 (_:Bool) (x:Int):List AV:=[.sc (.int .u8 x)]
def d0 (_:Bool) (x:Int):List (TV El_):=[.sc (.int .u8 x)]
def c1 (_:Bool) (x:Xa):List AV:=[.sc (.string x.Name_),.sc (.int .i64 x.Kind_),.sc (.int .i64 x.Len_)]
def d1 (_:Bool) (x:Xa):List (TV El_):=[.sc (.string x.Name_),.sc (.int .i64 x.Kind_),.sc (.int .i64 x.Len_)]
def c2 (_:Bool) (x:Xb):List AV:=[.sc (.int .i64 x.Kind_),.sc (.int .i64 x.Param_)]
def d2 (_:Bool) (x:Xb):List (TV El_):=[.sc (.int .i64 x.Kind_),.sc (.int .i64 x.Param_)]
def c3 (_:Bool) (x:Xc):List AV:=[.sc (.int .i64 x.Type_.Kind_),.sc (.int .i64 x.Type_.Param_),.sc (.bool x.Keep_),.sc (.int .u32 x.Bits_),.sc (.int .i64 x.Int_)]
def d3 (_:Bool) (x:Xc):List (TV El_):=[.sc (.int .i64 x.Type_.Kind_),.sc (.int .i64 x.Type_.Param_),.sc (.bool x.Keep_),.sc (.int .u32 x.Bits_),.sc (.int .i64 x.Int_)]
def c4 (_:Bool) (x:Xd):List AV:=[.sc (.int .i64 x.Op_),.sc (.int .i64 x.D_),.sc (.int .i64 x.A_),.sc (.int .i64 x.B_),.sc (.int .i64 x.C_),.sc (.int .i64 x.N_),.sc (.int .u32 x.Bits_)]
def d4 (_:Bool) (x:Xd):List (TV El_):=[.sc (.int .i64 x.Op_),.sc (.int .i64 x.D_),.sc (.int .i64 x.A_),.sc (.int .i64 x.B_),.sc (.int .i64 x.C_),.sc (.int .i64 x.N_),.sc (.int .u32 x.Bits_)]
def c5 (_:Bool) (x:Int):List AV:=[.sc (.int .u32 x)]
def d5 (_:Bool) (x:Int):List (TV El_):=[.sc (.int .u32 x)]
def c6:Bool→(List Int)→List AV
 | true,x=>[.ow 1 (x.map (c5 false))]
 | false,x=>[.im 1 (x.map (c5 false))]
def d6:Bool→(List Int)→List (TV El_)
 | true,x=>[.ow false 5 x]
 | false,x=>[.im 5 x]
def c7:Bool→Xf→List AV
 | true,x=>[.ow 1 (x.Grads_.map (c6 true)),.ow 1 (x.Params_.map (c6 true))]
 | false,x=>[.im 1 (x.Grads_.map (c6 false)),.im 1 (x.Params_.map (c6 false))]
def d7:Bool→Xf→List (TV El_)
 | true,x=>[.ow true 6 x.Grads_,.ow true 6 x.Params_]
 | false,x=>[.im 6 x.Grads_,.im 6 x.Params_]
def c8 (_:Bool) (x:Bool):List AV:=[.sc (.bool x)]
def d8 (_:Bool) (x:Bool):List (TV El_):=[.sc (.bool x)]
def c9 (_:Bool) (x:Int):List AV:=[.sc (.int .i64 x)]
def d9 (_:Bool) (x:Int):List (TV El_):=[.sc (.int .i64 x)]
def c10:Bool→(List Int)→List AV
 | true,x=>[.ow 1 (x.map (c9 false))]
 | false,x=>[.im 1 (x.map (c9 false))]
def d10:Bool→(List Int)→List (TV El_)
 | true,x=>[.ow false 9 x]
 | false,x=>[.im 9 x]
def c11:Bool→Xg→List AV
 | true,x=>[.sc (.int .i64 x.Op_),.sc (.int .i64 x.Param_),.ow 1 (x.Set_.map (c8 false))]
 | false,x=>[.sc (.int .i64 x.Op_),.sc (.int .i64 x.Param_),.im 1 (x.Set_.map (c8 false))]
def d11:Bool→Xg→List (TV El_)
 | true,x=>[.sc (.int .i64 x.Op_),.sc (.int .i64 x.Param_),.ow false 8 x.Set_]
 | false,x=>[.sc (.int .i64 x.Op_),.sc (.int .i64 x.Param_),.im 8 x.Set_]
def c12:Bool→Xh→List AV
 | true,x=>[.ow 1 (x.Nums_.map (c9 false)),.sc (.int .i64 x.Int_)]
 | false,x=>[.im 1 (x.Nums_.map (c9 false)),.sc (.int .i64 x.Int_)]
def d12:Bool→Xh→List (TV El_)
 | true,x=>[.ow false 9 x.Nums_,.sc (.int .i64 x.Int_)]
 | false,x=>[.im 9 x.Nums_,.sc (.int .i64 x.Int_)]
def c13:Bool→Xe→List AV
 | true,x=>[.ow 3 (x.Sign_.map (c1 false)),.ow 2 (x.Regs_.map (c2 false)),.ow 5 (x.Slots_.map (c3 false)),.ow 7 (x.List_.map (c4 false))]
 | false,x=>[.im 3 (x.Sign_.map (c1 false)),.im 2 (x.Regs_.map (c2 false)),.im 5 (x.Slots_.map (c3 false)),.im 7 (x.List_.map (c4 false))]
def d13:Bool→Xe→List (TV El_)
 | true,x=>[.ow false 1 x.Sign_,.ow false 2 x.Regs_,.ow false 3 x.Slots_,.ow false 4 x.List_]
 | false,x=>[.im 1 x.Sign_,.im 2 x.Regs_,.im 3 x.Slots_,.im 4 x.List_]
def ca_ (m:Bool):(t:Nat)→El_ t→List AV
 | 0=>c0 m
 | 1=>c1 m
 | 2=>c2 m
 | 3=>c3 m
 | 4=>c4 m
 | 5=>c5 m
 | 6=>c6 m
 | 7=>c7 m
 | 8=>c8 m
 | 9=>c9 m
 | 10=>c10 m
 | 11=>c11 m
 | 12=>c12 m
 | 13=>c13 m
 | _+14=>fun _=>[]
def ct_ (m:Bool):(t:Nat)→El_ t→List (TV El_)
 | 0=>d0 m
 | 1=>d1 m
 | 2=>d2 m
 | 3=>d3 m
 | 4=>d4 m
 | 5=>d5 m
 | 6=>d6 m
 | 7=>d7 m
 | 8=>d8 m
 | 9=>d9 m
 | 10=>d10 m
 | 11=>d11 m
 | 12=>d12 m
 | 13=>d13 m
 | _+14=>fun _=>[]
def sz_:Nat→Nat
 | 0=>1
 | 1=>3
 | 2=>2
 | 3=>5
 | 4=>7
 | 5=>1
 | 6=>1
 | 7=>2
 | 8=>1
 | 9=>1
 | 10=>1
 | 11=>3
 | 12=>2
 | 13=>4
 | _+14=>0
def ks_ (m:Bool):Nat→List Kd
 | 0=>[]
 | 1=>[]
 | 2=>[]
 | 3=>[]
 | 4=>[]
 | 5=>[]
 | 6=>bif m then [.ow false 5] else [.im 5]
 | 7=>bif m then [.ow true 6,.ow true 6] else [.im 6,.im 6]
 | 8=>[]
 | 9=>[]
 | 10=>bif m then [.ow false 9] else [.im 9]
 | 11=>bif m then [.no,.no,.ow false 8] else [.no,.no,.im 8]
 | 12=>bif m then [.ow false 9,.no] else [.im 9,.no]
 | 13=>bif m then [.ow false 1,.ow false 2,.ow false 3,.ow false 4] else [.im 1,.im 2,.im 3,.im 4]
 | _+14=>[]
abbrev T0_:TT0:=⟨El_,sz_,ca_⟩
def u0 (m:Bool):List (TV El_)→Option Int
 | [v0]=>((gI .u8 v0).bind fun a0=>some a0)
 | _=>none
def u1 (m:Bool):List (TV El_)→Option Xa
 | [v0,v1,v2]=>((gS v0).bind fun a0=>(gI .i64 v1).bind fun a1=>(gI .i64 v2).bind fun a2=>some ⟨a0,a1,a2⟩)
 | _=>none
def u2 (m:Bool):List (TV El_)→Option Xb
 | [v0,v1]=>((gI .i64 v0).bind fun a0=>(gI .i64 v1).bind fun a1=>some ⟨a0,a1⟩)
 | _=>none
def u3 (m:Bool):List (TV El_)→Option Xc
 | [v0,v1,v2,v3,v4]=>((gI .i64 v0).bind fun a0=>(gI .i64 v1).bind fun a1=>(gB v2).bind fun a2=>(gI .u32 v3).bind fun a3=>(gI .i64 v4).bind fun a4=>some ⟨⟨a0,a1⟩,a2,a3,a4⟩)
 | _=>none
def u4 (m:Bool):List (TV El_)→Option Xd
 | [v0,v1,v2,v3,v4,v5,v6]=>((gI .i64 v0).bind fun a0=>(gI .i64 v1).bind fun a1=>(gI .i64 v2).bind fun a2=>(gI .i64 v3).bind fun a3=>(gI .i64 v4).bind fun a4=>(gI .i64 v5).bind fun a5=>(gI .u32 v6).bind fun a6=>some ⟨a0,a1,a2,a3,a4,a5,a6⟩)
 | _=>none
def u5 (m:Bool):List (TV El_)→Option Int
 | [v0]=>((gI .u32 v0).bind fun a0=>some a0)
 | _=>none
def u6 (m:Bool):List (TV El_)→Option (List Int)
 | [v0]=>bif m then ((gO false 5 v0).bind fun a0=>some a0) else ((gM 5 v0).bind fun a0=>some a0)
 | _=>none
def u7 (m:Bool):List (TV El_)→Option Xf
 | [v0,v1]=>bif m then ((gO true 6 v0).bind fun a0=>(gO true 6 v1).bind fun a1=>some ⟨a0,a1⟩) else ((gM 6 v0).bind fun a0=>(gM 6 v1).bind fun a1=>some ⟨a0,a1⟩)
 | _=>none
def u8 (m:Bool):List (TV El_)→Option Bool
 | [v0]=>((gB v0).bind fun a0=>some a0)
 | _=>none
def u9 (m:Bool):List (TV El_)→Option Int
 | [v0]=>((gI .i64 v0).bind fun a0=>some a0)
 | _=>none
def u10 (m:Bool):List (TV El_)→Option (List Int)
 | [v0]=>bif m then ((gO false 9 v0).bind fun a0=>some a0) else ((gM 9 v0).bind fun a0=>some a0)
 | _=>none
def u11 (m:Bool):List (TV El_)→Option Xg
 | [v0,v1,v2]=>bif m then ((gI .i64 v0).bind fun a0=>(gI .i64 v1).bind fun a1=>(gO false 8 v2).bind fun a2=>some ⟨a0,a1,a2⟩) else ((gI .i64 v0).bind fun a0=>(gI .i64 v1).bind fun a1=>(gM 8 v2).bind fun a2=>some ⟨a0,a1,a2⟩)
 | _=>none
def u12 (m:Bool):List (TV El_)→Option Xh
 | [v0,v1]=>bif m then ((gO false 9 v0).bind fun a0=>(gI .i64 v1).bind fun a1=>some ⟨a0,a1⟩) else ((gM 9 v0).bind fun a0=>(gI .i64 v1).bind fun a1=>some ⟨a0,a1⟩)
 | _=>none
def u13 (m:Bool):List (TV El_)→Option Xe
 | [v0,v1,v2,v3]=>bif m then ((gO false 1 v0).bind fun a0=>(gO false 2 v1).bind fun a1=>(gO false 3 v2).bind fun a2=>(gO false 4 v3).bind fun a3=>some ⟨a0,a1,a2,a3⟩) else ((gM 1 v0).bind fun a0=>(gM 2 v1).bind fun a1=>(gM 3 v2).bind fun a2=>(gM 4 v3).bind fun a3=>some ⟨a0,a1,a2,a3⟩)
 | _=>none
def un_ (m:Bool):(t:Nat)→List (TV El_)→Option (El_ t)
 | 0=>u0 m
 | 1=>u1 m
 | 2=>u2 m
 | 3=>u3 m
 | 4=>u4 m
 | 5=>u5 m
 | 6=>u6 m
 | 7=>u7 m
 | 8=>u8 m
 | 9=>u9 m
 | 10=>u10 m
 | 11=>u11 m
 | 12=>u12 m
 | 13=>u13 m
 | _+14=>fun _=>none
theorem y9l (m:Bool) (l:List (TV El_)) (x:Int) (h:u0 m l=some x):denL T0_ [] l=c0 m x:=by
 unfold u0 at h
 split at h
 ·skip
  obtain ⟨a0,h0,h⟩:=zc h
  cases h
  simp only [denL,z21 (T:=T0_) h0]
  rfl
 ·cases h
theorem y9m (m:Bool) (l:List (TV El_)) (x:Xa) (h:u1 m l=some x):denL T0_ [] l=c1 m x:=by
 unfold u1 at h
 split at h
 ·skip
  obtain ⟨a0,h0,h⟩:=zc h
  obtain ⟨a1,h1,h⟩:=zc h
  obtain ⟨a2,h2,h⟩:=zc h
  cases h
  simp only [denL,y9e (T:=T0_) h0,z21 (T:=T0_) h1,z21 (T:=T0_) h2]
  rfl
 ·cases h
theorem y9n (m:Bool) (l:List (TV El_)) (x:Xb) (h:u2 m l=some x):denL T0_ [] l=c2 m x:=by
 unfold u2 at h
 split at h
 ·skip
  obtain ⟨a0,h0,h⟩:=zc h
  obtain ⟨a1,h1,h⟩:=zc h
  cases h
  simp only [denL,z21 (T:=T0_) h0,z21 (T:=T0_) h1]
  rfl
 ·cases h
theorem y9o (m:Bool) (l:List (TV El_)) (x:Xc) (h:u3 m l=some x):denL T0_ [] l=c3 m x:=by
 unfold u3 at h
 split at h
 ·skip
  obtain ⟨a0,h0,h⟩:=zc h
  obtain ⟨a1,h1,h⟩:=zc h
  obtain ⟨a2,h2,h⟩:=zc h
  obtain ⟨a3,h3,h⟩:=zc h
  obtain ⟨a4,h4,h⟩:=zc h
  cases h
  simp only [denL,z21 (T:=T0_) h0,z21 (T:=T0_) h1,zzm (T:=T0_) h2,z21 (T:=T0_) h3,z21 (T:=T0_) h4]
  rfl
 ·cases h
theorem y9p (m:Bool) (l:List (TV El_)) (x:Xd) (h:u4 m l=some x):denL T0_ [] l=c4 m x:=by
 unfold u4 at h
 split at h
 ·skip
  obtain ⟨a0,h0,h⟩:=zc h
  obtain ⟨a1,h1,h⟩:=zc h
  obtain ⟨a2,h2,h⟩:=zc h
  obtain ⟨a3,h3,h⟩:=zc h
  obtain ⟨a4,h4,h⟩:=zc h
  obtain ⟨a5,h5,h⟩:=zc h
  obtain ⟨a6,h6,h⟩:=zc h
  cases h
  simp only [denL,z21 (T:=T0_) h0,z21 (T:=T0_) h1,z21 (T:=T0_) h2,z21 (T:=T0_) h3,z21 (T:=T0_) h4,z21 (T:=T0_) h5,z21 (T:=T0_) h6]
  rfl
 ·cases h
theorem y9q (m:Bool) (l:List (TV El_)) (x:Int) (h:u5 m l=some x):denL T0_ [] l=c5 m x:=by
 unfold u5 at h
 split at h
 ·skip
  obtain ⟨a0,h0,h⟩:=zc h
  cases h
  simp only [denL,z21 (T:=T0_) h0]
  rfl
 ·cases h
theorem y9r (m:Bool) (l:List (TV El_)) (x:(List Int)) (h:u6 m l=some x):denL T0_ [] l=c6 m x:=by
 unfold u6 at h
 split at h
 ·cases m
  ·simp only [cond_false] at h
   obtain ⟨a0,h0,h⟩:=zc h
   cases h
   simp only [denL,z69 (T:=T0_) h0]
   rfl
  ·simp only [cond_true] at h
   obtain ⟨a0,h0,h⟩:=zc h
   cases h
   simp only [denL,z6a (T:=T0_) h0]
   rfl
 ·cases h
theorem y9s (m:Bool) (l:List (TV El_)) (x:Xf) (h:u7 m l=some x):denL T0_ [] l=c7 m x:=by
 unfold u7 at h
 split at h
 ·cases m
  ·simp only [cond_false] at h
   obtain ⟨a0,h0,h⟩:=zc h
   obtain ⟨a1,h1,h⟩:=zc h
   cases h
   simp only [denL,z69 (T:=T0_) h0,z69 (T:=T0_) h1]
   rfl
  ·simp only [cond_true] at h
   obtain ⟨a0,h0,h⟩:=zc h
   obtain ⟨a1,h1,h⟩:=zc h
   cases h
   simp only [denL,z6a (T:=T0_) h0,z6a (T:=T0_) h1]
   rfl
 ·cases h
theorem y9t (m:Bool) (l:List (TV El_)) (x:Bool) (h:u8 m l=some x):denL T0_ [] l=c8 m x:=by
 unfold u8 at h
 split at h
 ·skip
  obtain ⟨a0,h0,h⟩:=zc h
  cases h
  simp only [denL,zzm (T:=T0_) h0]
  rfl
 ·cases h
theorem y9u (m:Bool) (l:List (TV El_)) (x:Int) (h:u9 m l=some x):denL T0_ [] l=c9 m x:=by
 unfold u9 at h
 split at h
 ·skip
  obtain ⟨a0,h0,h⟩:=zc h
  cases h
  simp only [denL,z21 (T:=T0_) h0]
  rfl
 ·cases h
theorem y76 (m:Bool) (l:List (TV El_)) (x:(List Int)) (h:u10 m l=some x):denL T0_ [] l=c10 m x:=by
 unfold u10 at h
 split at h
 ·cases m
  ·simp only [cond_false] at h
   obtain ⟨a0,h0,h⟩:=zc h
   cases h
   simp only [denL,z69 (T:=T0_) h0]
   rfl
  ·simp only [cond_true] at h
   obtain ⟨a0,h0,h⟩:=zc h
   cases h
   simp only [denL,z6a (T:=T0_) h0]
   rfl
 ·cases h
theorem y77 (m:Bool) (l:List (TV El_)) (x:Xg) (h:u11 m l=some x):denL T0_ [] l=c11 m x:=by
 unfold u11 at h
 split at h
 ·cases m
  ·simp only [cond_false] at h
   obtain ⟨a0,h0,h⟩:=zc h
   obtain ⟨a1,h1,h⟩:=zc h
   obtain ⟨a2,h2,h⟩:=zc h
   cases h
   simp only [denL,z21 (T:=T0_) h0,z21 (T:=T0_) h1,z69 (T:=T0_) h2]
   rfl
  ·simp only [cond_true] at h
   obtain ⟨a0,h0,h⟩:=zc h
   obtain ⟨a1,h1,h⟩:=zc h
   obtain ⟨a2,h2,h⟩:=zc h
   cases h
   simp only [denL,z21 (T:=T0_) h0,z21 (T:=T0_) h1,z6a (T:=T0_) h2]
   rfl
 ·cases h
theorem y78 (m:Bool) (l:List (TV El_)) (x:Xh) (h:u12 m l=some x):denL T0_ [] l=c12 m x:=by
 unfold u12 at h
 split at h
 ·cases m
  ·simp only [cond_false] at h
   obtain ⟨a0,h0,h⟩:=zc h
   obtain ⟨a1,h1,h⟩:=zc h
   cases h
   simp only [denL,z69 (T:=T0_) h0,z21 (T:=T0_) h1]
   rfl
  ·simp only [cond_true] at h
   obtain ⟨a0,h0,h⟩:=zc h
   obtain ⟨a1,h1,h⟩:=zc h
   cases h
   simp only [denL,z6a (T:=T0_) h0,z21 (T:=T0_) h1]
   rfl
 ·cases h
theorem y79 (m:Bool) (l:List (TV El_)) (x:Xe) (h:u13 m l=some x):denL T0_ [] l=c13 m x:=by
 unfold u13 at h
 split at h
 ·cases m
  ·simp only [cond_false] at h
   obtain ⟨a0,h0,h⟩:=zc h
   obtain ⟨a1,h1,h⟩:=zc h
   obtain ⟨a2,h2,h⟩:=zc h
   obtain ⟨a3,h3,h⟩:=zc h
   cases h
   simp only [denL,z69 (T:=T0_) h0,z69 (T:=T0_) h1,z69 (T:=T0_) h2,z69 (T:=T0_) h3]
   rfl
  ·simp only [cond_true] at h
   obtain ⟨a0,h0,h⟩:=zc h
   obtain ⟨a1,h1,h⟩:=zc h
   obtain ⟨a2,h2,h⟩:=zc h
   obtain ⟨a3,h3,h⟩:=zc h
   cases h
   simp only [denL,z6a (T:=T0_) h0,z6a (T:=T0_) h1,z6a (T:=T0_) h2,z6a (T:=T0_) h3]
   rfl
 ·cases h
theorem im6:∀ (m:Bool) (x:(List Int)),z29 (c6 m x)=c6 false x
 | true,x=>by simp only [c6,z29,toIm,z2j (o:=c5 false) (c:=c5 false) (fun _=>rfl)]
 | false,_=>rfl
theorem ow6 (x:(List Int)):z1n (c6 true x)=true:=by simp [c6,z1n,noIm,z2c (o:=c5 false) (fun _=>rfl)]
theorem im7:∀ (m:Bool) (x:Xf),z29 (c7 m x)=c7 false x
 | true,x=>by simp only [c7,z29,toIm,z2j (o:=c6 true) (c:=c6 false) (fun _=>im6 true _)]
 | false,_=>rfl
theorem ow7 (x:Xf):z1n (c7 true x)=true:=by simp [c7,z1n,noIm,z2c (o:=c6 true) (fun _=>ow6 _)]
theorem im10:∀ (m:Bool) (x:(List Int)),z29 (c10 m x)=c10 false x
 | true,x=>by simp only [c10,z29,toIm,z2j (o:=c9 false) (c:=c9 false) (fun _=>rfl)]
 | false,_=>rfl
theorem ow10 (x:(List Int)):z1n (c10 true x)=true:=by simp [c10,z1n,noIm,z2c (o:=c9 false) (fun _=>rfl)]
theorem im11:∀ (m:Bool) (x:Xg),z29 (c11 m x)=c11 false x
 | true,x=>by simp only [c11,z29,toIm,z2j (o:=c8 false) (c:=c8 false) (fun _=>rfl)]
 | false,_=>rfl
theorem ow11 (x:Xg):z1n (c11 true x)=true:=by simp [c11,z1n,noIm,z2c (o:=c8 false) (fun _=>rfl)]
theorem im12:∀ (m:Bool) (x:Xh),z29 (c12 m x)=c12 false x
 | true,x=>by simp only [c12,z29,toIm,z2j (o:=c9 false) (c:=c9 false) (fun _=>rfl)]
 | false,_=>rfl
theorem ow12 (x:Xh):z1n (c12 true x)=true:=by simp [c12,z1n,noIm,z2c (o:=c9 false) (fun _=>rfl)]
theorem im13:∀ (m:Bool) (x:Xe),z29 (c13 m x)=c13 false x
 | true,x=>by simp only [c13,z29,toIm,z2j (o:=c1 false) (c:=c1 false) (fun _=>rfl),z2j (o:=c2 false) (c:=c2 false) (fun _=>rfl),z2j (o:=c3 false) (c:=c3 false) (fun _=>rfl),z2j (o:=c4 false) (c:=c4 false) (fun _=>rfl)]
 | false,_=>rfl
theorem ow13 (x:Xe):z1n (c13 true x)=true:=by simp [c13,z1n,noIm,z2c (o:=c1 false) (fun _=>rfl),z2c (o:=c2 false) (fun _=>rfl),z2c (o:=c3 false) (fun _=>rfl),z2c (o:=c4 false) (fun _=>rfl)]
theorem y1o:∀ (m:Bool) (t:Nat) (x:El_ t),denL T0_ [] (ct_ m t x)=ca_ m t x
 | m,0,x=>rfl
 | m,1,x=>rfl
 | m,2,x=>rfl
 | m,3,x=>rfl
 | m,4,x=>rfl
 | m,5,x=>rfl
 | m,6,x=>by cases m <;> rfl
 | m,7,x=>by cases m <;> rfl
 | m,8,x=>rfl
 | m,9,x=>rfl
 | m,10,x=>by cases m <;> rfl
 | m,11,x=>by cases m <;> rfl
 | m,12,x=>by cases m <;> rfl
 | m,13,x=>by cases m <;> rfl
 | _,_+14,x=>rfl
theorem y1n:∀ (m:Bool) (t:Nat) (x:El_ t),inRL (T:=T0_) (ct_ m t x)=true
 | m,0,x=>rfl
 | m,1,x=>rfl
 | m,2,x=>rfl
 | m,3,x=>rfl
 | m,4,x=>rfl
 | m,5,x=>rfl
 | m,6,x=>by cases m <;> rfl
 | m,7,x=>by cases m <;> rfl
 | m,8,x=>rfl
 | m,9,x=>rfl
 | m,10,x=>by cases m <;> rfl
 | m,11,x=>by cases m <;> rfl
 | m,12,x=>by cases m <;> rfl
 | m,13,x=>by cases m <;> rfl
 | _,_+14,x=>rfl
theorem y7a:∀ (m:Bool) (t:Nat) (cs:List (TV El_)) (x:El_ t),un_ m t cs=some x→denL T0_ [] cs=ca_ m t x
 | m,0,cs,x=>y9l m cs x
 | m,1,cs,x=>y9m m cs x
 | m,2,cs,x=>y9n m cs x
 | m,3,cs,x=>y9o m cs x
 | m,4,cs,x=>y9p m cs x
 | m,5,cs,x=>y9q m cs x
 | m,6,cs,x=>y9r m cs x
 | m,7,cs,x=>y9s m cs x
 | m,8,cs,x=>y9t m cs x
 | m,9,cs,x=>y9u m cs x
 | m,10,cs,x=>y76 m cs x
 | m,11,cs,x=>y77 m cs x
 | m,12,cs,x=>y78 m cs x
 | m,13,cs,x=>y79 m cs x
 | _,_+14,_,x=>fun _=>nomatch x
theorem y6s:∀ (m:Bool) (t:Nat) (x:El_ t),z29 (ca_ m t x)=ca_ false t x
 | m,0,x=>rfl
 | m,1,x=>rfl
 | m,2,x=>rfl
 | m,3,x=>rfl
 | m,4,x=>rfl
 | m,5,x=>rfl
 | m,6,x=>im6 m x
 | m,7,x=>im7 m x
 | m,8,x=>rfl
 | m,9,x=>rfl
 | m,10,x=>im10 m x
 | m,11,x=>im11 m x
 | m,12,x=>im12 m x
 | m,13,x=>im13 m x
 | _,_+14,x=>rfl
def po_:Nat→Bool
 | 0=>true
 | 1=>true
 | 2=>true
 | 3=>true
 | 4=>true
 | 5=>true
 | 6=>true
 | 7=>true
 | 8=>true
 | 9=>true
 | 10=>true
 | 11=>true
 | 12=>true
 | 13=>true
 | _+14=>true
theorem y6z:∀ (t:Nat) (x:El_ t),po_ t=true→z1n (ca_ true t x)=true
 | 0,x=>fun _=>rfl
 | 1,x=>fun _=>rfl
 | 2,x=>fun _=>rfl
 | 3,x=>fun _=>rfl
 | 4,x=>fun _=>rfl
 | 5,x=>fun _=>rfl
 | 6,x=>fun _=>ow6 x
 | 7,x=>fun _=>ow7 x
 | 8,x=>fun _=>rfl
 | 9,x=>fun _=>rfl
 | 10,x=>fun _=>ow10 x
 | 11,x=>fun _=>ow11 x
 | 12,x=>fun _=>ow12 x
 | 13,x=>fun _=>ow13 x
 | _+14,x=>fun _=>rfl
def pl_:Nat→Bool
 | 0=>true
 | 1=>true
 | 2=>true
 | 3=>true
 | 4=>true
 | 5=>true
 | 6=>false
 | 7=>false
 | 8=>true
 | 9=>true
 | 10=>false
 | 11=>false
 | 12=>false
 | 13=>false
 | _+14=>true
theorem y70:∀ (t:Nat) (x:El_ t),pl_ t=true→z1n (ca_ false t x)=true
 | 0,x=>fun _=>rfl
 | 1,x=>fun _=>rfl
 | 2,x=>fun _=>rfl
 | 3,x=>fun _=>rfl
 | 4,x=>fun _=>rfl
 | 5,x=>fun _=>rfl
 | 6,x=>fun h=>nomatch h
 | 7,x=>fun h=>nomatch h
 | 8,x=>fun _=>rfl
 | 9,x=>fun _=>rfl
 | 10,x=>fun h=>nomatch h
 | 11,x=>fun h=>nomatch h
 | 12,x=>fun h=>nomatch h
 | 13,x=>fun h=>nomatch h
 | _+14,x=>fun _=>rfl
theorem y4a:∀ (t:Nat) (x:El_ t),(ca_ false t x).all zc7=true
 | 0,x=>rfl
 | 1,x=>rfl
 | 2,x=>rfl
 | 3,x=>rfl
 | 4,x=>rfl
 | 5,x=>rfl
 | 6,x=>rfl
 | 7,x=>rfl
 | 8,x=>rfl
 | 9,x=>rfl
 | 10,x=>rfl
 | 11,x=>rfl
 | 12,x=>rfl
 | 13,x=>rfl
 | _+14,x=>rfl
theorem y6y:∀ (m:Bool) (t:Nat) (x:El_ t),∀ a ∈ ca_ m t x,isZ a=false
 | m,0,x=>z2u rfl
 | m,1,x=>z2u rfl
 | m,2,x=>z2u rfl
 | m,3,x=>z2u rfl
 | m,4,x=>z2u rfl
 | m,5,x=>z2u rfl
 | m,6,x=>by cases m <;> exact z2u rfl
 | m,7,x=>by cases m <;> exact z2u rfl
 | m,8,x=>z2u rfl
 | m,9,x=>z2u rfl
 | m,10,x=>by cases m <;> exact z2u rfl
 | m,11,x=>by cases m <;> exact z2u rfl
 | m,12,x=>by cases m <;> exact z2u rfl
 | m,13,x=>by cases m <;> exact z2u rfl
 | _,_+14,x=>z2u rfl
abbrev Ty_:TT where
 El:=El_
 sz:=sz_
 ca:=ca_
 ks:=ks_
 ct:=ct_
 un:=un_
 ct_ok:=y1o
 ct_in:=y1n
 un_ok:=y7a
 im_ok:=y6s
 po:=po_
 ow_ok:=y6z
 nz_ok:=y6y
 fl_ok:=y4a
 pl:=pl_
 pl_ok:=y70
 u8:=0
 bs:=fun l=>l
 bs_ok:=fun _=>rfl
 bs_sz:=rfl
abbrev Yaa:=Int×Int
abbrev Yab:=Int×(List Int)
abbrev Yac:=Int×(List Xa)×(List Xb)×(List Xc)×(List Xd)
abbrev Yad:=(List Xa)×(List Xb)×(List Xc)×(List Xd)×(List Bool)×(List (List Int))×(List Int)×Xd
abbrev Yae:=Xe×Xd
abbrev Yaf:=Int×(List (List Int))
abbrev Yag:=Int×Bool
abbrev Yah:=Bool×Int×Int×Bool×Bool
abbrev Yai:=Int×(List Bool)
abbrev Yaj:=Bool×(List Xa)×(List Xb)×(List Xc)×(List Xd)
abbrev Yak:=Int×(List Xa)×(List Xb)×(List Xc)×(List Xd)×(List Xh)
abbrev Yal:=Int×Int×Int
abbrev Yam:=ByteArray×Bool
abbrev Yan:=Int×Int×Int×Int
abbrev Yao:=Bool×(List Xa)×(List Xb)×(List Xc)×(List Xd)×(List Bool)×(List (List Int))×(List Int)
abbrev Yap:=Bool×Bool×Bool×Int×Int×Bool×Bool×Bool×Int×Int×Bool×Bool
abbrev Yaq:=(List Xb)×(List Xa)×(List Xb)×(List Xc)×(List Xd)
abbrev Yar:=(List Xc)×(List Xa)×(List Xb)×(List Xc)×(List Xd)
abbrev Yas:=(List Int)×Int
abbrev Yat:=Int×(List Xh)
abbrev Yau:=Xe×Xb
abbrev Yav:=Int×(List Xa)×(List Xb)×(List Xc)×(List Xd)×(List Bool)×(List (List Int))×(List Int)×Int×Int×Int×Int
abbrev Yaw:=Int×(List Xa)×(List Xb)×(List Xc)×(List Xd)×(List Bool)×(List (List Int))×(List Int)
abbrev Yax:=ByteArray×Int×Int
abbrev Yay:=Xe×Xd×(List Bool)×(List Xg)
abbrev Yaz:=Int×(List Bool)×(List Xg)
abbrev Yba:=Xi×(List (List Int))×(List (List Int))
abbrev Ybb:=Xe×Int
abbrev Ybc:=Xe×(List Xf)
abbrev Ybd:=Int×Int×Int×Int×Int
abbrev Ybe:=(List Xd)×Int×(List Xa)×(List Xb)×(List Xc)
abbrev Ybf:=Xk×Xk
abbrev Ybg:=(List Xa)×ByteArray
abbrev Ybh:=Bool×Int×Int
abbrev Ybi:=Bool×(List Int)
abbrev Ybj:=Xj×Xd
abbrev Ybk:=Bool×(List Xa)×(List Xb)×(List Xc)×(List Xd)×(List Bool)×(List (List Int))×(List Int)×Int×Int
abbrev Ybl:=Bool×Bool×Int×Int×Bool×Bool×Bool×Int×Int×Bool×Bool
abbrev Ybm:=Int×Int×(List Xa)×(List Xb)×(List Xc)×(List Xd)×(List Xh)×(List Xh)×(List (List Int))×(List (List Int))×(List (List Int))×Int
abbrev Ybn:=Bool×Int×Int×Int×Int×Int
abbrev Ybo:=Bool×Int
abbrev Ybp:=ByteArray×Bool×Int×Int
abbrev Ybq:=Bool×Bool
abbrev Ybr:=ByteArray×Int
abbrev Ybs:=(List Xa)×(List Xb)×(List Xc)×(List Xd)×(List Bool)×(List (List Int))×(List Int)×Int
abbrev Ybt:=Xa×(List Int)×Int
abbrev Ybu:=(List Xa)×(List Xb)×(List Xc)×(List Xd)
abbrev Ybv:=Xb×(List Xa)×(List Xb)×(List Xc)×(List Xd)
abbrev Ybw:=Xc×(List Xa)×(List Xb)×(List Xc)×(List Xd)
abbrev Ybx:=Xb×Int×Xb
abbrev Yby:=(List Xa)×(List Xb)×(List Xc)×(List Xd)×(List Bool)×(List (List Int))×(List Int)
abbrev Ybz:=Xb×(List Xa)
abbrev Yca:=Xc×(List Xa)
abbrev Ycb:=Xe×Int×Int×Xb
abbrev Ycc:=Xe×Int×Int
abbrev Ycd:=(List Xa)×(List (List Int))
abbrev Yce:=Bool×Bool×Int×Int×Bool×Bool
abbrev Ycf:=Bool×Int×Bool×Int×Int×Bool×Bool×Bool×Int×Int×Bool×Bool
abbrev Ycg:=(List (List Int))×Int×Int×(List Xa)×(List Xb)×(List Xc)×(List Xd)×(List Xh)
abbrev Ych:=Bool×(List Xa)×(List Xb)×(List Xc)×(List Xd)×(List Bool)×(List (List Int))×(List Int)×Int×Int×Int×Int×Int×Int×Int
abbrev Yci:=(List (List Int))×(List Int)
abbrev Ycj:=Bool×(List (List Int))×(List Int)
abbrev Yck:=Int×Int×Bool×Bool
abbrev Ycl:=Bool×Int×Int×Int×Int×Int×Int×Int
abbrev Ycm:=Bool×Int×Int×Bool×Bool×Bool×Int×Int×Bool×Bool
abbrev Ycn:=(List Xa)×(List Xb)×(List Xc)×(List Xd)×(List Xh)×(List Xh)×(List (List Int))×(List (List Int))×(List (List Int))×Int
abbrev Yco:=Bool×Int×Int×Int×Int×Int×Int×Int×Int
abbrev Ycp:=Bool×(List Xa)×(List Xb)×(List Xc)×(List Xd)×(List Xh)
noncomputable def y4b (n:Nat):Cx P_ Ty_:=⟨[],[(9,false,1),(15,false,2),(21,false,3),(27,false,4)],[],[]⟩
abbrev y4c:List (List Nat):=[[1,2],[1,2,3],[1,2,3],[1,2,3],[1,2,3],[2,3],[2]]
noncomputable def zrb (n:Nat) (x:Xe):Pt P_ Ty_ [] (Ybu):=.need (x.Sign_.length * 32≤140737488355328) (.need (x.Regs_.length * 16≤140737488355328) (.need (x.Slots_.length * 32≤140737488355328) (.need (x.List_.length * 56≤140737488355328) (.leaf (x.Sign_,x.Regs_,x.Slots_,x.List_)))))
noncomputable def k101 (n:Nat):Con P_ Ty_:=ze (X:=Xe) (R:=Ybu) (pro:=[]) (y4b n) 5 y4c (fun x=>.no) [.ag [.im 1,.im 2,.im 3,.im 4]] [] [100000] ⟨[(2,.ref 100000)],[(100000,.any)]⟩ [100000] true (fun x=>[.ag [.im 1 x.Sign_,.im 2 x.Regs_,.im 3 x.Slots_,.im 4 x.List_]]) (fun x=>[]) (fun y=>([(2,.pt 100000 [] 0 0)],[(100000,.lit 4 [[.ow false 1 y.1,.ow false 2 y.2.1,.ow false 3 y.2.2.1,.ow false 4 y.2.2.2]])])) (fun y=>.ag [.sw 100000 [(0,0)],.sw 100000 [(0,1)],.sw 100000 [(0,2)],.sw 100000 [(0,3)]]) (fun y=>[(100000,.lit 4 [[.ow false 1 y.1,.ow false 2 y.2.1,.ow false 3 y.2.2.1,.ow false 4 y.2.2.2]])]) (zrb n)
set_option maxHeartbeats 1000000 in
theorem y7e (s:ByteArray) (c:Int) (w:World) :
  Calls Go.Proofs.Tryz.prog 107 #[.string s,.int .u8 c] w fun e w'=>e = .returned (.int .i64 (Lib.indexByte s.data.toList c.toNat.toUInt8))∧w'=w:=by
 go_enter Go.Proofs.Tryz.func107,Go.Proofs.Tryz.ntmps107
 go_wp2
 rw [run_callFunc_extern Go.Proofs.Tryz.func110 (by kernel_rfl) (by kernel_rfl) (by kernel_rfl) (e:=Extern.BytealgIndexByte.indexByte) (by kernel_rfl),Lib.run_indexByteString]
 simp only [Result.andThen]
 rw [Oper.upon_value]
 go_wp2
 go_ret
 exact ⟨rfl,rfl⟩
noncomputable def g71 (_:Nat) (a0:ByteArray) (a1:Int):Option Int:=some (Lib.indexByte a0.data.toList a1.toNat.toUInt8)
theorem zut (n:Nat) (a0:ByteArray) (a1:Int) (r:Int) (hg:g71 n a0 a1=some r):z1h Go.Proofs.Tryz.prog 107 [St a0,.sc (.int .u8 a1)] [] (I64 r) []:=by
 obtain rfl:=Option.some.inj hg
 exact z1h.quiet (vs:=[.string a0,.int .u8 a1]) fun w=>y7e a0 a1 w
noncomputable def k71 (n:Nat):Con Go.Proofs.Tryz.prog Ty_ where
 f:=107
 X:=ByteArray×Int
 Y:=Int
 A:=[.any,.any]
 H:=[]
 N:=[]
 encA:=fun x=>[.sc (.string x.1),.sc (.int .u8 x.2)]
 encH:=fun _=>[]
 G:=fun x=>g71 n x.1 x.2
 encR:=fun y=>.sc (.int .i64 y)
 encO:=fun _=>[]
 strong:=true
 ok:=fun x y h=>⟨fun _=>zut n x.1 x.2 y h,z1h.toG (zut n x.1 x.2 y h)⟩
noncomputable def y98 (n:Nat):Cx P_ Ty_:=⟨[k71 n],[],[],[]⟩
abbrev y99:List (List Nat):=[[0,1],[4]]
noncomputable def zzi (n:Nat) (x:Ybr):Pt P_ Ty_ [] Int:=.call (k71 n) (x.1,x.2) fun (y1:Int)=>.leaf y1
noncomputable def k68 (n:Nat):Con P_ Ty_:=ze (X:=Ybr) (R:=Int) (pro:=[]) (y98 n) 95 y99 (fun x=>.no) [.any,.any] [] [] ⟨[(4,.any)],[]⟩ [] true (fun x=>[.sc (.string x.1),.sc (.int .u8 x.2)]) (fun x=>[]) (fun y=>([(4,I_ y)],[])) (fun y=>I_ y) (fun y=>[]) (zzi n)
noncomputable def zz8 (n:Nat):Cx P_ Ty_:=⟨[k68 n],[],[],[]⟩
abbrev zz9:List (List Nat):=[[0],[0,11],[2],[13,14,15],[13,14,15,16],[4,13,14,15],[4,13,14,15,19],[4,13,14,15,19],[4,13,14,15,19],[13,14,15,19],[2],[13,14,15],[2]]
noncomputable def zuh (x:ByteArray) (p:Bool):EH Ty_:=([(0,.sc (.string x)),(11,B_ p)],[])
noncomputable def zui (x:ByteArray) (v1:Unit) (q1:Int) (p:Yag):EH Ty_:=([(4,.sc (.int .u8 p.1)),(13,.im 0 (bytesOf x)),(14,I_ ((bytesOf x).length:Int)),(15,I_ q1),(19,B_ p.2)],[])
noncomputable def zuj (x:ByteArray) (v1:Unit) (q1:Int) (p:Yag):EH Ty_:=([(4,.sc (.int .u8 p.1)),(13,.im 0 (bytesOf x)),(14,I_ ((bytesOf x).length:Int)),(15,I_ q1),(19,B_ p.2)],[])
noncomputable def zuk (x:ByteArray) (v1:Unit) (q1:Int) (p:Yag):EH Ty_:=([(4,.sc (.int .u8 p.1)),(13,.im 0 (bytesOf x)),(14,I_ ((bytesOf x).length:Int)),(15,I_ q1),(19,B_ p.2)],[])
noncomputable def zul (x:ByteArray) (v1:Unit) (q1:Int) (p:Bool):EH Ty_:=([(13,.im 0 (bytesOf x)),(14,I_ ((bytesOf x).length:Int)),(15,I_ q1),(19,B_ p)],[])
noncomputable def zum (n:Nat) (x:ByteArray) (v1:Unit) (q1:Int):Pt P_ Ty_ [] (Bo Int Int Unit):=.ite (decide (q1<((bytesOf x).length:Int))) (.bnd (idx (bytesOf x) q1) fun y1=>.join (S:=Bool) (zul x v1 q1) (.join (S:=Yag) (zui x v1 q1) (.ite (decide (y1≥(65:Int))) (.leaf (.inl (y1,(decide (y1≤(90:Int)))))) (.leaf (.inl (y1,false)))) fun s2=>.ite s2.2 (.leaf (.inl true)) (.join (S:=Yag) (zuj x v1 q1) (.ite (decide (s2.1≥(97:Int))) (.leaf (.inl (s2.1,(decide (s2.1≤(122:Int)))))) (.leaf (.inl (s2.1,false)))) fun s3=>.ite s3.2 (.leaf (.inl true)) (.join (S:=Yag) (zuk x v1 q1) (.ite (decide (s3.1≥(48:Int))) (.leaf (.inl (s3.1,(decide (s3.1≤(57:Int)))))) (.leaf (.inl (s3.1,false)))) fun s4=>.ite s4.2 (.leaf (.inl true)) (.call (k68 n) ((⟨#[95,46,47,45]⟩:ByteArray),s4.1) fun (y2:Int)=>.leaf (.inl (decide (y2≥(0:Int)))))))) fun s5=>.ite s5 (.leaf (.go (IntKind.i64.wrap (q1+(1:Int))))) (.leaf (.ret ()))) (.leaf (.out q1))
noncomputable def zug (n:Nat) (x:ByteArray) (v1:Unit):LCon P_ Ty_ []:=lcon (X:=Int) (Y:=Int) (Z:=Unit) (zz8 n) (subC [1,1,0,1,0,0] (fnC P_ 79 zz9)) (fun q1=>.two .no (.two .no (.two (.two (.two .no (.two (.join Bool (zul x v1 q1) ⟨[(13,.im 0),(14,.any),(15,.any),(19,.any)],[]⟩ (.join (Yag) (zui x v1 q1) ⟨[(4,.any),(13,.im 0),(14,.any),(15,.any),(19,.any)],[]⟩ .no (.two .no (.join (Yag) (zuj x v1 q1) ⟨[(4,.any),(13,.im 0),(14,.any),(15,.any),(19,.any)],[]⟩ .no (.two .no (.join (Yag) (zuk x v1 q1) ⟨[(4,.any),(13,.im 0),(14,.any),(15,.any),(19,.any)],[]⟩ .no .no))))) .no) .no)) .no) .no))) 0 true ⟨[(13,.im 0),(14,.any),(15,.any)],[]⟩ ⟨[(13,.im 0),(14,.any),(15,.any),(16,.any)],[]⟩ ⟨[(2,.any)],[]⟩ (fun q1=>([(13,.im 0 (bytesOf x)),(14,I_ ((bytesOf x).length:Int)),(15,I_ q1)],[])) (fun p=>([(13,.im 0 (bytesOf x)),(14,I_ ((bytesOf x).length:Int)),(15,I_ p),(16,B_ false)],[])) (fun p=>([(2,B_ false)],[])) n (zum n x v1)
noncomputable def zza (n:Nat) (x:ByteArray):Pt P_ Ty_ [] Bool:=.join (S:=Bool) (zuh x) (.ite (x==(⟨#[]⟩:ByteArray)) (.leaf (.inl true)) (.leaf (.inl (decide ((x.size:Int) > (64:Int)))))) fun s1=>.ite s1 (.leaf false) (.loopR (V:=Unit) (zug n x) () (0:Int) (fun (v1:Unit) (y3:Int)=>.leaf true) fun (v1:Unit) (z1:Unit)=>.leaf false)
noncomputable def k61 (n:Nat):Con P_ Ty_:=ze (X:=ByteArray) (R:=Bool) (pro:=[]) (zz8 n) 79 zz9 (fun x=>.two .no (.two (.join Bool (zuh x) ⟨[(0,.any),(11,.any)],[]⟩ .no .no) (.two (.two .no (.two (.loop Unit (zug n x) true ⟨[(13,.im 0),(14,.any),(15,.any)],[]⟩) .no)) .no))) [.any] [] [] ⟨[(2,.any)],[]⟩ [] true (fun x=>[.sc (.string x)]) (fun x=>[]) (fun y=>([(2,B_ y)],[])) (fun y=>B_ y) (fun y=>[]) (zza n)
noncomputable def y8i (n:Nat):Cx P_ Ty_:=⟨[k61 n],[],[],[]⟩
abbrev y8j:List (List Nat):=[[1],[2]]
noncomputable def zyl (n:Nat) (x:Xa):Pt P_ Ty_ [] Bool:=.call (k61 n) x.Name_ fun (y1:Bool)=>.ite y1 (.ite (x.Kind_==1) (.ite (decide (x.Len_≥(1:Int))) (.leaf (decide (x.Len_≤(4096:Int)))) (.leaf false)) (.ite (x.Kind_==2) (.ite (decide (x.Len_≥(1:Int))) (.leaf (decide (x.Len_≤(4096:Int)))) (.leaf false)) (.leaf false))) (.leaf false)
noncomputable def k48 (n:Nat):Con P_ Ty_:=ze (X:=Xa) (R:=Bool) (pro:=[]) (y8i n) 52 y8j (fun x=>.no) [.ag [.any,.any,.any]] [] [] ⟨[(2,.any)],[]⟩ [] true (fun x=>[.ag [.sc (.string x.Name_),I_ x.Kind_,I_ x.Len_]]) (fun x=>[]) (fun y=>([(2,B_ y)],[])) (fun y=>B_ y) (fun y=>[]) (zyl n)
noncomputable def y8y (n:Nat):Cx P_ Ty_:=⟨[k48 n],[],[],[]⟩
abbrev y8z:List (List Nat):=[[1],[1,3],[2],[1,7],[2],[2]]
noncomputable def zzb (n:Nat) (x:Xa):Pt P_ Ty_ [] Int:=.call (k48 n) x fun (y1:Bool)=>.ite (!y1) (.leaf (0:Int)) (.ite (x.Kind_==2) (.leaf (IntKind.i64.wrap ((2:Int) * x.Len_))) (.leaf x.Len_))
noncomputable def k62 (n:Nat):Con P_ Ty_:=ze (X:=Xa) (R:=Int) (pro:=[]) (y8y n) 80 y8z (fun x=>.no) [.ag [.any,.any,.any]] [] [] ⟨[(2,.any)],[]⟩ [] true (fun x=>[.ag [.sc (.string x.Name_),I_ x.Kind_,I_ x.Len_]]) (fun x=>[]) (fun y=>([(2,I_ y)],[])) (fun y=>I_ y) (fun y=>[]) (zzb n)
noncomputable def zym (n:Nat):Cx P_ Ty_:=⟨[k62 n],[],[],[]⟩
abbrev zyn:List (List Nat):=[[0],[0,3],[3,6,7,8],[3,6,7,8,9],[3,5,6,7,8],[3,6,7,8],[3,6,7,8],[2]]
noncomputable def ztx (n:Nat) (x:(List Xa)) (v1:Unit) (q1:Yaa):Pt P_ Ty_ [] (Bo (Yaa) (Yaa) Empty):=.ite (decide (q1.2<(x.length:Int))) (.bnd (idx x q1.2) fun y1=>.call (k62 n) y1 fun (y2:Int)=>.leaf (.go ((IntKind.i64.wrap (q1.1+y2)),(IntKind.i64.wrap (q1.2+(1:Int)))))) (.leaf (.out (q1.1,q1.2)))
noncomputable def ztw (n:Nat) (x:(List Xa)) (v1:Unit):LCon P_ Ty_ []:=lcon (X:=Yaa) (Y:=Yaa) (Z:=Empty) (zym n) (subC [1,1,0,1,0,0] (fnC P_ 53 zyn)) (fun q1=>.no) 0 false ⟨[(3,.any),(6,.im 1),(7,.any),(8,.any)],[]⟩ ⟨[(3,.any),(6,.im 1),(7,.any),(8,.any),(9,.any)],[]⟩ ⟨[],[]⟩ (fun q1=>([(3,I_ q1.1),(6,.im 1 x),(7,I_ (x.length:Int)),(8,I_ q1.2)],[])) (fun p=>([(3,I_ p.1),(6,.im 1 x),(7,I_ (x.length:Int)),(8,I_ p.2),(9,B_ false)],[])) (fun p=>nomatch p) n (ztx n x v1)
noncomputable def zyo (n:Nat) (x:(List Xa)):Pt P_ Ty_ [] Int:=.loop (V:=Unit) (ztw n x) () ((0:Int),(0:Int)) fun (v1:Unit) (y3:Yaa)=>.leaf y3.1
noncomputable def k49 (n:Nat):Con P_ Ty_:=ze (X:=(List Xa)) (R:=Int) (pro:=[]) (zym n) 53 zyn (fun x=>.two .no (.two .no (.two (.two .no (.two (.loop Unit (ztw n x) false ⟨[(3,.any),(6,.im 1),(7,.any),(8,.any)],[]⟩) .no)) .no))) [.im 1] [] [] ⟨[(2,.any)],[]⟩ [] true (fun x=>[.im 1 x]) (fun x=>[]) (fun y=>([(2,I_ y)],[])) (fun y=>I_ y) (fun y=>[]) (zyo n)
noncomputable def zt4 (n:Nat) (a0:List Xa):Option Int:=(k49 n).G a0
noncomputable def zf5 (n:Nat) (a0:Xa):Option Bool:=(k48 n).G a0
theorem y6p (n:Nat) (p:Xa) (v:Bool) (hv:(k48 n).G p=some v):z1h Go.Proofs.Tryz.prog 52 [.ag [St p.Name_,I64 p.Kind_,I64 p.Len_]] [] (Bl v) []:=((k48 n).ok p v hv).1 rfl
theorem y6q (n:Nat) (p:List Xa) (v:Int) (hv:(k49 n).G p=some v):z1h Go.Proofs.Tryz.prog 53 [.im 3 (p.map (c1 false))] [] (I64 v) []:=((k49 n).ok p v hv).1 rfl
/-- sign.Check over the parameters: none: one may not be; else the names,each once. -/
noncomputable def z8t (n:Nat):List Xa→List ByteArray→Option (Option (List ByteArray))
 | [],ks=>some (some ks)
 | p::l,ks=>(zf5 n p).bind fun v=>bif v then z8t n l (bif has p.Name_ ks then ks else ks++[p.Name_]) else some none
noncomputable def z7f (n:Nat) (a0:List Xa):Option (List ByteArray)→Option Int
 | none=>some 100
 | some ks=>bif decide ((ks.length:Int)<((a0.map (c1 false)).length:Int)) then some 101 else (zt4 n a0).bind fun v=>bif decide (v > 65536) then some 102 else some 0
noncomputable def g28 (n:Nat) (a0:List Xa):Option Int:=bif decide (((a0.map (c1 false)).length:Int) > 64) then some 2 else (z8t n a0 []).bind (z7f n a0)

namespace F28
noncomputable abbrev P:Program:=Go.Proofs.Tryz.prog
noncomputable def b:Code:=(Go.Proofs.Tryz.f22.body).getD .skip
theorem body:Go.Proofs.Tryz.f22.body=some b:=by kernel_rfl
theorem e1:b = .seq (lf b) (.seq (lf (rt b)) (.seq (.region (rid (lf (rt (rt b)))) (rops (lf (rt (rt b)))) false) (.seq (lf (rt (rt (rt b)))) (rt (rt (rt (rt b))))))):=by kernel_rfl
noncomputable abbrev R3:Array Oper:=rops (lf (rt (rt b)))
noncomputable def z:Code:=lf (rt (rt (rt b)))
noncomputable def q:Code:=rt (rt (rt (rt b)))
noncomputable def l:Code:=lf (lf (rt z))
theorem e2:z = .seq (lf z) (.block 0 (.loop l)):=by kernel_rfl
theorem e3:l = .seq (lf l) (.seq (.cond (.tmp 13) .skip (.exit 0)) (.seq (.block 1 (.seq (lf (lf (lf (rt (rt l))))) (.seq (lf (rt (lf (lf (rt (rt l)))))) (.region (rid (rt (rt (lf (lf (rt (rt l))))))) (rops (rt (rt (lf (lf (rt (rt l))))))) false)))) (rt (rt (rt l))))):=by kernel_rfl
noncomputable abbrev R9:Array Oper:=rops (rt (rt (lf (lf (rt (rt l))))))
theorem e4:q = .seq (.block 2 (.seq (.region (rid (lf (lf (lf q)))) (rops (lf (lf (lf q)))) false) (rt (lf (lf q))))) (rt q):=by kernel_rfl
noncomputable abbrev R11:Array Oper:=rops (lf (lf (lf q)))
end F28
namespace F28
abbrev xs (a0:List Xa):Els:=a0.map (c1 false)
abbrev mp (b:Nat):AV:=.sc (.map (some b))
/-- The slots at the loop's head. -/
abbrev EL (a0:List Xa) (b:Nat) (i:Int):Env:=zw [(0,.im 3 (xs a0)),(3,mp b),(10,.im 3 (xs a0)),(11,I64 ((xs a0).length:Int)),(12,I64 i)]
abbrev EL' (a0:List Xa) (b:Nat) (i:Int):Env:=zw [(0,.im 3 (xs a0)),(3,mp b),(10,.im 3 (xs a0)),(11,I64 ((xs a0).length:Int)),(12,I64 i),(13,Bl (decide (i<((xs a0).length:Int))))]
theorem ut:P.underlying 107=some (.map 9 3):=by kernel_rfl
theorem uk:P.underlying 9=some .string:=by kernel_rfl
theorem uz (w:World):(zeroValue 3).run P w = .ok (.int .i64 0) w:=by kernel_rfl

theorem y7i {w0 w:World} {a:Act} {a0:List Xa} {bm:Nat} {ks:List ByteArray} {i:Int} {p:Xa} {Q:Exit→Act→World→Prop}
  (n:Now 35 w0 (some (bm,ks)) (zw [(0,.im 3 (xs a0)),(3,mp bm),(5,.pt 5 [] 0 0),(10,.im 3 (xs a0)),(11,I64 ((xs a0).length:Int)),(12,I64 i),(18,Bl false)]) [(5,⟨3,[[St p.Name_,I64 p.Kind_,I64 p.Len_]]⟩)] a w)
  (hK:∀ a' w',Now 35 w0 (some (bm,bif has p.Name_ ks then ks else ks++[p.Name_])) (EL a0 bm i) [] a' w'→Q .normal a' w') :
  (Code.region (rid (rt (rt (lf (lf (rt (rt l))))))) R9 false).wp P Q a w:=by
 refine wp_region ?_
 have hr:List.range R9.size=[0,1,2,3,4,5]:=by kernel_rfl
 rw [hr]
 refine n.rda (d:=19) (b:=.mov (.tmp 3)) (mp bm) (by kernel_rfl) (by kernel_rfl) fun a w n=>?_
 refine n.rda (d:=20) (b:=.fad 0 (.tmp 5)) (.pt 5 [] 0 0) (by kernel_rfl) (by kernel_rfl) fun a w n=>?_
 refine n.rda (d:=21) (b:=.load false 1 (.tmp 20)) (St p.Name_) (by kernel_rfl) (by kernel_rfl) fun a w n=>?_
 obtain ⟨o,ho,hg,hd,hop⟩:=zfk (ops:=R9) (i:=3) (g:=none) (d:=some 22) (op:=.lookup 107 (.tmp 19) (.tmp 21) false) (by kernel_rfl)
 obtain ⟨c,hc⟩:=(n.km bm ks rfl).1.lookup (P:=P) ut uk (uz w) p.Name_
 have hm:a.eval (.tmp 19) = .map (some bm):=n.eval rfl
 have hk:a.eval (.tmp 21) = .string p.Name_:=n.eval rfl
 refine n.val (v:=.int .i64 c) ho hg hd (by decide) (by simp only [execOp,hop,hm,hk,Sem.run_bind,hc,Result.andThen]; rfl) fun a n=>?_
 refine n.rda (d:=23) (b:=.bin .add (.tmp 22) (.const (.int .i64 1))) (I64 (IntKind.i64.wrap (c+1))) (by kernel_rfl) (by kernel_rfl) fun a w n=>?_
 obtain ⟨o,ho,hg,hd,hop⟩:=zfk (ops:=R9) (i:=5) (g:=none) (d:=none) (op:=.mapUpdate 107 (.tmp 19) (.tmp 21) (.tmp 23)) (by kernel_rfl)
 refine n.upd ho hg hd hop ut uk rfl rfl rfl fun a w n=>?_
 exact hK _ _ (n.gh (z9.norm (P:=P) (bm:=[]) (S:=[0,3,10,11,12]) (by kernel_rfl)))

theorem loop {n:Nat} {w0:World} {a0:List Xa} {bm:Nat} {r:Int} {Q:Exit→Act→World→Prop} (he:∀ ks a w,z7f n a0 (some ks)=some r→Now 35 w0 (some (bm,ks)) (EL' a0 bm a0.length) [] a w→Q (.exit 0) a w)
  (hr:∀ m e' h' a' w',z4v e' h' [.t 2]=some (I64 r)→Now 35 w0 m e' h' a' w'→Q .ret a' w'):∀ (rest pre:List Xa) (ks:List ByteArray) (a:Act) (w:World),a0=pre++rest→a0.length≤64→(z8t n rest ks).bind (z7f n a0)=some r →
  Now 35 w0 (some (bm,ks)) (EL a0 bm pre.length) [] a w→z2q P F28.l Q a w:=by
 intro rest
 induction rest with
 | nil =>
  intro pre ks a w hp hlen hg nw
  refine z2q.step (Eq.mpr (congrArg (fun X:Code=>X.wp P (Exit.then (z2q P F28.l Q) Q) a w) e3) ?_)
  focus
   refine wp_seq (nw.ex (c:=.reg [0,3,10,11,12,13] [⟨13,none,.rd (.bin .lss (.tmp 12) (.tmp 11))⟩]) (R:=fun o e h=>o = .normal∧e=EL' a0 bm pre.length∧h=[]) ⟨[[0,3,10,11,12,13]],[],by kernel_rfl⟩ (W.regG (RG.fin 1 [] _ [] (by kernel_rfl) ⟨rfl,rfl,rfl⟩)) ?_)
   rintro o e h a w ⟨rfl,rfl,rfl⟩ nw
   refine wp_seq (wp_cond (t:=false) ?_ (wp_exit ?_))
   ·rw [nw.eval (v:=.bool (decide ((pre.length:Int)<((xs a0).length:Int)))) rfl]
    simp [xs,hp]
   ·refine he ks a w ?_ ?_
    ·simpa [z8t] using hg
    ·have:pre.length=a0.length:=by simp [hp]
     rw [← this]; exact nw
 | cons p rest ih =>
  intro pre ks a w hp hlen hg nw
  have hi:idx a0 (pre.length:Int)=some p:=by
   simp [idx,hp]
  have hl:pre.length<a0.length:=by simp [hp]
  refine z2q.step (Eq.mpr (congrArg (fun X:Code=>X.wp P (Exit.then (z2q P F28.l Q) Q) a w) e3) ?_)
  focus
   refine wp_seq (nw.ex (c:=.reg [0,3,10,11,12,13] [⟨13,none,.rd (.bin .lss (.tmp 12) (.tmp 11))⟩]) (R:=fun o e h=>o = .normal∧e=EL' a0 bm pre.length∧h=[]) ⟨[[0,3,10,11,12,13]],[],by kernel_rfl⟩ (W.regG (RG.fin 1 [] _ [] (by kernel_rfl) ⟨rfl,rfl,rfl⟩)) ?_)
   rintro o e h a w ⟨rfl,rfl,rfl⟩ nw
   refine wp_seq (wp_cond (t:=true) ?_ (wp_skip ?_))
   ·rw [nw.eval (v:=.bool (decide ((pre.length:Int)<((xs a0).length:Int)))) rfl]
    simp [xs,hp]
    omega
   show (Code.seq _ _).wp _ _ _ _
   refine wp_seq (wp_block (wp_seq (nw.ex (c:=.reg [0,3,5,10,11,12] [⟨14,none,.rd (.iad 3 (.tmp 10) (.tmp 12))⟩,⟨15,none,.rd (.load true 3 (.tmp 14))⟩,⟨5,none,.mk (.box 3 (.const (.agg #[(.string ⟨#[]⟩),(.int .i64 (0)),(.int .i64 (0))])))⟩,⟨35,none,.st 3 (.tmp 5) (.tmp 15)⟩])
    (R:=fun o e h=>o = .normal∧e=zw [(0,.im 3 (xs a0)),(3,mp bm),(5,.pt 5 [] 0 0),(10,.im 3 (xs a0)),(11,I64 ((xs a0).length:Int)),(12,I64 pre.length)]∧h=[(5,⟨3,[[St p.Name_,I64 p.Kind_,I64 p.Len_]]⟩)])
    ⟨[[0,3,5,10,11,12]],[],by kernel_rfl⟩ (W.regG ?_) ?_)))
   ·refine RG.iadIm (R:=Xa) (r:=p) (E:=some) (c:=(c1 false)) (xs:=a0) (i:=pre.length) (k:=.i64) (by kernel_rfl) (by kernel_rfl) (by kernel_rfl) (by rw [hi]; rfl) (fun y2 _ hg=>?_)
    cases hg
    exact RG.fin 3 [(5,5)] _ _ (by kernel_rfl) ⟨rfl,rfl,rfl⟩
   rintro o e h a w ⟨rfl,rfl,rfl⟩ nw
   obtain ⟨v,hv,hg⟩:=Option.bind_eq_some_iff.1 (show ((zf5 n p).bind fun v=>(bif v then z8t n rest (bif has p.Name_ ks then ks else ks++[p.Name_]) else some none).bind (z7f n a0))=some r by rw [← Option.bind_assoc]; exact hg)
   show (Code.seq _ _).wp _ _ _ _
   refine wp_seq (nw.ex (c:=.seq (.reg [0,3,5,10,11,12,18] [⟨16,none,.rd (.load true 3 (.tmp 5))⟩,⟨17,none,.call 52 [(.tmp 16)]⟩,⟨18,none,.rd (.un1 .not (.tmp 17))⟩]) (.cond (.tmp 18) (.seq (.reg [2] [⟨2,none,.rd (.mov (.const (.int .i64 100)))⟩]) .ret) .skip))
    (R:=fun o e h=>(o = .ret∧v=false∧e=zw [(2,I64 100)])∨(o = .normal∧v=true∧e=zw [(0,.im 3 (xs a0)),(3,mp bm),(5,.pt 5 [] 0 0),(10,.im 3 (xs a0)),(11,I64 ((xs a0).length:Int)),(12,I64 pre.length),(18,Bl false)]∧h=[(5,⟨3,[[St p.Name_,I64 p.Kind_,I64 p.Len_]]⟩)]))
    ⟨[[0,3,5,10,11,12,18],[2]],[],by kernel_rfl⟩ ?_ ?_)
   ·refine W.seq (W.regG ?_)
    refine RG.cut 1 [(5,5)] [0,3,5,10,11,12,16] (zw [(0,.im 3 (xs a0)),(3,mp bm),(5,.pt 5 [] 0 0),(10,.im 3 (xs a0)),(11,I64 ((xs a0).length:Int)),(12,I64 pre.length),(16,.ag [St p.Name_,I64 p.Kind_,I64 p.Len_])]) [(5,⟨3,[[St p.Name_,I64 p.Kind_,I64 p.Len_]]⟩)] (by kernel_rfl) ?_
    refine RG.callP (R:=Bool) (r:=v) (E:=some) [] [(5,5)] [0,3,5,10,11,12,17] false [.ag [St p.Name_,I64 p.Kind_,I64 p.Len_]] (fun v2=>Bl v2) (fun v2=>[]) (fun v2=>zw [(0,.im 3 (xs a0)),(3,mp bm),(5,.pt 5 [] 0 0),(10,.im 3 (xs a0)),(11,I64 ((xs a0).length:Int)),(12,I64 pre.length),(17,Bl v2)]) (fun v2=>[(5,⟨3,[[St p.Name_,I64 p.Kind_,I64 p.Len_]]⟩)]) (by kernel_rfl) (gv:=zf5 n p) (by rw [hv]; rfl) (by kernel_rfl) (fun v2 hv=>z1h.toG (y6p n p v2 hv)) (by kernel_rfl) (fun v2=>by kernel_rfl) (fun h=>by cases h) (fun v2 hv' hg'=>?_)
    cases hg'
    refine RG.fin 1 [(5,5)] (zw [(0,.im 3 (xs a0)),(3,mp bm),(5,.pt 5 [] 0 0),(10,.im 3 (xs a0)),(11,I64 ((xs a0).length:Int)),(12,I64 pre.length),(18,Bl (!v))]) [(5,⟨3,[[St p.Name_,I64 p.Kind_,I64 p.Len_]]⟩)] (by kernel_rfl) ?_
    cases v with
    | true=>exact W.condF (by kernel_rfl) (W.skip (.inr ⟨rfl,rfl,rfl,rfl⟩))
    | false=>exact W.condT (by kernel_rfl) (W.seq (W.regG (RG.fin 1 [] (zw [(2,I64 100)]) [] (by kernel_rfl) (W.ret (.inl ⟨rfl,rfl,rfl⟩)))))
   rintro o e h a w (⟨rfl,rfl,rfl⟩ | ⟨rfl,rfl,rfl,rfl⟩) nw
   ·simp only [z7f,cond_false,Option.bind_some,Option.some.injEq] at hg
    subst hg
    exact hr _ _ _ _ _ rfl nw
   ·refine y7i nw fun a w nw=>?_
    refine nw.ex (c:=.reg [0,3,10,11,12] [⟨24,none,.rd (.bin .add (.tmp 12) (.const (.int .i64 1)))⟩,⟨12,none,.rd (.mov (.tmp 24))⟩]) (R:=fun o e h=>o = .normal∧e=EL a0 bm (IntKind.i64.wrap (pre.length+1))∧h=[]) ⟨[[0,3,10,11,12]],[],by kernel_rfl⟩ (W.regG (RG.fin 2 [] _ [] (by kernel_rfl) ⟨rfl,rfl,rfl⟩)) ?_
    rintro o e h a w ⟨rfl,rfl,rfl⟩ nw
    have hw:IntKind.i64.wrap ((pre.length:Int)+1)=((pre++[p]).length:Int):=by
     have:(pre.length:Int)<64:=by omega
     simp only [List.length_append,List.length_singleton]
     rw [z9c (by omega) (by omega)]
     simp
    rw [hw] at nw
    exact ih (pre++[p]) _ a w (by simp [hp]) hlen hg nw

theorem tail {n:Nat} {w0 w:World} {a:Act} {a0:List Xa} {bm:Nat} {ks:List ByteArray} {r:Int} {Q:Exit→Act→World→Prop} (hg:z7f n a0 (some ks)=some r) (nw:Now 35 w0 (some (bm,ks)) (EL' a0 bm a0.length) [] a w)
  (hr:∀ m e' h' a' w',z4v e' h' [.t 2]=some (I64 r)→Now 35 w0 m e' h' a' w'→Q .ret a' w'):q.wp P Q a w:=by
 rw [e4]
 refine wp_seq (wp_block (wp_seq (wp_region ?_)))
 have h11:List.range (rops (lf (lf (lf q)))).size=[0,1,2,3,4,5]:=by kernel_rfl
 rw [h11]
 refine nw.rda (d:=26) (b:=.mov (.tmp 3)) (mp bm) (by kernel_rfl) (by kernel_rfl) fun a w nw=>?_
 obtain ⟨o,ho,hgd,hd,hop⟩:=zfk (ops:=R11) (i:=1) (g:=none) (d:=some 27) (op:=.call { callee:=.builtin .len,args:=#[.tmp 26],argTypes:=#[107] }) (by kernel_rfl)
 have hm:a.eval (.tmp 26) = .map (some bm):=nw.eval rfl
 have hc:=(nw.km bm ks rfl).1.len (P:=P) ut o.type
 refine nw.val (v:=.int .i64 ks.length) ho hgd hd (by decide) (by simp [execOp,hop,resolve,invoke,builtin,hm,hc,Result.andThen]) fun a nw=>?_
 refine nw.rda (d:=28) (b:=.mov (.tmp 0)) (.im 3 (xs a0)) (by kernel_rfl) (by kernel_rfl) fun a w nw=>?_
 refine nw.rda (d:=29) (b:=.len (.tmp 28)) (I64 ((xs a0).length:Int)) (by kernel_rfl) (by kernel_rfl) fun a w nw=>?_
 refine nw.rda (d:=30) (b:=.bin .lss (.tmp 27) (.tmp 29)) (Bl (decide ((ks.length:Int)<((xs a0).length:Int)))) (by kernel_rfl) (by kernel_rfl) fun a w nw=>?_
 refine nw.rda (d:=25) (b:=.mov (.tmp 30)) (Bl (decide ((ks.length:Int)<((xs a0).length:Int)))) (by kernel_rfl) (by kernel_rfl) fun a w nw=>?_
 have nw:=nw.gh (z9.norm (P:=P) (bm:=[]) (S:=[0,25]) (e1:=zw [(0,.im 3 (xs a0)),(25,Bl (decide ((ks.length:Int)<((xs a0).length:Int))))]) (h1:=[]) (by kernel_rfl))
 refine nw.ex (c:=.cond (.tmp 25) (.seq (.reg [2] [⟨2,none,.rd (.mov (.const (.int .i64 101)))⟩]) .ret)
   (.seq (.reg [31] [⟨32,none,.rd (.mov (.tmp 0))⟩,⟨33,none,.call 53 [(.tmp 32)]⟩,⟨34,none,.rd (.bin .gtr (.tmp 33) (.const (.int .i64 65536)))⟩,⟨31,none,.rd (.mov (.tmp 34))⟩]) (.cond (.tmp 31) (.seq (.reg [2] [⟨2,none,.rd (.mov (.const (.int .i64 102)))⟩]) .ret) .skip)))
  (R:=fun o e h=>(o = .ret∧e=zw [(2,I64 r)])∨(o = .normal∧r=0∧h=[]))
  ⟨[[2],[31],[2]],[],by kernel_rfl⟩ ?_ ?_
 ·unfold z7f at hg
  refine W.condB (by kernel_rfl) hg (fun hg=>?_) (fun hg=>?_)
  ·obtain rfl:=Option.some.inj hg
   exact W.seq (W.regG (RG.fin 1 [] (zw [(2,I64 101)]) [] (by kernel_rfl) (W.ret (.inl ⟨rfl,rfl⟩))))
  ·refine W.seq (W.regG ?_)
   refine RG.cut 1 [] [32] (zw [(32,.im 3 (xs a0))]) [] (by kernel_rfl) ?_
   refine RG.callP [] [] [33] false [.im 3 (xs a0)] (fun v2=>I64 v2) (fun v2=>[]) (fun v2=>zw [(33,I64 v2)]) (fun v2=>[]) (by kernel_rfl) hg (by kernel_rfl) (fun v2 hv=>z1h.toG (y6q n a0 v2 hv)) (by kernel_rfl) (fun v2=>by kernel_rfl) (fun h=>by cases h) (fun v2 hv hg=>?_)
   refine RG.fin 2 [] (zw [(31,Bl (decide (v2 > 65536)))]) [] (by kernel_rfl) ?_
   refine W.condB (by kernel_rfl) hg (fun hg=>?_) (fun hg=>?_)
   ·obtain rfl:=Option.some.inj hg
    exact W.seq (W.regG (RG.fin 1 [] (zw [(2,I64 102)]) [] (by kernel_rfl) (W.ret (.inl ⟨rfl,rfl⟩))))
   ·obtain rfl:=Option.some.inj hg
    exact W.skip (.inr ⟨rfl,rfl,rfl⟩)
 rintro o e h a w (⟨rfl,rfl⟩ | ⟨rfl,rfl,rfl⟩) nw
 ·exact hr _ _ _ _ _ rfl nw
 ·refine nw.ex (c:=.seq (.reg [2] [⟨2,none,.rd (.mov (.const (.int .i64 0)))⟩]) .ret) (R:=fun o e h=>o = .ret∧e=zw [(2,I64 0)]) ⟨[[2]],[],by kernel_rfl⟩ (W.seq (W.regG (RG.fin 1 [] (zw [(2,I64 0)]) [] (by kernel_rfl) (W.ret ⟨rfl,rfl⟩)))) ?_
  rintro o e h a w ⟨rfl,rfl⟩ nw
  exact hr _ _ _ _ _ rfl nw
end F28
open F28 in
theorem zt5 (n:Nat) (a0:List Xa) (r:Int) (hg:g28 n a0=some r):z1h Go.Proofs.Tryz.prog 22 [.im 3 (a0.map (c1 false))] [] (I64 r) []:=by
 refine Now.call (P:=P) (N:=35) (fn:=Go.Proofs.Tryz.f22) (ts:=[.t 2]) (by kernel_rfl) F28.body (by kernel_rfl) (by kernel_rfl) fun a w0 Q nw hr=>?_
 rw [e1]
 refine wp_seq (nw.ex (c:=.reg [0] [⟨2,none,.rd (.mov (.const (.int .i64 0)))⟩]) (R:=fun o e h=>o = .normal∧e=zw [(0,.im 3 (xs a0))]∧h=[]) ⟨[[0]],[],by kernel_rfl⟩ (W.regG (RG.fin 1 [] _ [] (by kernel_rfl) ⟨rfl,rfl,rfl⟩)) ?_)
 rintro o e h a w ⟨rfl,rfl,rfl⟩ nw
 show (Code.seq _ _).wp _ _ _ _
 unfold g28 at hg
 refine wp_seq (nw.ex (c:=.seq (.reg [0,8] [⟨6,none,.rd (.mov (.tmp 0))⟩,⟨7,none,.rd (.len (.tmp 6))⟩,⟨8,none,.rd (.bin .gtr (.tmp 7) (.const (.int .i64 64)))⟩]) (.cond (.tmp 8) (.seq (.reg [2] [⟨2,none,.rd (.mov (.const (.int .i64 2)))⟩]) .ret) .skip))
  (R:=fun o e h=>(o = .ret∧e=zw [(2,I64 r)])∨(o = .normal∧a0.length≤64∧(z8t n a0 []).bind (z7f n a0)=some r∧e=zw [(0,.im 3 (xs a0)),(8,Bl (decide (((xs a0).length:Int) > 64)))]∧h=[])) ⟨[[0,8],[2]],[],by kernel_rfl⟩ ?_ ?_)
 ·refine W.seq (W.regG (RG.fin 3 [] (zw [(0,.im 3 (xs a0)),(8,Bl (decide (((xs a0).length:Int) > 64)))]) [] (by kernel_rfl) ?_))
  cases hd:decide (((xs a0).length:Int) > 64) with
  | true =>
   rw [hd] at hg
   obtain rfl:=Option.some.inj hg
   exact W.condT (by kernel_rfl) (W.seq (W.regG (RG.fin 1 [] (zw [(2,I64 2)]) [] (by kernel_rfl) (W.ret (.inl ⟨rfl,rfl⟩)))))
  | false =>
   rw [hd] at hg
   refine W.condF (by kernel_rfl) (W.skip (.inr ⟨rfl,?_,hg,rfl,rfl⟩))
   simp [xs] at hd
   omega
 rintro o e h a w (⟨rfl,rfl⟩ | ⟨rfl,hlen,hg,rfl,rfl⟩) nw
 ·exact hr _ _ _ _ _ rfl nw
 show (Code.seq _ _).wp _ _ _ _
 refine wp_seq (wp_region ?_)
 have h3:List.range (rops (lf (rt (rt b)))).size=[0,1]:=by kernel_rfl
 rw [h3]
 obtain ⟨o,ho,hgd,hd,hop⟩:=zfk (ops:=R3) (i:=0) (g:=none) (d:=some 9) (op:=.makeMap 107 none) (by kernel_rfl)
 refine nw.make ho hgd hd (by decide) hop fun bm a w nw=>?_
 refine nw.rda (d:=3) (b:=.mov (.tmp 9)) (mp bm) (by kernel_rfl) (by kernel_rfl) fun a w nw=>?_
 have nw:=nw.gh (z9.norm (P:=P) (bm:=[]) (S:=[0,3]) (e1:=zw [(0,.im 3 (xs a0)),(3,mp bm)]) (h1:=[]) (by kernel_rfl))
 show (Code.seq z q).wp _ _ _ _
 refine wp_seq ?_
 rw [e2]
 refine wp_seq (nw.ex (c:=.reg [0,3,10,11,12] [⟨10,none,.rd (.mov (.tmp 0))⟩,⟨11,none,.rd (.len (.tmp 10))⟩,⟨12,none,.rd (.mov (.const (.int .i64 0)))⟩]) (R:=fun o e h=>o = .normal∧e=EL a0 bm 0∧h=[]) ⟨[[0,3,10,11,12]],[],by kernel_rfl⟩ (W.regG (RG.fin 3 [] _ [] (by kernel_rfl) ⟨rfl,rfl,rfl⟩)) ?_)
 rintro o e h a w ⟨rfl,rfl,rfl⟩ nw
 refine wp_block (z2q.wp (loop (n:=n) (Q:=Exit.inBlock 0 (Exit.then (q.wp P Q) Q)) (w0:=w0) (a0:=a0) (bm:=bm) (r:=r) (fun ks a w hg nw=>?_) (fun m e h a w hv nw=>hr m e h a w hv nw) a0 [] [] a w rfl hlen hg nw))
 exact tail hg nw hr
noncomputable def k28 (n:Nat):Con Go.Proofs.Tryz.prog Ty_ where
 f:=22
 X:=(List Xa)
 Y:=Int
 A:=[.im 1]
 H:=[]
 N:=[]
 encA:=fun x=>[.im 1 x]
 encH:=fun _=>[]
 G:=fun x=>g28 n x
 encR:=fun y=>.sc (.int .i64 y)
 encO:=fun _=>[]
 strong:=true
 ok:=fun x y h=>⟨fun _=>zt5 n x y h,z1h.toG (zt5 n x y h)⟩
noncomputable def y84 (n:Nat):Cx P_ Ty_:=⟨[],[],[],[]⟩
abbrev y85:List (List Nat):=[[2,3],[2,3,6],[2,3,6,7],[2,3,6,7],[4],[2,3,13],[4],[4]]
noncomputable def zt6 (x:Yau) (p:Bool):EH Ty_:=([(2,.pt 2 [] 0 0),(3,.pt 3 [] 0 0),(6,I_ x.2.Kind_),(7,B_ p)],[(2,.lit 4 [[.im 1 x.1.Sign_,.im 2 x.1.Regs_,.im 3 x.1.Slots_,.im 4 x.1.List_]]),(3,.lit 2 [[I_ x.2.Kind_,I_ x.2.Param_]])])
noncomputable def zy1 (n:Nat) (x:Yau):Pt P_ Ty_ [] Bool:=.join (S:=Bool) (zt6 x) (.ite (x.2.Kind_==1) (.leaf (.inl true)) (.leaf (.inl (x.2.Kind_==2)))) fun s1=>.ite s1 (.leaf (x.2.Param_==0)) (.ite (x.2.Kind_==3) (.ite (decide (x.2.Param_≥(0:Int))) (.leaf (decide (x.2.Param_<(x.1.Sign_.length:Int)))) (.leaf false)) (.leaf false))
noncomputable def k31 (n:Nat):Con P_ Ty_:=ze (X:=Yau) (R:=Bool) (pro:=[]) (y84 n) 25 y85 (fun x=>.two .no (.two (.two .no (.two (.join Bool (zt6 x) ⟨[(2,.ref 2),(3,.ref 3),(6,.any),(7,.any)],[(2,.any),(3,.any)]⟩ .no .no) .no)) .no)) [.ag [.im 1,.im 2,.im 3,.im 4],.ag [.any,.any]] [] [] ⟨[(4,.any)],[]⟩ [] true (fun x=>[.ag [.im 1 x.1.Sign_,.im 2 x.1.Regs_,.im 3 x.1.Slots_,.im 4 x.1.List_],.ag [I_ x.2.Kind_,I_ x.2.Param_]]) (fun x=>[]) (fun y=>([(4,B_ y)],[])) (fun y=>B_ y) (fun y=>[]) (zy1 n)
noncomputable def y82 (n:Nat):Cx P_ Ty_:=⟨[k31 n],[],[],[]⟩
abbrev y83:List (List Nat):=[[1,2],[3]]
noncomputable def zy0 (n:Nat) (x:Ybv):Pt P_ Ty_ [200000] (Yaj):=.call (k31 n) ((⟨x.2.1,x.2.2.1,x.2.2.2.1,x.2.2.2.2⟩:Xe),x.1) fun (y1:Bool)=>.leaf ((!y1),x.2.1,x.2.2.1,x.2.2.2.1,x.2.2.2.2)
noncomputable def k30 (n:Nat):Con P_ Ty_:=ze (X:=Ybv) (R:=Yaj) (pro:=[200000]) (y82 n) 24 y83 (fun x=>.no) [.ag [.any,.any],.pt 200000] [(200000,[.im 1,.im 2,.im 3,.im 4])] [] ⟨[(3,.any)],[(200000,.any)]⟩ [200000] false (fun x=>[.ag [I_ x.1.Kind_,I_ x.1.Param_],.pt 200000 [] 0 0]) (fun x=>[(200000,.lit 4 [[.im 1 x.2.1,.im 2 x.2.2.1,.im 3 x.2.2.2.1,.im 4 x.2.2.2.2]])]) (fun y=>([(3,B_ y.1)],[(200000,.lit 4 [[.im 1 y.2.1,.im 2 y.2.2.1,.im 3 y.2.2.2.1,.im 4 y.2.2.2.2]])])) (fun y=>B_ y.1) (fun y=>[(200000,.lit 4 [[.im 1 y.2.1,.im 2 y.2.2.1,.im 3 y.2.2.2.1,.im 4 y.2.2.2.2]])]) (zy0 n)
noncomputable def zyp (n:Nat):Cx P_ Ty_:=⟨[k30 n],[],[],[]⟩
abbrev zyq:List (List Nat):=[[0,1],[0,1,7,8],[0,1,7,8,9],[0,1,5,7,8],[0,1,5,7,8,16],[4],[0,1,7,8],[4]]
noncomputable def ztz (n:Nat) (x:Yaq) (v1:Unit) (q1:Yac):Pt P_ Ty_ [200000] (Bo (Yac) (Yac) (Yac)):=.ite (decide (q1.1<(x.1.length:Int))) (.bnd (idx x.1 q1.1) fun y1=>.call (k30 n) (y1,q1.2.1,q1.2.2.1,q1.2.2.2.1,q1.2.2.2.2) fun (y2:Yaj)=>.ite y2.1 (.leaf (.ret (q1.1,y2.2.1,y2.2.2.1,y2.2.2.2.1,y2.2.2.2.2))) (.leaf (.go ((IntKind.i64.wrap (q1.1+(1:Int))),y2.2.1,y2.2.2.1,y2.2.2.2.1,y2.2.2.2.2)))) (.leaf (.out (q1.1,q1.2.1,q1.2.2.1,q1.2.2.2.1,q1.2.2.2.2)))
noncomputable def zty (n:Nat) (x:Yaq) (v1:Unit):LCon P_ Ty_ [200000]:=lcon (X:=Yac) (Y:=Yac) (Z:=Yac) (zyp n) (subC [1,0,1,0,0] (fnC P_ 54 zyq)) (fun q1=>.no) 0 true ⟨[(0,.im 2),(1,.fn [.ref 200000]),(7,.any),(8,.any)],[(200000,.any)]⟩ ⟨[(0,.im 2),(1,.fn [.ref 200000]),(7,.any),(8,.any),(9,.any)],[(200000,.any)]⟩ ⟨[(4,.any)],[(200000,.any)]⟩ (fun q1=>([(0,.im 2 x.1),(1,.fn 24 [.pt 200000 [] 0 0]),(7,I_ (x.1.length:Int)),(8,I_ q1.1)],[(200000,.lit 4 [[.im 1 q1.2.1,.im 2 q1.2.2.1,.im 3 q1.2.2.2.1,.im 4 q1.2.2.2.2]])])) (fun p=>([(0,.im 2 x.1),(1,.fn 24 [.pt 200000 [] 0 0]),(7,I_ (x.1.length:Int)),(8,I_ p.1),(9,B_ false)],[(200000,.lit 4 [[.im 1 p.2.1,.im 2 p.2.2.1,.im 3 p.2.2.2.1,.im 4 p.2.2.2.2]])])) (fun p=>([(4,I_ p.1)],[(200000,.lit 4 [[.im 1 p.2.1,.im 2 p.2.2.1,.im 3 p.2.2.2.1,.im 4 p.2.2.2.2]])])) n (ztz n x v1)
noncomputable def zyr (n:Nat) (x:Yaq):Pt P_ Ty_ [200000] (Yac):=.loopR (V:=Unit) (zty n x) () ((0:Int),x.2.1,x.2.2.1,x.2.2.2.1,x.2.2.2.2) (fun (v1:Unit) (y3:Yac)=>.leaf ((-1:Int),y3.2.1,y3.2.2.1,y3.2.2.2.1,y3.2.2.2.2)) fun (v1:Unit) (z1:Yac)=>.leaf (z1.1,z1.2.1,z1.2.2.1,z1.2.2.2.1,z1.2.2.2.2)
noncomputable def k50 (n:Nat):Con P_ Ty_:=ze (X:=Yaq) (R:=Yac) (pro:=[200000]) (zyp n) 54 zyq (fun x=>.two .no (.two (.two .no (.two (.loop Unit (zty n x) true ⟨[(0,.im 2),(1,.fn [.ref 200000]),(7,.any),(8,.any)],[(200000,.any)]⟩) .no)) .no)) [.im 2,.fn 24 [.pt 200000]] [(200000,[.im 1,.im 2,.im 3,.im 4])] [] ⟨[(4,.any)],[(200000,.any)]⟩ [200000] false (fun x=>[.im 2 x.1,.fn 24 [.pt 200000 [] 0 0]]) (fun x=>[(200000,.lit 4 [[.im 1 x.2.1,.im 2 x.2.2.1,.im 3 x.2.2.2.1,.im 4 x.2.2.2.2]])]) (fun y=>([(4,I_ y.1)],[(200000,.lit 4 [[.im 1 y.2.1,.im 2 y.2.2.1,.im 3 y.2.2.2.1,.im 4 y.2.2.2.2]])])) (fun y=>I_ y.1) (fun y=>[(200000,.lit 4 [[.im 1 y.2.1,.im 2 y.2.2.1,.im 3 y.2.2.2.1,.im 4 y.2.2.2.2]])]) (zyr n)
noncomputable def y80 (n:Nat):Cx P_ Ty_:=⟨[k50 n],[],[],[]⟩
abbrev y81:List (List Nat):=[[0,1],[4]]
noncomputable def zxz (n:Nat) (x:Yaq):Pt P_ Ty_ [200000] (Yaj):=.call (k50 n) (x.1,x.2.1,x.2.2.1,x.2.2.2.1,x.2.2.2.2) fun (y1:Yac)=>.leaf ((decide (y1.1≥(0:Int))),y1.2.1,y1.2.2.1,y1.2.2.2.1,y1.2.2.2.2)
noncomputable def k29 (n:Nat):Con P_ Ty_:=ze (X:=Yaq) (R:=Yaj) (pro:=[200000]) (y80 n) 23 y81 (fun x=>.no) [.im 2,.fn 24 [.pt 200000]] [(200000,[.im 1,.im 2,.im 3,.im 4])] [] ⟨[(4,.any)],[(200000,.any)]⟩ [200000] false (fun x=>[.im 2 x.1,.fn 24 [.pt 200000 [] 0 0]]) (fun x=>[(200000,.lit 4 [[.im 1 x.2.1,.im 2 x.2.2.1,.im 3 x.2.2.2.1,.im 4 x.2.2.2.2]])]) (fun y=>([(4,B_ y.1)],[(200000,.lit 4 [[.im 1 y.2.1,.im 2 y.2.2.1,.im 3 y.2.2.2.1,.im 4 y.2.2.2.2]])])) (fun y=>B_ y.1) (fun y=>[(200000,.lit 4 [[.im 1 y.2.1,.im 2 y.2.2.1,.im 3 y.2.2.2.1,.im 4 y.2.2.2.2]])]) (zxz n)
noncomputable def y8k (n:Nat):Cx P_ Ty_:=⟨[],[],[],[]⟩
abbrev y8l:List (List Nat):=[[0],[2]]
noncomputable def zyv (n:Nat) (x:Int):Pt P_ Ty_ [] Bool:=.ite (decide ((IntKind.u32.wrap (BitVec.ofInt IntKind.u32.bits x &&& ~~~BitVec.ofInt IntKind.u32.bits (2147483648:Int)).toNat)≤(2139095040:Int))) (.leaf true) (.leaf (x==2143289344))
noncomputable def k52 (n:Nat):Con P_ Ty_:=ze (X:=Int) (R:=Bool) (pro:=[]) (y8k n) 56 y8l (fun x=>.no) [.any] [] [] ⟨[(2,.any)],[]⟩ [] true (fun x=>[.sc (.int .u32 x)]) (fun x=>[]) (fun y=>([(2,B_ y)],[])) (fun y=>B_ y) (fun y=>[]) (zyv n)
noncomputable def y8a (n:Nat):Cx P_ Ty_:=⟨[k31 n,k52 n],[],[],[]⟩
abbrev y8b:List (List Nat):=[[2,3],[3,9],[4],[3,13],[4],[4]]
noncomputable def zy4 (n:Nat) (x:Xe×Xc):Pt P_ Ty_ [] Bool:=.call (k31 n) (x.1,x.2.Type_) fun (y1:Bool)=>.ite (!y1) (.leaf false) (.ite (x.2.Type_.Kind_==2) (.ite (x.2.Bits_==0) (.ite (decide (x.2.Int_≥(0:Int))) (.leaf (decide (x.2.Int_≤(2147483647:Int)))) (.leaf false)) (.leaf false)) (.ite (x.2.Int_==0) (.call (k52 n) x.2.Bits_ fun (y2:Bool)=>.leaf y2) (.leaf false)))
noncomputable def k34 (n:Nat):Con P_ Ty_:=ze (X:=Xe×Xc) (R:=Bool) (pro:=[]) (y8a n) 28 y8b (fun x=>.no) [.ag [.im 1,.im 2,.im 3,.im 4],.ag [.any,.any,.any,.any,.any]] [] [] ⟨[(4,.any)],[]⟩ [] true (fun x=>[.ag [.im 1 x.1.Sign_,.im 2 x.1.Regs_,.im 3 x.1.Slots_,.im 4 x.1.List_],.ag [I_ x.2.Type_.Kind_,I_ x.2.Type_.Param_,B_ x.2.Keep_,.sc (.int .u32 x.2.Bits_),I_ x.2.Int_]]) (fun x=>[]) (fun y=>([(4,B_ y)],[])) (fun y=>B_ y) (fun y=>[]) (zy4 n)
noncomputable def y88 (n:Nat):Cx P_ Ty_:=⟨[k34 n],[],[],[]⟩
abbrev y89:List (List Nat):=[[1,2],[3]]
noncomputable def zy3 (n:Nat) (x:Ybw):Pt P_ Ty_ [200000] (Yaj):=.call (k34 n) ((⟨x.2.1,x.2.2.1,x.2.2.2.1,x.2.2.2.2⟩:Xe),x.1) fun (y1:Bool)=>.leaf ((!y1),x.2.1,x.2.2.1,x.2.2.2.1,x.2.2.2.2)
noncomputable def k33 (n:Nat):Con P_ Ty_:=ze (X:=Ybw) (R:=Yaj) (pro:=[200000]) (y88 n) 27 y89 (fun x=>.no) [.ag [.any,.any,.any,.any,.any],.pt 200000] [(200000,[.im 1,.im 2,.im 3,.im 4])] [] ⟨[(3,.any)],[(200000,.any)]⟩ [200000] false (fun x=>[.ag [I_ x.1.Type_.Kind_,I_ x.1.Type_.Param_,B_ x.1.Keep_,.sc (.int .u32 x.1.Bits_),I_ x.1.Int_],.pt 200000 [] 0 0]) (fun x=>[(200000,.lit 4 [[.im 1 x.2.1,.im 2 x.2.2.1,.im 3 x.2.2.2.1,.im 4 x.2.2.2.2]])]) (fun y=>([(3,B_ y.1)],[(200000,.lit 4 [[.im 1 y.2.1,.im 2 y.2.2.1,.im 3 y.2.2.2.1,.im 4 y.2.2.2.2]])])) (fun y=>B_ y.1) (fun y=>[(200000,.lit 4 [[.im 1 y.2.1,.im 2 y.2.2.1,.im 3 y.2.2.2.1,.im 4 y.2.2.2.2]])]) (zy3 n)
noncomputable def zys (n:Nat):Cx P_ Ty_:=⟨[k33 n],[],[],[]⟩
abbrev zyt:List (List Nat):=[[0,1],[0,1,7,8],[0,1,7,8,9],[0,1,5,7,8],[0,1,5,7,8,16],[4],[0,1,7,8],[4]]
noncomputable def zu1 (n:Nat) (x:Yar) (v1:Unit) (q1:Yac):Pt P_ Ty_ [200000] (Bo (Yac) (Yac) (Yac)):=.ite (decide (q1.1<(x.1.length:Int))) (.bnd (idx x.1 q1.1) fun y1=>.call (k33 n) (y1,q1.2.1,q1.2.2.1,q1.2.2.2.1,q1.2.2.2.2) fun (y2:Yaj)=>.ite y2.1 (.leaf (.ret (q1.1,y2.2.1,y2.2.2.1,y2.2.2.2.1,y2.2.2.2.2))) (.leaf (.go ((IntKind.i64.wrap (q1.1+(1:Int))),y2.2.1,y2.2.2.1,y2.2.2.2.1,y2.2.2.2.2)))) (.leaf (.out (q1.1,q1.2.1,q1.2.2.1,q1.2.2.2.1,q1.2.2.2.2)))
noncomputable def zu0 (n:Nat) (x:Yar) (v1:Unit):LCon P_ Ty_ [200000]:=lcon (X:=Yac) (Y:=Yac) (Z:=Yac) (zys n) (subC [1,0,1,0,0] (fnC P_ 55 zyt)) (fun q1=>.no) 0 true ⟨[(0,.im 3),(1,.fn [.ref 200000]),(7,.any),(8,.any)],[(200000,.any)]⟩ ⟨[(0,.im 3),(1,.fn [.ref 200000]),(7,.any),(8,.any),(9,.any)],[(200000,.any)]⟩ ⟨[(4,.any)],[(200000,.any)]⟩ (fun q1=>([(0,.im 3 x.1),(1,.fn 27 [.pt 200000 [] 0 0]),(7,I_ (x.1.length:Int)),(8,I_ q1.1)],[(200000,.lit 4 [[.im 1 q1.2.1,.im 2 q1.2.2.1,.im 3 q1.2.2.2.1,.im 4 q1.2.2.2.2]])])) (fun p=>([(0,.im 3 x.1),(1,.fn 27 [.pt 200000 [] 0 0]),(7,I_ (x.1.length:Int)),(8,I_ p.1),(9,B_ false)],[(200000,.lit 4 [[.im 1 p.2.1,.im 2 p.2.2.1,.im 3 p.2.2.2.1,.im 4 p.2.2.2.2]])])) (fun p=>([(4,I_ p.1)],[(200000,.lit 4 [[.im 1 p.2.1,.im 2 p.2.2.1,.im 3 p.2.2.2.1,.im 4 p.2.2.2.2]])])) n (zu1 n x v1)
noncomputable def zyu (n:Nat) (x:Yar):Pt P_ Ty_ [200000] (Yac):=.loopR (V:=Unit) (zu0 n x) () ((0:Int),x.2.1,x.2.2.1,x.2.2.2.1,x.2.2.2.2) (fun (v1:Unit) (y3:Yac)=>.leaf ((-1:Int),y3.2.1,y3.2.2.1,y3.2.2.2.1,y3.2.2.2.2)) fun (v1:Unit) (z1:Yac)=>.leaf (z1.1,z1.2.1,z1.2.2.1,z1.2.2.2.1,z1.2.2.2.2)
noncomputable def k51 (n:Nat):Con P_ Ty_:=ze (X:=Yar) (R:=Yac) (pro:=[200000]) (zys n) 55 zyt (fun x=>.two .no (.two (.two .no (.two (.loop Unit (zu0 n x) true ⟨[(0,.im 3),(1,.fn [.ref 200000]),(7,.any),(8,.any)],[(200000,.any)]⟩) .no)) .no)) [.im 3,.fn 27 [.pt 200000]] [(200000,[.im 1,.im 2,.im 3,.im 4])] [] ⟨[(4,.any)],[(200000,.any)]⟩ [200000] false (fun x=>[.im 3 x.1,.fn 27 [.pt 200000 [] 0 0]]) (fun x=>[(200000,.lit 4 [[.im 1 x.2.1,.im 2 x.2.2.1,.im 3 x.2.2.2.1,.im 4 x.2.2.2.2]])]) (fun y=>([(4,I_ y.1)],[(200000,.lit 4 [[.im 1 y.2.1,.im 2 y.2.2.1,.im 3 y.2.2.2.1,.im 4 y.2.2.2.2]])])) (fun y=>I_ y.1) (fun y=>[(200000,.lit 4 [[.im 1 y.2.1,.im 2 y.2.2.1,.im 3 y.2.2.2.1,.im 4 y.2.2.2.2]])]) (zyu n)
noncomputable def y86 (n:Nat):Cx P_ Ty_:=⟨[k51 n],[],[],[]⟩
abbrev y87:List (List Nat):=[[0,1],[4]]
noncomputable def zy2 (n:Nat) (x:Yar):Pt P_ Ty_ [200000] (Yaj):=.call (k51 n) (x.1,x.2.1,x.2.2.1,x.2.2.2.1,x.2.2.2.2) fun (y1:Yac)=>.leaf ((decide (y1.1≥(0:Int))),y1.2.1,y1.2.2.1,y1.2.2.2.1,y1.2.2.2.2)
noncomputable def k32 (n:Nat):Con P_ Ty_:=ze (X:=Yar) (R:=Yaj) (pro:=[200000]) (y86 n) 26 y87 (fun x=>.no) [.im 3,.fn 27 [.pt 200000]] [(200000,[.im 1,.im 2,.im 3,.im 4])] [] ⟨[(4,.any)],[(200000,.any)]⟩ [200000] false (fun x=>[.im 3 x.1,.fn 27 [.pt 200000 [] 0 0]]) (fun x=>[(200000,.lit 4 [[.im 1 x.2.1,.im 2 x.2.2.1,.im 3 x.2.2.2.1,.im 4 x.2.2.2.2]])]) (fun y=>([(4,B_ y.1)],[(200000,.lit 4 [[.im 1 y.2.1,.im 2 y.2.2.1,.im 3 y.2.2.2.1,.im 4 y.2.2.2.2]])])) (fun y=>B_ y.1) (fun y=>[(200000,.lit 4 [[.im 1 y.2.1,.im 2 y.2.2.1,.im 3 y.2.2.2.1,.im 4 y.2.2.2.2]])]) (zy2 n)
noncomputable def y7w (n:Nat):Cx P_ Ty_:=⟨[],[],[],[]⟩
abbrev y7x:List (List Nat):=[[0,2],[2,4],[2,4,5],[2,3],[2,4,8],[2,3],[2,4,11],[2,3],[2,4,14],[2,4,14],[2,4,14],[2,4,14],[2,4,14],[2,4,14],[2,4,14],[2,3],[2,4,23],[2,4,23],[2,4,23],[2,4,23],[2,3],[2,4,29],[2,3],[2,4,32],[2,3],[2,4,35],[2,3],[2,4,38],[2,3],[2,4,41],[2,4,41],[2,3],[2,4,45],[2,4,45],[2,3],[2,4,49],[2,4,49],[2,4,49],[2,4,49],[2,4,49],[2,3],[2,4,56],[2,3],[2,4,59],[2,4,59],[2,3],[2,4,63],[2,3],[2,4,66],[2,3],[2,4,69],[2,3],[2,4,72],[2,3],[2,4,75],[2,3],[2,4,78],[2,78],[2,3],[2,3]]
noncomputable def zsq (x:Int) (p:Bool):EH Ty_:=([(2,.pt 2 [] 0 0),(4,I_ x),(14,B_ p)],[(2,.lit 5 [[I_ (0:Int),I_ (0:Int),I_ (0:Int),I_ (0:Int),I_ (0:Int)]])])
noncomputable def zsr (x:Int) (p:Bool):EH Ty_:=([(2,.pt 2 [] 0 0),(4,I_ x),(23,B_ p)],[(2,.lit 5 [[I_ (0:Int),I_ (0:Int),I_ (0:Int),I_ (0:Int),I_ (0:Int)]])])
noncomputable def zss (x:Int) (p:Bool):EH Ty_:=([(2,.pt 2 [] 0 0),(4,I_ x),(41,B_ p)],[(2,.lit 5 [[I_ (0:Int),I_ (0:Int),I_ (0:Int),I_ (0:Int),I_ (0:Int)]])])
noncomputable def zst (x:Int) (p:Bool):EH Ty_:=([(2,.pt 2 [] 0 0),(4,I_ x),(45,B_ p)],[(2,.lit 5 [[I_ (0:Int),I_ (0:Int),I_ (0:Int),I_ (0:Int),I_ (0:Int)]])])
noncomputable def zsu (x:Int) (p:Bool):EH Ty_:=([(2,.pt 2 [] 0 0),(4,I_ x),(49,B_ p)],[(2,.lit 5 [[I_ (0:Int),I_ (0:Int),I_ (0:Int),I_ (0:Int),I_ (0:Int)]])])
noncomputable def zsv (x:Int) (p:Bool):EH Ty_:=([(2,.pt 2 [] 0 0),(4,I_ x),(59,B_ p)],[(2,.lit 5 [[I_ (0:Int),I_ (0:Int),I_ (0:Int),I_ (0:Int),I_ (0:Int)]])])
noncomputable def zsw (x:Int) (p:Bool):EH Ty_:=([(2,.pt 2 [] 0 0),(78,B_ p)],[(2,.lit 5 [[I_ (0:Int),I_ (0:Int),I_ (0:Int),I_ (0:Int),I_ (0:Int)]])])
noncomputable def zxx (n:Nat) (x:Int):Pt P_ Ty_ [] (Ybn):=.ite (x==1) (.leaf (true,(1:Int),(0:Int),(0:Int),(0:Int),(0:Int))) (.ite (x==2) (.leaf (true,(2:Int),(0:Int),(0:Int),(0:Int),(1:Int))) (.ite (x==3) (.leaf (true,(8:Int),(7:Int),(0:Int),(0:Int),(0:Int))) (.join (S:=Bool) (zsq x) (.ite (x==4) (.leaf (.inl true)) (.ite (x==5) (.leaf (.inl true)) (.ite (x==6) (.leaf (.inl true)) (.ite (x==7) (.leaf (.inl true)) (.ite (x==8) (.leaf (.inl true)) (.ite (x==9) (.leaf (.inl true)) (.leaf (.inl (x==10))))))))) fun s1=>.ite s1 (.leaf (true,(4:Int),(5:Int),(5:Int),(0:Int),(0:Int))) (.join (S:=Bool) (zsr x) (.ite (x==11) (.leaf (.inl true)) (.ite (x==12) (.leaf (.inl true)) (.ite (x==13) (.leaf (.inl true)) (.leaf (.inl (x==14)))))) fun s2=>.ite s2 (.leaf (true,(4:Int),(5:Int),(0:Int),(0:Int),(0:Int))) (.ite (x==15) (.leaf (true,(4:Int),(5:Int),(5:Int),(5:Int),(0:Int))) (.ite (x==16) (.leaf (true,(1:Int),(1:Int),(2:Int),(0:Int),(0:Int))) (.ite (x==17) (.leaf (true,(1:Int),(2:Int),(0:Int),(0:Int),(0:Int))) (.ite (x==18) (.leaf (true,(2:Int),(1:Int),(0:Int),(0:Int),(0:Int))) (.join (S:=Bool) (zss x) (.ite (x==19) (.leaf (.inl true)) (.leaf (.inl (x==20)))) fun s3=>.ite s3 (.leaf (true,(1:Int),(3:Int),(0:Int),(0:Int),(0:Int))) (.join (S:=Bool) (zst x) (.ite (x==21) (.leaf (.inl true)) (.leaf (.inl (x==25)))) fun s4=>.ite s4 (.leaf (true,(2:Int),(2:Int),(0:Int),(0:Int),(0:Int))) (.join (S:=Bool) (zsu x) (.ite (x==22) (.leaf (.inl true)) (.ite (x==23) (.leaf (.inl true)) (.ite (x==24) (.leaf (.inl true)) (.ite (x==27) (.leaf (.inl true)) (.leaf (.inl (x==28))))))) fun s5=>.ite s5 (.leaf (true,(2:Int),(2:Int),(2:Int),(0:Int),(0:Int))) (.ite (x==26) (.leaf (true,(2:Int),(2:Int),(2:Int),(2:Int),(0:Int))) (.join (S:=Bool) (zsv x) (.ite (x==29) (.leaf (.inl true)) (.leaf (.inl (x==30)))) fun s6=>.ite s6 (.leaf (true,(3:Int),(0:Int),(0:Int),(0:Int),(2:Int))) (.ite (x==31) (.leaf (true,(0:Int),(3:Int),(0:Int),(0:Int),(2:Int))) (.ite (x==32) (.leaf (true,(8:Int),(0:Int),(0:Int),(0:Int),(3:Int))) (.ite (x==33) (.leaf (true,(0:Int),(8:Int),(0:Int),(0:Int),(3:Int))) (.ite (x==34) (.leaf (true,(0:Int),(2:Int),(0:Int),(0:Int),(0:Int))) (.ite (x==36) (.leaf (true,(0:Int),(0:Int),(0:Int),(0:Int),(4:Int))) (.join (S:=Bool) (zsw x) (.ite (x==35) (.leaf (.inl true)) (.leaf (.inl (x==37)))) fun s7=>.ite s7 (.leaf (true,(0:Int),(0:Int),(0:Int),(0:Int),(0:Int))) (.leaf (false,(0:Int),(0:Int),(0:Int),(0:Int),(0:Int))))))))))))))))))))))
noncomputable def k26 (n:Nat):Con P_ Ty_:=ze (X:=Int) (R:=Ybn) (pro:=[]) (y7w n) 57 y7x (fun x=>.two .no (.two (.two .no (.two (.two .no (.two .no (.two .no (.two .no (.two .no (.two .no (.join Bool (zsq x) ⟨[(2,.ref 2),(4,.any),(14,.any)],[(2,.any)]⟩ .no (.two .no (.join Bool (zsr x) ⟨[(2,.ref 2),(4,.any),(23,.any)],[(2,.any)]⟩ .no (.two .no (.two .no (.two .no (.two .no (.two .no (.two .no (.two .no (.two .no (.two .no (.join Bool (zss x) ⟨[(2,.ref 2),(4,.any),(41,.any)],[(2,.any)]⟩ .no (.two .no (.join Bool (zst x) ⟨[(2,.ref 2),(4,.any),(45,.any)],[(2,.any)]⟩ .no (.two .no (.join Bool (zsu x) ⟨[(2,.ref 2),(4,.any),(49,.any)],[(2,.any)]⟩ .no (.two .no (.two .no (.two .no (.join Bool (zsv x) ⟨[(2,.ref 2),(4,.any),(59,.any)],[(2,.any)]⟩ .no (.two .no (.two .no (.two .no (.two .no (.two .no (.two .no (.two .no (.two .no (.two .no (.two .no (.two .no (.join Bool (zsw x) ⟨[(2,.ref 2),(78,.any)],[(2,.any)]⟩ .no .no))))))))))))))))))))))))))))))))))))))) .no)) .no)) [.any] [] [] ⟨[(2,.ref 100000),(3,.any)],[(100000,.any)]⟩ [] true (fun x=>[I_ x]) (fun x=>[]) (fun y=>([(2,.pt 100000 [] 0 0),(3,B_ y.1)],[(100000,.lit 5 [[I_ y.2.1,I_ y.2.2.1,I_ y.2.2.2.1,I_ y.2.2.2.2.1,I_ y.2.2.2.2.2]])])) (fun y=>.tu [.ag [I_ y.2.1,I_ y.2.2.1,I_ y.2.2.2.1,I_ y.2.2.2.2.1,I_ y.2.2.2.2.2],B_ y.1]) (fun y=>[]) (zxx n)
noncomputable def y8m (n:Nat):Cx P_ Ty_:=⟨[],[],[],[]⟩
abbrev y8n:List (List Nat):=[[0,1,4],[0,1,4,17],[4,5],[4,5]]
noncomputable def zu2 (x:Ybs) (p:Bool):EH Ty_:=([(0,.pt 200000 [] 0 0),(1,I_ x.2.2.2.2.2.2.2),(4,.pt 4 [] 0 0),(17,B_ p)],[(200000,.lit 7 [[.im 1 x.1,.im 2 x.2.1,.im 3 x.2.2.1,.im 4 x.2.2.2.1,.ow false 8 x.2.2.2.2.1,.ow true 10 x.2.2.2.2.2.1,.ow false 9 x.2.2.2.2.2.2.1]]),(4,.lit 2 [[I_ (0:Int),I_ (0:Int)]])])
noncomputable def zyw (n:Nat) (x:Ybs):Pt P_ Ty_ [200000] (Ybk):=.join (S:=Bool) (zu2 x) (.ite (decide (x.2.2.2.2.2.2.2<(0:Int))) (.leaf (.inl true)) (.leaf (.inl (decide (x.2.2.2.2.2.2.2≥(x.2.1.length:Int)))))) fun s1=>.ite s1 (.leaf (false,x.1,x.2.1,x.2.2.1,x.2.2.2.1,x.2.2.2.2.1,x.2.2.2.2.2.1,x.2.2.2.2.2.2.1,(0:Int),(0:Int))) (.bnd (idx x.2.1 x.2.2.2.2.2.2.2) fun y1=>.leaf (true,x.1,x.2.1,x.2.2.1,x.2.2.2.1,x.2.2.2.2.1,x.2.2.2.2.2.1,x.2.2.2.2.2.2.1,y1.Kind_,y1.Param_))
noncomputable def k53 (n:Nat):Con P_ Ty_:=ze (X:=Ybs) (R:=Ybk) (pro:=[200000]) (y8m n) 58 y8n (fun x=>.two .no (.two (.join Bool (zu2 x) ⟨[(0,.ref 200000),(1,.any),(4,.ref 4),(17,.any)],[(200000,.any),(4,.any)]⟩ .no .no) .no)) [.pt 200000,.any] [(200000,[.im 1,.im 2,.im 3,.im 4,.ow false 8,.ow true 10,.ow false 9])] [] ⟨[(4,.ref 100000),(5,.any)],[(200000,.any),(100000,.any)]⟩ [200000] false (fun x=>[.pt 200000 [] 0 0,I_ x.2.2.2.2.2.2.2]) (fun x=>[(200000,.lit 7 [[.im 1 x.1,.im 2 x.2.1,.im 3 x.2.2.1,.im 4 x.2.2.2.1,.ow false 8 x.2.2.2.2.1,.ow true 10 x.2.2.2.2.2.1,.ow false 9 x.2.2.2.2.2.2.1]])]) (fun y=>([(4,.pt 100000 [] 0 0),(5,B_ y.1)],[(200000,.lit 7 [[.im 1 y.2.1,.im 2 y.2.2.1,.im 3 y.2.2.2.1,.im 4 y.2.2.2.2.1,.ow false 8 y.2.2.2.2.2.1,.ow true 10 y.2.2.2.2.2.2.1,.ow false 9 y.2.2.2.2.2.2.2.1]]),(100000,.lit 2 [[I_ y.2.2.2.2.2.2.2.2.1,I_ y.2.2.2.2.2.2.2.2.2]])])) (fun y=>.tu [.ag [I_ y.2.2.2.2.2.2.2.2.1,I_ y.2.2.2.2.2.2.2.2.2],B_ y.1]) (fun y=>[(200000,.lit 7 [[.im 1 y.2.1,.im 2 y.2.2.1,.im 3 y.2.2.2.1,.im 4 y.2.2.2.2.1,.ow false 8 y.2.2.2.2.2.1,.ow true 10 y.2.2.2.2.2.2.1,.ow false 9 y.2.2.2.2.2.2.2.1]])]) (zyw n)
noncomputable def y8o (n:Nat):Cx P_ Ty_:=⟨[],[],[],[]⟩
abbrev y8p:List (List Nat):=[[1,3,5],[1,3,5,7],[3,5,7,11],[3,5,7,11,12],[6],[3,5,7,11,15],[6],[3,5,7,11,20],[6],[3,5,7,11,25],[6],[3,5,7,11,30],[6],[3,5,7,11,38],[6],[3,5,7,43],[6],[6]]
noncomputable def zyx (n:Nat) (x:Ybx):Pt P_ Ty_ [] Bool:=.ite (x.2.1==1) (.leaf (x.1.Kind_==1)) (.ite (x.2.1==2) (.leaf (x.1.Kind_==2)) (.ite (x.2.1==3) (.leaf (x.1.Kind_==3)) (.ite (x.2.1==4) (.leaf (x.1.Kind_ != (2:Int))) (.ite (x.2.1==5) (.ite (x.1.Kind_==1) (.leaf true) (.leaf (x.1.Kind_==x.2.2.Kind_ && (x.1.Param_==x.2.2.Param_ && true)))) (.ite (x.2.1==6) (.leaf (x.1.Kind_==x.2.2.Kind_ && (x.1.Param_==x.2.2.Param_ && true))) (.ite (x.2.1==7) (.ite (x.1.Kind_==x.2.2.Kind_ && (x.1.Param_==x.2.2.Param_ && true)) (.leaf true) (.ite (x.1.Kind_==1) (.leaf (x.2.2.Kind_==3)) (.leaf false))) (.leaf true)))))))
noncomputable def k54 (n:Nat):Con P_ Ty_:=ze (X:=Ybx) (R:=Bool) (pro:=[]) (y8o n) 59 y8p (fun x=>.no) [.ag [.any,.any],.any,.ag [.any,.any]] [] [] ⟨[(6,.any)],[]⟩ [] true (fun x=>[.ag [I_ x.1.Kind_,I_ x.1.Param_],I_ x.2.1,.ag [I_ x.2.2.Kind_,I_ x.2.2.Param_]]) (fun x=>[]) (fun y=>([(6,B_ y)],[])) (fun y=>B_ y) (fun y=>[]) (zyx n)
noncomputable def zy5 (n:Nat):Cx P_ Ty_:=⟨[k26 n,k53 n,k54 n,k52 n],[],[],[]⟩
abbrev zy6:List (List Nat):=[[0,3],[0,3,5,6],[0,3,5,21],[4],[0,3,5,7,8],[0,3,5,7,8,30,31],[0,3,5,7,8,30,31,32],[0,3,5,7,8,9,10,30,31],[0,3,5,7,8,9,10,11,30,31],[0,3,5,7,8,9,10,11,30,31,47],[0,3,5,7,8,30,31,49],[4],[0,3,5,7,8,9,10,12,13,30,31],[0,3,5,7,8,9,12,30,31,64],[4],[0,3,5,7,8,12,30,31,65],[0,3,5,7,8,12,30,31,65,66],[0,3,5,7,8,30,31],[0,3,5,7,8,12,30,31,70],[0,3,5,7,8,12,30,31,74],[0,3,5,7,8,30,31],[0,3,5,7,8,30,31],[0,3,5,8,95],[4],[0,3,8,97],[0,3,8,97,98],[4],[0,3,8,97,108],[4],[0,3,8,97,131],[4],[0,3,161],[4],[4]]
noncomputable def zt8 (x:Yad) (v1:Ybd) (q1:Yav) (p:Ybk):EH Ty_:=([(0,.pt 200000 [] 0 0),(3,.pt 3 [] 0 0),(5,.pt 5 [] 0 0),(7,.pt 7 [] 0 0),(8,.pt 8 [] 0 0),(9,I_ q1.1),(12,.pt 12 [] 0 0),(30,.ag [I_ v1.1,I_ v1.2.1,I_ v1.2.2.1,I_ v1.2.2.2.1]),(31,I_ q1.1),(64,B_ p.1)],[(200000,.lit 7 [[.im 1 p.2.1,.im 2 p.2.2.1,.im 3 p.2.2.2.1,.im 4 p.2.2.2.2.1,.ow false 8 p.2.2.2.2.2.1,.ow true 10 p.2.2.2.2.2.2.1,.ow false 9 p.2.2.2.2.2.2.2.1]]),(3,.lit 7 [[I_ x.2.2.2.2.2.2.2.Op_,I_ x.2.2.2.2.2.2.2.D_,I_ x.2.2.2.2.2.2.2.A_,I_ x.2.2.2.2.2.2.2.B_,I_ x.2.2.2.2.2.2.2.C_,I_ x.2.2.2.2.2.2.2.N_,.sc (.int .u32 x.2.2.2.2.2.2.2.Bits_)]]),(5,.lit 5 [[I_ v1.1,I_ v1.2.1,I_ v1.2.2.1,I_ v1.2.2.2.1,I_ v1.2.2.2.2]]),(7,.lit 2 [[I_ q1.2.2.2.2.2.2.2.2.1,I_ q1.2.2.2.2.2.2.2.2.2.1]]),(8,.lit 2 [[I_ q1.2.2.2.2.2.2.2.2.2.2.1,I_ q1.2.2.2.2.2.2.2.2.2.2.2]]),(12,.lit 2 [[I_ p.2.2.2.2.2.2.2.2.1,I_ p.2.2.2.2.2.2.2.2.2]])])
noncomputable def zt9 (x:Yad) (p:Ych):EH Ty_:=([(0,.pt 200000 [] 0 0),(3,.pt 3 [] 0 0),(5,.pt 5 [] 0 0),(8,.pt 8 [] 0 0),(95,B_ p.1)],[(200000,.lit 7 [[.im 1 p.2.1,.im 2 p.2.2.1,.im 3 p.2.2.2.1,.im 4 p.2.2.2.2.1,.ow false 8 p.2.2.2.2.2.1,.ow true 10 p.2.2.2.2.2.2.1,.ow false 9 p.2.2.2.2.2.2.2.1]]),(3,.lit 7 [[I_ x.2.2.2.2.2.2.2.Op_,I_ x.2.2.2.2.2.2.2.D_,I_ x.2.2.2.2.2.2.2.A_,I_ x.2.2.2.2.2.2.2.B_,I_ x.2.2.2.2.2.2.2.C_,I_ x.2.2.2.2.2.2.2.N_,.sc (.int .u32 x.2.2.2.2.2.2.2.Bits_)]]),(5,.lit 5 [[I_ p.2.2.2.2.2.2.2.2.1,I_ p.2.2.2.2.2.2.2.2.2.1,I_ p.2.2.2.2.2.2.2.2.2.2.1,I_ p.2.2.2.2.2.2.2.2.2.2.2.1,I_ p.2.2.2.2.2.2.2.2.2.2.2.2.1]]),(8,.lit 2 [[I_ p.2.2.2.2.2.2.2.2.2.2.2.2.2.1,I_ p.2.2.2.2.2.2.2.2.2.2.2.2.2.2]])])
noncomputable def zta (n:Nat) (x:Yad) (v1:Ybd) (q1:Yav):Pt P_ Ty_ [200000] (Bo (Yav) (Yav) (Yby)):=.ite (decide (q1.1<(4:Int))) (.bnd (idx [v1.1,v1.2.1,v1.2.2.1,v1.2.2.2.1] q1.1) fun y2=>.bnd (idx [x.2.2.2.2.2.2.2.D_,x.2.2.2.2.2.2.2.A_,x.2.2.2.2.2.2.2.B_,x.2.2.2.2.2.2.2.C_] q1.1) fun y3=>.ite (y2==0) (.ite (y3 != (0:Int)) (.leaf (.ret (q1.2.1,q1.2.2.1,q1.2.2.2.1,q1.2.2.2.2.1,q1.2.2.2.2.2.1,q1.2.2.2.2.2.2.1,q1.2.2.2.2.2.2.2.1))) (.leaf (.go ((IntKind.i64.wrap (q1.1+(1:Int))),q1.2.1,q1.2.2.1,q1.2.2.2.1,q1.2.2.2.2.1,q1.2.2.2.2.2.1,q1.2.2.2.2.2.2.1,q1.2.2.2.2.2.2.2.1,q1.2.2.2.2.2.2.2.2.1,q1.2.2.2.2.2.2.2.2.2.1,q1.2.2.2.2.2.2.2.2.2.2.1,q1.2.2.2.2.2.2.2.2.2.2.2)))) (.call (k53 n) (q1.2.1,q1.2.2.1,q1.2.2.2.1,q1.2.2.2.2.1,q1.2.2.2.2.2.1,q1.2.2.2.2.2.2.1,q1.2.2.2.2.2.2.2.1,y3) fun (y4:Ybk)=>.join (S:=Ybk) (zt8 x v1 q1) (.ite (!y4.1) (.leaf (.inl (true,y4.2.1,y4.2.2.1,y4.2.2.2.1,y4.2.2.2.2.1,y4.2.2.2.2.2.1,y4.2.2.2.2.2.2.1,y4.2.2.2.2.2.2.2.1,y4.2.2.2.2.2.2.2.2.1,y4.2.2.2.2.2.2.2.2.2))) (.call (k54 n) ((⟨y4.2.2.2.2.2.2.2.2.1,y4.2.2.2.2.2.2.2.2.2⟩:Xb),y2,(⟨q1.2.2.2.2.2.2.2.2.1,q1.2.2.2.2.2.2.2.2.2.1⟩:Xb)) fun (y5:Bool)=>.leaf (.inl ((!y5),y4.2.1,y4.2.2.1,y4.2.2.2.1,y4.2.2.2.2.1,y4.2.2.2.2.2.1,y4.2.2.2.2.2.2.1,y4.2.2.2.2.2.2.2.1,y4.2.2.2.2.2.2.2.2.1,y4.2.2.2.2.2.2.2.2.2)))) fun s1=>.ite s1.1 (.leaf (.ret (s1.2.1,s1.2.2.1,s1.2.2.2.1,s1.2.2.2.2.1,s1.2.2.2.2.2.1,s1.2.2.2.2.2.2.1,s1.2.2.2.2.2.2.2.1))) (.ite (q1.1==0) (.leaf (.go ((IntKind.i64.wrap (q1.1+(1:Int))),s1.2.1,s1.2.2.1,s1.2.2.2.1,s1.2.2.2.2.1,s1.2.2.2.2.2.1,s1.2.2.2.2.2.2.1,s1.2.2.2.2.2.2.2.1,s1.2.2.2.2.2.2.2.2.1,s1.2.2.2.2.2.2.2.2.2,s1.2.2.2.2.2.2.2.2.1,s1.2.2.2.2.2.2.2.2.2))) (.ite (q1.1==1) (.ite (v1.1==0) (.leaf (.go ((IntKind.i64.wrap (q1.1+(1:Int))),s1.2.1,s1.2.2.1,s1.2.2.2.1,s1.2.2.2.2.1,s1.2.2.2.2.2.1,s1.2.2.2.2.2.2.1,s1.2.2.2.2.2.2.2.1,q1.2.2.2.2.2.2.2.2.1,q1.2.2.2.2.2.2.2.2.2.1,s1.2.2.2.2.2.2.2.2.1,s1.2.2.2.2.2.2.2.2.2))) (.leaf (.go ((IntKind.i64.wrap (q1.1+(1:Int))),s1.2.1,s1.2.2.1,s1.2.2.2.1,s1.2.2.2.2.1,s1.2.2.2.2.2.1,s1.2.2.2.2.2.2.1,s1.2.2.2.2.2.2.2.1,q1.2.2.2.2.2.2.2.2.1,q1.2.2.2.2.2.2.2.2.2.1,q1.2.2.2.2.2.2.2.2.2.2.1,q1.2.2.2.2.2.2.2.2.2.2.2)))) (.leaf (.go ((IntKind.i64.wrap (q1.1+(1:Int))),s1.2.1,s1.2.2.1,s1.2.2.2.1,s1.2.2.2.2.1,s1.2.2.2.2.2.1,s1.2.2.2.2.2.2.1,s1.2.2.2.2.2.2.2.1,q1.2.2.2.2.2.2.2.2.1,q1.2.2.2.2.2.2.2.2.2.1,q1.2.2.2.2.2.2.2.2.2.2.1,q1.2.2.2.2.2.2.2.2.2.2.2))))))) (.leaf (.out (q1.1,q1.2.1,q1.2.2.1,q1.2.2.2.1,q1.2.2.2.2.1,q1.2.2.2.2.2.1,q1.2.2.2.2.2.2.1,q1.2.2.2.2.2.2.2.1,q1.2.2.2.2.2.2.2.2.1,q1.2.2.2.2.2.2.2.2.2.1,q1.2.2.2.2.2.2.2.2.2.2.1,q1.2.2.2.2.2.2.2.2.2.2.2)))
noncomputable def zt7 (n:Nat) (x:Yad) (v1:Ybd):LCon P_ Ty_ [200000]:=lcon (X:=Yav) (Y:=Yav) (Z:=Yby) (zy5 n) (subC [1,1,1,1,0,1,0,0] (fnC P_ 29 zy6)) (fun q1=>.two .no (.two .no (.two (.two (.two .no (.two .no (.two .no (.two .no (.two (.join (Ybk) (zt8 x v1 q1) ⟨[(0,.ref 200000),(3,.ref 3),(5,.ref 5),(7,.ref 7),(8,.ref 8),(9,.any),(12,.ref 12),(30,.any),(31,.any),(64,.any)],[(200000,.any),(3,.any),(5,.any),(7,.any),(8,.any),(12,.any)]⟩ .no .no) .no))))) .no) .no))) 0 true ⟨[(0,.ref 200000),(3,.ref 3),(5,.ref 5),(7,.ref 7),(8,.ref 8),(30,.any),(31,.any)],[(200000,.any),(3,.any),(5,.any),(7,.any),(8,.any)]⟩ ⟨[(0,.ref 200000),(3,.ref 3),(5,.ref 5),(7,.ref 7),(8,.ref 8),(30,.any),(31,.any),(32,.any)],[(200000,.any),(3,.any),(5,.any),(7,.any),(8,.any)]⟩ ⟨[(4,.any)],[(200000,.any)]⟩ (fun q1=>([(0,.pt 200000 [] 0 0),(3,.pt 3 [] 0 0),(5,.pt 5 [] 0 0),(7,.pt 7 [] 0 0),(8,.pt 8 [] 0 0),(30,.ag [I_ v1.1,I_ v1.2.1,I_ v1.2.2.1,I_ v1.2.2.2.1]),(31,I_ q1.1)],[(200000,.lit 7 [[.im 1 q1.2.1,.im 2 q1.2.2.1,.im 3 q1.2.2.2.1,.im 4 q1.2.2.2.2.1,.ow false 8 q1.2.2.2.2.2.1,.ow true 10 q1.2.2.2.2.2.2.1,.ow false 9 q1.2.2.2.2.2.2.2.1]]),(3,.lit 7 [[I_ x.2.2.2.2.2.2.2.Op_,I_ x.2.2.2.2.2.2.2.D_,I_ x.2.2.2.2.2.2.2.A_,I_ x.2.2.2.2.2.2.2.B_,I_ x.2.2.2.2.2.2.2.C_,I_ x.2.2.2.2.2.2.2.N_,.sc (.int .u32 x.2.2.2.2.2.2.2.Bits_)]]),(5,.lit 5 [[I_ v1.1,I_ v1.2.1,I_ v1.2.2.1,I_ v1.2.2.2.1,I_ v1.2.2.2.2]]),(7,.lit 2 [[I_ q1.2.2.2.2.2.2.2.2.1,I_ q1.2.2.2.2.2.2.2.2.2.1]]),(8,.lit 2 [[I_ q1.2.2.2.2.2.2.2.2.2.2.1,I_ q1.2.2.2.2.2.2.2.2.2.2.2]])])) (fun p=>([(0,.pt 200000 [] 0 0),(3,.pt 3 [] 0 0),(5,.pt 5 [] 0 0),(7,.pt 7 [] 0 0),(8,.pt 8 [] 0 0),(30,.ag [I_ v1.1,I_ v1.2.1,I_ v1.2.2.1,I_ v1.2.2.2.1]),(31,I_ p.1),(32,B_ false)],[(200000,.lit 7 [[.im 1 p.2.1,.im 2 p.2.2.1,.im 3 p.2.2.2.1,.im 4 p.2.2.2.2.1,.ow false 8 p.2.2.2.2.2.1,.ow true 10 p.2.2.2.2.2.2.1,.ow false 9 p.2.2.2.2.2.2.2.1]]),(3,.lit 7 [[I_ x.2.2.2.2.2.2.2.Op_,I_ x.2.2.2.2.2.2.2.D_,I_ x.2.2.2.2.2.2.2.A_,I_ x.2.2.2.2.2.2.2.B_,I_ x.2.2.2.2.2.2.2.C_,I_ x.2.2.2.2.2.2.2.N_,.sc (.int .u32 x.2.2.2.2.2.2.2.Bits_)]]),(5,.lit 5 [[I_ v1.1,I_ v1.2.1,I_ v1.2.2.1,I_ v1.2.2.2.1,I_ v1.2.2.2.2]]),(7,.lit 2 [[I_ p.2.2.2.2.2.2.2.2.1,I_ p.2.2.2.2.2.2.2.2.2.1]]),(8,.lit 2 [[I_ p.2.2.2.2.2.2.2.2.2.2.1,I_ p.2.2.2.2.2.2.2.2.2.2.2]])])) (fun p=>([(4,B_ false)],[(200000,.lit 7 [[.im 1 p.1,.im 2 p.2.1,.im 3 p.2.2.1,.im 4 p.2.2.2.1,.ow false 8 p.2.2.2.2.1,.ow true 10 p.2.2.2.2.2.1,.ow false 9 p.2.2.2.2.2.2]])])) n (zta n x v1)
noncomputable def zy7 (n:Nat) (x:Yad):Pt P_ Ty_ [200000] (Yao):=.call (k26 n) x.2.2.2.2.2.2.2.Op_ fun (y1:Ybn)=>.ite (!y1.1) (.leaf (false,x.1,x.2.1,x.2.2.1,x.2.2.2.1,x.2.2.2.2.1,x.2.2.2.2.2.1,x.2.2.2.2.2.2.1)) (.loopR (V:=Ybd) (zt7 n x) (y1.2.1,y1.2.2.1,y1.2.2.2.1,y1.2.2.2.2.1,y1.2.2.2.2.2) ((0:Int),x.1,x.2.1,x.2.2.1,x.2.2.2.1,x.2.2.2.2.1,x.2.2.2.2.2.1,x.2.2.2.2.2.2.1,(0:Int),(0:Int),(0:Int),(0:Int)) (fun (v1:Ybd) (y6:Yav)=>.join (S:=Ych) (zt9 x) (.ite (x.2.2.2.2.2.2.2.Op_==1) (.call (k52 n) x.2.2.2.2.2.2.2.Bits_ fun (y7:Bool)=>.ite (!y7) (.leaf (.inl (true,y6.2.1,y6.2.2.1,y6.2.2.2.1,y6.2.2.2.2.1,y6.2.2.2.2.2.1,y6.2.2.2.2.2.2.1,y6.2.2.2.2.2.2.2.1,v1.1,v1.2.1,v1.2.2.1,v1.2.2.2.1,v1.2.2.2.2,y6.2.2.2.2.2.2.2.2.2.2.1,y6.2.2.2.2.2.2.2.2.2.2.2))) (.ite (x.2.2.2.2.2.2.2.Op_ != (1:Int)) (.leaf (.inl ((x.2.2.2.2.2.2.2.Bits_ != (0:Int)),y6.2.1,y6.2.2.1,y6.2.2.2.1,y6.2.2.2.2.1,y6.2.2.2.2.2.1,y6.2.2.2.2.2.2.1,y6.2.2.2.2.2.2.2.1,v1.1,v1.2.1,v1.2.2.1,v1.2.2.2.1,v1.2.2.2.2,y6.2.2.2.2.2.2.2.2.2.2.1,y6.2.2.2.2.2.2.2.2.2.2.2))) (.leaf (.inl (false,y6.2.1,y6.2.2.1,y6.2.2.2.1,y6.2.2.2.2.1,y6.2.2.2.2.2.1,y6.2.2.2.2.2.2.1,y6.2.2.2.2.2.2.2.1,v1.1,v1.2.1,v1.2.2.1,v1.2.2.2.1,v1.2.2.2.2,y6.2.2.2.2.2.2.2.2.2.2.1,y6.2.2.2.2.2.2.2.2.2.2.2))))) (.ite (x.2.2.2.2.2.2.2.Op_ != (1:Int)) (.leaf (.inl ((x.2.2.2.2.2.2.2.Bits_ != (0:Int)),y6.2.1,y6.2.2.1,y6.2.2.2.1,y6.2.2.2.2.1,y6.2.2.2.2.2.1,y6.2.2.2.2.2.2.1,y6.2.2.2.2.2.2.2.1,v1.1,v1.2.1,v1.2.2.1,v1.2.2.2.1,v1.2.2.2.2,y6.2.2.2.2.2.2.2.2.2.2.1,y6.2.2.2.2.2.2.2.2.2.2.2))) (.leaf (.inl (false,y6.2.1,y6.2.2.1,y6.2.2.2.1,y6.2.2.2.2.1,y6.2.2.2.2.2.1,y6.2.2.2.2.2.2.1,y6.2.2.2.2.2.2.2.1,v1.1,v1.2.1,v1.2.2.1,v1.2.2.2.1,v1.2.2.2.2,y6.2.2.2.2.2.2.2.2.2.2.1,y6.2.2.2.2.2.2.2.2.2.2.2))))) fun s2=>.ite s2.1 (.leaf (false,s2.2.1,s2.2.2.1,s2.2.2.2.1,s2.2.2.2.2.1,s2.2.2.2.2.2.1,s2.2.2.2.2.2.2.1,s2.2.2.2.2.2.2.2.1)) (.ite (s2.2.2.2.2.2.2.2.2.2.2.2.2.1==1) (.ite (decide (x.2.2.2.2.2.2.2.N_≥(0:Int))) (.leaf ((decide (x.2.2.2.2.2.2.2.N_≤(2147483647:Int))),s2.2.1,s2.2.2.1,s2.2.2.2.1,s2.2.2.2.2.1,s2.2.2.2.2.2.1,s2.2.2.2.2.2.2.1,s2.2.2.2.2.2.2.2.1)) (.leaf (false,s2.2.1,s2.2.2.1,s2.2.2.2.1,s2.2.2.2.2.1,s2.2.2.2.2.2.1,s2.2.2.2.2.2.2.1,s2.2.2.2.2.2.2.2.1))) (.ite (s2.2.2.2.2.2.2.2.2.2.2.2.2.1==2) (.ite (x.2.2.2.2.2.2.2.N_==0) (.leaf (true,s2.2.1,s2.2.2.1,s2.2.2.2.1,s2.2.2.2.2.1,s2.2.2.2.2.2.1,s2.2.2.2.2.2.2.1,s2.2.2.2.2.2.2.2.1)) (.ite (x.2.2.2.2.2.2.2.N_==1) (.bnd (idx s2.2.1 s2.2.2.2.2.2.2.2.2.2.2.2.2.2.2) fun y8=>.leaf ((y8.Kind_==2),s2.2.1,s2.2.2.1,s2.2.2.2.1,s2.2.2.2.2.1,s2.2.2.2.2.2.1,s2.2.2.2.2.2.2.1,s2.2.2.2.2.2.2.2.1)) (.leaf (false,s2.2.1,s2.2.2.1,s2.2.2.2.1,s2.2.2.2.2.1,s2.2.2.2.2.2.1,s2.2.2.2.2.2.2.1,s2.2.2.2.2.2.2.2.1)))) (.ite (s2.2.2.2.2.2.2.2.2.2.2.2.2.1==3) (.ite (decide (x.2.2.2.2.2.2.2.N_≥(0:Int))) (.ite (decide (x.2.2.2.2.2.2.2.N_<(s2.2.2.2.1.length:Int))) (.bnd (idx s2.2.2.2.1 x.2.2.2.2.2.2.2.N_) fun y9=>.leaf ((y9.Type_.Kind_==s2.2.2.2.2.2.2.2.2.2.2.2.2.2.1 && (y9.Type_.Param_==s2.2.2.2.2.2.2.2.2.2.2.2.2.2.2 && true)),s2.2.1,s2.2.2.1,s2.2.2.2.1,s2.2.2.2.2.1,s2.2.2.2.2.2.1,s2.2.2.2.2.2.2.1,s2.2.2.2.2.2.2.2.1)) (.leaf (false,s2.2.1,s2.2.2.1,s2.2.2.2.1,s2.2.2.2.2.1,s2.2.2.2.2.2.1,s2.2.2.2.2.2.2.1,s2.2.2.2.2.2.2.2.1))) (.leaf (false,s2.2.1,s2.2.2.1,s2.2.2.2.1,s2.2.2.2.2.1,s2.2.2.2.2.2.1,s2.2.2.2.2.2.2.1,s2.2.2.2.2.2.2.2.1))) (.ite (s2.2.2.2.2.2.2.2.2.2.2.2.2.1==4) (.ite (decide (x.2.2.2.2.2.2.2.N_≥(0:Int))) (.leaf ((decide (x.2.2.2.2.2.2.2.N_<(s2.2.1.length:Int))),s2.2.1,s2.2.2.1,s2.2.2.2.1,s2.2.2.2.2.1,s2.2.2.2.2.2.1,s2.2.2.2.2.2.2.1,s2.2.2.2.2.2.2.2.1)) (.leaf (false,s2.2.1,s2.2.2.1,s2.2.2.2.1,s2.2.2.2.2.1,s2.2.2.2.2.2.1,s2.2.2.2.2.2.2.1,s2.2.2.2.2.2.2.2.1))) (.leaf ((x.2.2.2.2.2.2.2.N_==0),s2.2.1,s2.2.2.1,s2.2.2.2.1,s2.2.2.2.2.1,s2.2.2.2.2.2.1,s2.2.2.2.2.2.2.1,s2.2.2.2.2.2.2.2.1))))))) fun (v1:Ybd) (z1:Yby)=>.leaf (false,z1.1,z1.2.1,z1.2.2.1,z1.2.2.2.1,z1.2.2.2.2.1,z1.2.2.2.2.2.1,z1.2.2.2.2.2.2))
noncomputable def k35 (n:Nat):Con P_ Ty_:=ze (X:=Yad) (R:=Yao) (pro:=[200000]) (zy5 n) 29 zy6 (fun x=>.two .no (.two .no (.two .no (.two .no (.two (.two .no (.two (.loop (Ybd) (zt7 n x) true ⟨[(0,.ref 200000),(3,.ref 3),(5,.ref 5),(7,.ref 7),(8,.ref 8),(30,.any),(31,.any)],[(200000,.any),(3,.any),(5,.any),(7,.any),(8,.any)]⟩) .no)) (.two (.join (Ych) (zt9 x) ⟨[(0,.ref 200000),(3,.ref 3),(5,.ref 5),(8,.ref 8),(95,.any)],[(200000,.any),(3,.any),(5,.any),(8,.any)]⟩ .no .no) .no)))))) [.pt 200000,.ag [.any,.any,.any,.any,.any,.any,.any]] [(200000,[.im 1,.im 2,.im 3,.im 4,.ow false 8,.ow true 10,.ow false 9])] [] ⟨[(4,.any)],[(200000,.any)]⟩ [200000] false (fun x=>[.pt 200000 [] 0 0,.ag [I_ x.2.2.2.2.2.2.2.Op_,I_ x.2.2.2.2.2.2.2.D_,I_ x.2.2.2.2.2.2.2.A_,I_ x.2.2.2.2.2.2.2.B_,I_ x.2.2.2.2.2.2.2.C_,I_ x.2.2.2.2.2.2.2.N_,.sc (.int .u32 x.2.2.2.2.2.2.2.Bits_)]]) (fun x=>[(200000,.lit 7 [[.im 1 x.1,.im 2 x.2.1,.im 3 x.2.2.1,.im 4 x.2.2.2.1,.ow false 8 x.2.2.2.2.1,.ow true 10 x.2.2.2.2.2.1,.ow false 9 x.2.2.2.2.2.2.1]])]) (fun y=>([(4,B_ y.1)],[(200000,.lit 7 [[.im 1 y.2.1,.im 2 y.2.2.1,.im 3 y.2.2.2.1,.im 4 y.2.2.2.2.1,.ow false 8 y.2.2.2.2.2.1,.ow true 10 y.2.2.2.2.2.2.1,.ow false 9 y.2.2.2.2.2.2.2]])])) (fun y=>B_ y.1) (fun y=>[(200000,.lit 7 [[.im 1 y.2.1,.im 2 y.2.2.1,.im 3 y.2.2.2.1,.im 4 y.2.2.2.2.1,.ow false 8 y.2.2.2.2.2.1,.ow true 10 y.2.2.2.2.2.2.1,.ow false 9 y.2.2.2.2.2.2.2]])]) (zy7 n)
noncomputable def y7s (n:Nat):Cx P_ Ty_:=⟨[],[],[],[]⟩
abbrev y7t:List (List Nat):=[[0],[2]]
noncomputable def zxr (n:Nat) (x:Int):Pt P_ Ty_ [] Bool:=.ite (decide (x≥(3:Int))) (.leaf (decide (x≤(15:Int)))) (.leaf false)
noncomputable def k13 (n:Nat):Con P_ Ty_:=ze (X:=Int) (R:=Bool) (pro:=[]) (y7s n) 33 y7t (fun x=>.no) [.any] [] [] ⟨[(2,.any)],[]⟩ [] true (fun x=>[I_ x]) (fun x=>[]) (fun y=>([(2,B_ y)],[])) (fun y=>B_ y) (fun y=>[]) (zxr n)
noncomputable def zy8 (n:Nat):Cx P_ Ty_:=⟨[k13 n],[(53,false,9)],[],[]⟩
abbrev zy9:List (List Nat):=[[0,3],[0,3,5],[0,3,5,15],[0,3,5],[0,3,5,29],[0,3,5,29,30],[0,3,5,29,30],[0,3,42],[4],[0,3,45],[],[4],[0,3,5,29,57],[0,68],[4],[0,6],[0,6,81,82,83],[0,6,81,82,83,84],[0,6,8,81,82,83],[0,6,81,82,83],[0,6,81,82,83],[0],[],[4],[0,3,5,117],[0,120],[4],[],[4],[0,3,5,136],[4],[0,3,9],[0,3,9,139],[0,3,9,139],[0,3,9,139],[0,3,9,139],[4],[0,3,9,163],[0,3,9,163],[4],[4]]
noncomputable def ztc (x:Yad) (p:Int):EH Ty_:=([(0,.pt 200000 [] 0 0),(3,.pt 3 [] 0 0),(5,I_ p)],[(200000,.lit 7 [[.im 1 x.1,.im 2 x.2.1,.im 3 x.2.2.1,.im 4 x.2.2.2.1,.ow false 8 x.2.2.2.2.1,.ow true 10 x.2.2.2.2.2.1,.ow false 9 x.2.2.2.2.2.2.1]]),(3,.lit 7 [[I_ x.2.2.2.2.2.2.2.Op_,I_ x.2.2.2.2.2.2.2.D_,I_ x.2.2.2.2.2.2.2.A_,I_ x.2.2.2.2.2.2.2.B_,I_ x.2.2.2.2.2.2.2.C_,I_ x.2.2.2.2.2.2.2.N_,.sc (.int .u32 x.2.2.2.2.2.2.2.Bits_)]])])
noncomputable def ztd (x:Yad) (p:Yag):EH Ty_:=([(0,.pt 200000 [] 0 0),(3,.pt 3 [] 0 0),(5,I_ p.1),(29,I_ x.2.2.2.2.2.2.2.Op_),(30,B_ p.2)],[(200000,.lit 7 [[.im 1 x.1,.im 2 x.2.1,.im 3 x.2.2.1,.im 4 x.2.2.2.1,.ow false 8 x.2.2.2.2.1,.ow true 10 x.2.2.2.2.2.1,.ow false 9 x.2.2.2.2.2.2.1]]),(3,.lit 7 [[I_ x.2.2.2.2.2.2.2.Op_,I_ x.2.2.2.2.2.2.2.D_,I_ x.2.2.2.2.2.2.2.A_,I_ x.2.2.2.2.2.2.2.B_,I_ x.2.2.2.2.2.2.2.C_,I_ x.2.2.2.2.2.2.2.N_,.sc (.int .u32 x.2.2.2.2.2.2.2.Bits_)]])])
noncomputable def zte (x:Yad) (p:Bool):EH Ty_:=([(0,.pt 200000 [] 0 0),(3,.pt 3 [] 0 0),(42,B_ p)],[(200000,.lit 7 [[.im 1 x.1,.im 2 x.2.1,.im 3 x.2.2.1,.im 4 x.2.2.2.1,.ow false 8 x.2.2.2.2.1,.ow true 10 x.2.2.2.2.2.1,.ow false 9 x.2.2.2.2.2.2.1]]),(3,.lit 7 [[I_ x.2.2.2.2.2.2.2.Op_,I_ x.2.2.2.2.2.2.2.D_,I_ x.2.2.2.2.2.2.2.A_,I_ x.2.2.2.2.2.2.2.B_,I_ x.2.2.2.2.2.2.2.C_,I_ x.2.2.2.2.2.2.2.N_,.sc (.int .u32 x.2.2.2.2.2.2.2.Bits_)]])])
noncomputable def ztf (x:Yad) (p:Bool):EH Ty_:=([(0,.pt 200000 [] 0 0),(68,B_ p)],[(200000,.lit 7 [[.im 1 x.1,.im 2 x.2.1,.im 3 x.2.2.1,.im 4 x.2.2.2.1,.ow false 8 x.2.2.2.2.1,.ow true 10 x.2.2.2.2.2.1,.ow false 9 x.2.2.2.2.2.2.1]])])
noncomputable def ztg (x:Yad) (p:Ybo):EH Ty_:=([(0,.pt 200000 [] 0 0),(3,.pt 3 [] 0 0),(9,.pt 9 [] 0 0),(139,B_ p.1)],[(200000,.lit 7 [[.im 1 x.1,.im 2 x.2.1,.im 3 x.2.2.1,.im 4 x.2.2.2.1,.ow false 8 x.2.2.2.2.1,.ow true 10 x.2.2.2.2.2.1,.ow false 9 x.2.2.2.2.2.2.1]]),(3,.lit 7 [[I_ x.2.2.2.2.2.2.2.Op_,I_ x.2.2.2.2.2.2.2.D_,I_ x.2.2.2.2.2.2.2.A_,I_ x.2.2.2.2.2.2.2.B_,I_ x.2.2.2.2.2.2.2.C_,I_ x.2.2.2.2.2.2.2.N_,.sc (.int .u32 x.2.2.2.2.2.2.2.Bits_)]]),(9,.lit 2 [[I_ (3:Int),I_ p.2]])])
noncomputable def zth (x:Yad) (p:Ybo):EH Ty_:=([(0,.pt 200000 [] 0 0),(3,.pt 3 [] 0 0),(9,.pt 9 [] 0 0),(163,B_ p.1)],[(200000,.lit 7 [[.im 1 x.1,.im 2 x.2.1,.im 3 x.2.2.1,.im 4 x.2.2.2.1,.ow false 8 x.2.2.2.2.1,.ow true 10 x.2.2.2.2.2.1,.ow false 9 x.2.2.2.2.2.2.1]]),(3,.lit 7 [[I_ x.2.2.2.2.2.2.2.Op_,I_ x.2.2.2.2.2.2.2.D_,I_ x.2.2.2.2.2.2.2.A_,I_ x.2.2.2.2.2.2.2.B_,I_ x.2.2.2.2.2.2.2.C_,I_ x.2.2.2.2.2.2.2.N_,.sc (.int .u32 x.2.2.2.2.2.2.2.Bits_)]]),(9,.lit 2 [[I_ (3:Int),I_ p.2]])])
noncomputable def zti (n:Nat) (x:Yad) (v1:Int) (q1:Yai):Pt P_ Ty_ [200000] (Bo (Yai) (Yai) Empty):=.ite (decide (q1.1<v1)) (.bnd (x.2.2.2.2.2.1[(IntKind.i64.wrap ((x.2.2.2.2.2.1.length:Int) - (1:Int))).toNat]?) fun y4=>.need (0≤q1.1∧q1.1<(y4.length:Int)) (.bnd (x.2.2.2.2.2.1[(IntKind.i64.wrap ((x.2.2.2.2.2.1.length:Int) - (1:Int))).toNat]?) fun y5=>.bnd (y5[q1.1.toNat]?) fun y6=>.need (0≤y6∧y6<(q1.2.length:Int)) (.bnd (q1.2[y6.toNat]?) fun y7=>.leaf (.go ((IntKind.i64.wrap (q1.1+(1:Int))),(q1.2.set y6.toNat false)))))) (.leaf (.out (q1.1,q1.2)))
noncomputable def ztb (n:Nat) (x:Yad) (v1:Int):LCon P_ Ty_ [200000]:=lcon (X:=Yai) (Y:=Yai) (Z:=Empty) (zy8 n) (subC [1,1,1,0,1,0,1,1,1,0,1,1,0,1,0,0] (fnC P_ 30 zy9)) (fun q1=>.no) 1 false ⟨[(0,.ref 200000),(6,.any),(81,.ref 200000),(82,.any),(83,.any)],[(200000,.any)]⟩ ⟨[(0,.ref 200000),(6,.any),(81,.ref 200000),(82,.any),(83,.any),(84,.any)],[(200000,.any)]⟩ ⟨[],[]⟩ (fun q1=>([(0,.pt 200000 [] 0 0),(6,I_ (IntKind.i64.wrap ((x.2.2.2.2.2.1.length:Int) - (1:Int)))),(81,.sw 200000 [(0,5),((IntKind.i64.wrap ((x.2.2.2.2.2.1.length:Int) - (1:Int))).toNat,0)]),(82,I_ v1),(83,I_ q1.1)],[(200000,.lit 7 [[.im 1 x.1,.im 2 x.2.1,.im 3 x.2.2.1,.im 4 x.2.2.2.1,.ow false 8 q1.2,.ow true 10 x.2.2.2.2.2.1,.ow false 9 x.2.2.2.2.2.2.1]])])) (fun p=>([(0,.pt 200000 [] 0 0),(6,I_ (IntKind.i64.wrap ((x.2.2.2.2.2.1.length:Int) - (1:Int)))),(81,.sw 200000 [(0,5),((IntKind.i64.wrap ((x.2.2.2.2.2.1.length:Int) - (1:Int))).toNat,0)]),(82,I_ v1),(83,I_ p.1),(84,B_ false)],[(200000,.lit 7 [[.im 1 x.1,.im 2 x.2.1,.im 3 x.2.2.1,.im 4 x.2.2.2.1,.ow false 8 p.2,.ow true 10 x.2.2.2.2.2.1,.ow false 9 x.2.2.2.2.2.2.1]])])) (fun p=>nomatch p) n (zti n x v1)
noncomputable def zya (n:Nat) (x:Yad):Pt P_ Ty_ [200000] (Yao):=.join (S:=Int) (ztc x) (.ite (decide ((x.2.2.2.2.2.2.1.length:Int) > (0:Int))) (.need (0≤(IntKind.i64.wrap ((x.2.2.2.2.2.2.1.length:Int) - (1:Int)))∧(IntKind.i64.wrap ((x.2.2.2.2.2.2.1.length:Int) - (1:Int)))<(x.2.2.2.2.2.2.1.length:Int)) (.bnd (x.2.2.2.2.2.2.1[(IntKind.i64.wrap ((x.2.2.2.2.2.2.1.length:Int) - (1:Int))).toNat]?) fun y1=>.leaf (.inl y1))) (.leaf (.inl (-1:Int)))) fun s1=>.join (S:=Yag) (ztd x) (.ite (x.2.2.2.2.2.2.2.Op_==34) (.leaf (.inl (s1,true))) (.leaf (.inl (s1,(x.2.2.2.2.2.2.2.Op_==36))))) fun s2=>.ite s2.2 (.join (S:=Bool) (zte x) (.ite (decide (s2.1≥(0:Int))) (.leaf (.inl true)) (.leaf (.inl ((x.2.2.2.2.2.2.1.length:Int)==64)))) fun s3=>.ite s3 (.leaf (false,x.1,x.2.1,x.2.2.1,x.2.2.2.1,x.2.2.2.2.1,x.2.2.2.2.2.1,x.2.2.2.2.2.2.1)) (.ite (x.2.2.2.2.2.2.2.Op_==36) (.need ((x.2.2.2.2.2.2.1.length+([x.2.2.2.2.2.2.2.N_]:List Int).length) * 8≤140737488355328) (.leaf (true,x.1,x.2.1,x.2.2.1,x.2.2.2.1,x.2.2.2.2.1,x.2.2.2.2.2.1,(x.2.2.2.2.2.2.1++([x.2.2.2.2.2.2.2.N_]:List Int))))) (.leaf (true,x.1,x.2.1,x.2.2.1,x.2.2.2.1,x.2.2.2.2.1,x.2.2.2.2.2.1,x.2.2.2.2.2.2.1)))) (.ite (x.2.2.2.2.2.2.2.Op_==35) (.join (S:=Bool) (ztf x) (.ite ((x.2.2.2.2.2.2.1.length:Int)==0) (.leaf (.inl true)) (.leaf (.inl (decide (s2.1≥(0:Int)))))) fun s4=>.ite s4 (.leaf (false,x.1,x.2.1,x.2.2.1,x.2.2.2.1,x.2.2.2.2.1,x.2.2.2.2.2.1,x.2.2.2.2.2.2.1)) (.need (0≤(IntKind.i64.wrap ((x.2.2.2.2.2.1.length:Int) - (1:Int)))∧(IntKind.i64.wrap ((x.2.2.2.2.2.1.length:Int) - (1:Int)))<(x.2.2.2.2.2.1.length:Int)) (.bnd (x.2.2.2.2.2.1[(IntKind.i64.wrap ((x.2.2.2.2.2.1.length:Int) - (1:Int))).toNat]?) fun y2=>.bnd (x.2.2.2.2.2.1[(IntKind.i64.wrap ((x.2.2.2.2.2.1.length:Int) - (1:Int))).toNat]?) fun y3=>.loop (V:=Int) (ztb n x) (y3.length:Int) ((0:Int),x.2.2.2.2.1) fun (v1:Int) (y8:Yai)=>.need (0≤(IntKind.i64.wrap ((x.2.2.2.2.2.1.length:Int) - (1:Int)))∧(IntKind.i64.wrap ((x.2.2.2.2.2.1.length:Int) - (1:Int)))≤(x.2.2.2.2.2.1.length:Int)) (.need ((IntKind.i64.wrap ((x.2.2.2.2.2.1.length:Int) - (1:Int))).toNat≤x.2.2.2.2.2.1.length) (.need (0≤(IntKind.i64.wrap ((x.2.2.2.2.2.2.1.length:Int) - (1:Int)))∧(IntKind.i64.wrap ((x.2.2.2.2.2.2.1.length:Int) - (1:Int)))≤(x.2.2.2.2.2.2.1.length:Int)) (.need ((IntKind.i64.wrap ((x.2.2.2.2.2.2.1.length:Int) - (1:Int))).toNat≤x.2.2.2.2.2.2.1.length) (.leaf (true,x.1,x.2.1,x.2.2.1,x.2.2.2.1,y8.2,(x.2.2.2.2.2.1.take ((IntKind.i64.wrap ((x.2.2.2.2.2.1.length:Int) - (1:Int))).toNat)),(x.2.2.2.2.2.2.1.take ((IntKind.i64.wrap ((x.2.2.2.2.2.2.1.length:Int) - (1:Int))).toNat)))))))))) (.ite (x.2.2.2.2.2.2.2.Op_==37) (.ite (decide (s2.1<(0:Int))) (.leaf (false,x.1,x.2.1,x.2.2.1,x.2.2.2.1,x.2.2.2.2.1,x.2.2.2.2.2.1,x.2.2.2.2.2.2.1)) (.need (0≤(IntKind.i64.wrap ((x.2.2.2.2.2.2.1.length:Int) - (1:Int)))∧(IntKind.i64.wrap ((x.2.2.2.2.2.2.1.length:Int) - (1:Int)))≤(x.2.2.2.2.2.2.1.length:Int)) (.need ((IntKind.i64.wrap ((x.2.2.2.2.2.2.1.length:Int) - (1:Int))).toNat≤x.2.2.2.2.2.2.1.length) (.leaf (true,x.1,x.2.1,x.2.2.1,x.2.2.2.1,x.2.2.2.2.1,x.2.2.2.2.2.1,(x.2.2.2.2.2.2.1.take ((IntKind.i64.wrap ((x.2.2.2.2.2.2.1.length:Int) - (1:Int))).toNat))))))) (.ite (decide (s2.1<(0:Int))) (.leaf (true,x.1,x.2.1,x.2.2.1,x.2.2.2.1,x.2.2.2.2.1,x.2.2.2.2.2.1,x.2.2.2.2.2.2.1)) (.join (S:=Ybo) (ztg x) (.call (k13 n) x.2.2.2.2.2.2.2.Op_ fun (y9:Bool)=>.ite y9 (.leaf (.inl (true,s2.1))) (.ite (x.2.2.2.2.2.2.2.Op_==29) (.leaf (.inl (true,s2.1))) (.ite (x.2.2.2.2.2.2.2.Op_==30) (.leaf (.inl (true,s2.1))) (.leaf (.inl ((x.2.2.2.2.2.2.2.Op_==32),s2.1)))))) fun s5=>.ite s5.1 (.bnd (idx x.2.1 x.2.2.2.2.2.2.2.D_) fun y10=>.leaf ((y10.Kind_==(3:Int) && (y10.Param_==s5.2 && true)),x.1,x.2.1,x.2.2.1,x.2.2.2.1,x.2.2.2.2.1,x.2.2.2.2.2.1,x.2.2.2.2.2.2.1)) (.join (S:=Ybo) (zth x) (.ite (x.2.2.2.2.2.2.2.Op_==31) (.leaf (.inl (true,s5.2))) (.leaf (.inl ((x.2.2.2.2.2.2.2.Op_==33),s5.2)))) fun s6=>.ite s6.1 (.bnd (idx x.2.1 x.2.2.2.2.2.2.2.A_) fun y11=>.leaf ((y11.Kind_==(3:Int) && (y11.Param_==s6.2 && true)),x.1,x.2.1,x.2.2.1,x.2.2.2.1,x.2.2.2.2.1,x.2.2.2.2.2.1,x.2.2.2.2.2.2.1)) (.leaf (false,x.1,x.2.1,x.2.2.1,x.2.2.2.1,x.2.2.2.2.1,x.2.2.2.2.2.1,x.2.2.2.2.2.2.1)))))))
noncomputable def k36 (n:Nat):Con P_ Ty_:=ze (X:=Yad) (R:=Yao) (pro:=[200000]) (zy8 n) 30 zy9 (fun x=>.two .no (.two .no (.join Int (ztc x) ⟨[(0,.ref 200000),(3,.ref 3),(5,.any)],[(200000,.any),(3,.any)]⟩ .no (.two (.two .no (.two (.join (Yag) (ztd x) ⟨[(0,.ref 200000),(3,.ref 3),(5,.any),(29,.any),(30,.any)],[(200000,.any),(3,.any)]⟩ .no (.two (.two (.join Bool (zte x) ⟨[(0,.ref 200000),(3,.ref 3),(42,.any)],[(200000,.any),(3,.any)]⟩ .no .no) .no) (.two .no (.two (.two (.join Bool (ztf x) ⟨[(0,.ref 200000),(68,.any)],[(200000,.any)]⟩ .no .no) (.two .no (.two (.two .no (.two (.loop Int (ztb n x) false ⟨[(0,.ref 200000),(6,.any),(81,.ref 200000),(82,.any),(83,.any)],[(200000,.any)]⟩) .no)) .no))) .no)))) .no)) (.two .no (.two .no (.two (.two (.join (Ybo) (ztg x) ⟨[(0,.ref 200000),(3,.ref 3),(9,.ref 9),(139,.any)],[(200000,.any),(3,.any),(9,.any)]⟩ .no (.two .no (.join (Ybo) (zth x) ⟨[(0,.ref 200000),(3,.ref 3),(9,.ref 9),(163,.any)],[(200000,.any),(3,.any),(9,.any)]⟩ .no .no))) .no) .no))))))) [.pt 200000,.ag [.any,.any,.any,.any,.any,.any,.any]] [(200000,[.im 1,.im 2,.im 3,.im 4,.ow false 8,.ow true 10,.ow false 9])] [] ⟨[(4,.any)],[(200000,.any)]⟩ [200000] false (fun x=>[.pt 200000 [] 0 0,.ag [I_ x.2.2.2.2.2.2.2.Op_,I_ x.2.2.2.2.2.2.2.D_,I_ x.2.2.2.2.2.2.2.A_,I_ x.2.2.2.2.2.2.2.B_,I_ x.2.2.2.2.2.2.2.C_,I_ x.2.2.2.2.2.2.2.N_,.sc (.int .u32 x.2.2.2.2.2.2.2.Bits_)]]) (fun x=>[(200000,.lit 7 [[.im 1 x.1,.im 2 x.2.1,.im 3 x.2.2.1,.im 4 x.2.2.2.1,.ow false 8 x.2.2.2.2.1,.ow true 10 x.2.2.2.2.2.1,.ow false 9 x.2.2.2.2.2.2.1]])]) (fun y=>([(4,B_ y.1)],[(200000,.lit 7 [[.im 1 y.2.1,.im 2 y.2.2.1,.im 3 y.2.2.2.1,.im 4 y.2.2.2.2.1,.ow false 8 y.2.2.2.2.2.1,.ow true 10 y.2.2.2.2.2.2.1,.ow false 9 y.2.2.2.2.2.2.2]])])) (fun y=>B_ y.1) (fun y=>[(200000,.lit 7 [[.im 1 y.2.1,.im 2 y.2.2.1,.im 3 y.2.2.2.1,.im 4 y.2.2.2.2.1,.ow false 8 y.2.2.2.2.2.1,.ow true 10 y.2.2.2.2.2.2.1,.ow false 9 y.2.2.2.2.2.2.2]])]) (zya n)
noncomputable def g9_c (n:Nat):Cx P_ Ty_:=⟨[k26 n],[(37,false,9),(38,false,9)],[],[]⟩
abbrev g9_k:List (List Nat):=[[1],[1,3],[1,3,5],[1,5,20,21],[1,5,20,21,22],[1,5,6,7,20,21],[1,5,6,20,21,26],[1,5,20,21],[1,5,20,21],[2]]
noncomputable def zzl (n:Nat) (x:Xd) (v1:Yal) (q1:Yab):Pt P_ Ty_ [] (Bo (Yab) (Yab) Empty):=.ite (decide (q1.1<(3:Int))) (.bnd (idx [v1.1,v1.2.1,v1.2.2] q1.1) fun y2=>.ite (y2 != (0:Int)) (.bnd (idx [x.A_,x.B_,x.C_] q1.1) fun y3=>.need ((q1.2.length+([y3]:List Int).length) * 8≤140737488355328) (.leaf (.go ((IntKind.i64.wrap (q1.1+(1:Int))),(q1.2++([y3]:List Int)))))) (.leaf (.go ((IntKind.i64.wrap (q1.1+(1:Int))),q1.2)))) (.leaf (.out (q1.1,q1.2)))
noncomputable def zzk (n:Nat) (x:Xd) (v1:Yal):LCon P_ Ty_ []:=lcon (X:=Yab) (Y:=Yab) (Z:=Empty) (g9_c n) (subC [1,1,1,0,1,0,0] (fnC P_ 60 g9_k)) (fun q1=>.no) 0 false ⟨[(1,.ref 1),(5,.own 600001 false 9),(20,.any),(21,.any)],[(1,.any),(600001,.any)]⟩ ⟨[(1,.ref 1),(5,.ref 600001),(20,.any),(21,.any),(22,.any)],[(1,.any),(600001,.any)]⟩ ⟨[],[]⟩ (fun q1=>([(1,.pt 1 [] 0 0),(5,.sw 600001 []),(20,.ag [I_ v1.1,I_ v1.2.1,I_ v1.2.2]),(21,I_ q1.1)],[(1,.lit 7 [[I_ x.Op_,I_ x.D_,I_ x.A_,I_ x.B_,I_ x.C_,I_ x.N_,.sc (.int .u32 x.Bits_)]]),(600001,.typ false 9 q1.2)])) (fun p=>([(1,.pt 1 [] 0 0),(5,.sw 600001 []),(20,.ag [I_ v1.1,I_ v1.2.1,I_ v1.2.2]),(21,I_ p.1),(22,B_ false)],[(1,.lit 7 [[I_ x.Op_,I_ x.D_,I_ x.A_,I_ x.B_,I_ x.C_,I_ x.N_,.sc (.int .u32 x.Bits_)]]),(600001,.typ false 9 p.2)])) (fun p=>nomatch p) n (zzl n x v1)
noncomputable def g9_t (n:Nat) (x:Xd):Pt P_ Ty_ [] (List Int):=.call (k26 n) x.Op_ fun (y1:Ybn)=>.loop (V:=Yal) (zzk n x) (y1.2.2.1,y1.2.2.2.1,y1.2.2.2.2.1) ((0:Int),([]:List Int)) fun (v1:Yal) (y4:Yab)=>.leaf y4.2
noncomputable def k9 (n:Nat):Con P_ Ty_:=ze (X:=Xd) (R:=(List Int)) (pro:=[]) (g9_c n) 60 g9_k (fun x=>.two .no (.two .no (.two .no (.two (.two .no (.two (.loop (Yal) (zzk n x) false ⟨[(1,.ref 1),(5,.own 600001 false 9),(20,.any),(21,.any)],[(1,.any),(600001,.any)]⟩) .no)) .no)))) [.ag [.any,.any,.any,.any,.any,.any,.any]] [] [100000] ⟨[(2,.ref 100000)],[(100000,.any)]⟩ [100000] true (fun x=>[.ag [I_ x.Op_,I_ x.D_,I_ x.A_,I_ x.B_,I_ x.C_,I_ x.N_,.sc (.int .u32 x.Bits_)]]) (fun x=>[]) (fun y=>([(2,.sw 100000 [])],[(100000,.typ false 9 y)])) (fun y=>.sw 100000 []) (fun y=>[(100000,.typ false 9 y)]) (g9_t n)
noncomputable def y7o (n:Nat):Cx P_ Ty_:=⟨[k26 n],[],[],[]⟩
abbrev y7p:List (List Nat):=[[1],[3],[2]]
noncomputable def zxp (n:Nat) (x:Xd):Pt P_ Ty_ [] Bool:=.call (k26 n) x.Op_ fun (y1:Ybn)=>.leaf (y1.2.1 != (0:Int))
noncomputable def k11 (n:Nat):Con P_ Ty_:=ze (X:=Xd) (R:=Bool) (pro:=[]) (y7o n) 61 y7p (fun x=>.no) [.ag [.any,.any,.any,.any,.any,.any,.any]] [] [] ⟨[(2,.any)],[]⟩ [] true (fun x=>[.ag [I_ x.Op_,I_ x.D_,I_ x.A_,I_ x.B_,I_ x.C_,I_ x.N_,.sc (.int .u32 x.Bits_)]]) (fun x=>[]) (fun y=>([(2,B_ y)],[])) (fun y=>B_ y) (fun y=>[]) (zxp n)
noncomputable def zyb (n:Nat):Cx P_ Ty_:=⟨[k9 n,k11 n],[(32,false,9),(41,true,10),(87,false,9)],[],[]⟩
abbrev zyc:List (List Nat):=[[0,3],[0,3,9,10,11],[0,3,9,10,11,12],[0,3,6,9,10,11],[0,3,9,10,11,22],[4],[0,3,9,10,11],[0,3,26],[0,3],[0,3],[0,3,57],[0,3],[0,3,7],[0,3,7,72],[],[4]]
noncomputable def ztk (x:Yad) (p:Yci):EH Ty_:=([(0,.pt 200000 [] 0 0),(3,.pt 3 [] 0 0)],[(200000,.lit 7 [[.im 1 x.1,.im 2 x.2.1,.im 3 x.2.2.1,.im 4 x.2.2.2.1,.ow false 8 x.2.2.2.2.1,.ow true 10 p.1,.ow false 9 p.2]]),(3,.lit 7 [[I_ x.2.2.2.2.2.2.2.Op_,I_ x.2.2.2.2.2.2.2.D_,I_ x.2.2.2.2.2.2.2.A_,I_ x.2.2.2.2.2.2.2.B_,I_ x.2.2.2.2.2.2.2.C_,I_ x.2.2.2.2.2.2.2.N_,.sc (.int .u32 x.2.2.2.2.2.2.2.Bits_)]])])
noncomputable def ztl (x:Yad) (p:Ycj):EH Ty_:=([(0,.pt 200000 [] 0 0),(3,.pt 3 [] 0 0),(57,B_ p.1)],[(200000,.lit 7 [[.im 1 x.1,.im 2 x.2.1,.im 3 x.2.2.1,.im 4 x.2.2.2.1,.ow false 8 x.2.2.2.2.1,.ow true 10 p.2.1,.ow false 9 p.2.2]]),(3,.lit 7 [[I_ x.2.2.2.2.2.2.2.Op_,I_ x.2.2.2.2.2.2.2.D_,I_ x.2.2.2.2.2.2.2.A_,I_ x.2.2.2.2.2.2.2.B_,I_ x.2.2.2.2.2.2.2.C_,I_ x.2.2.2.2.2.2.2.N_,.sc (.int .u32 x.2.2.2.2.2.2.2.Bits_)]])])
noncomputable def ztm (n:Nat) (x:Yad) (v1:Yab) (q1:Int):Pt P_ Ty_ [200000] (Bo Int Int Unit):=.ite (decide (q1<v1.1)) (.need (0≤q1∧q1<(v1.2.length:Int)) (.bnd (v1.2[q1.toNat]?) fun y2=>.need (0≤y2∧y2<(x.2.2.2.2.1.length:Int)) (.bnd (x.2.2.2.2.1[y2.toNat]?) fun y3=>.ite (!y3) (.leaf (.ret ())) (.leaf (.go (IntKind.i64.wrap (q1+(1:Int)))))))) (.leaf (.out q1))
noncomputable def ztj (n:Nat) (x:Yad) (v1:Yab):LCon P_ Ty_ [200000]:=lcon (X:=Int) (Y:=Int) (Z:=Unit) (zyb n) (subC [1,0,1,0,0] (fnC P_ 31 zyc)) (fun q1=>.no) 0 true ⟨[(0,.ref 200000),(3,.ref 3),(9,.ref 9),(10,.any),(11,.any)],[(200000,.any),(3,.any),(9,.any)]⟩ ⟨[(0,.ref 200000),(3,.ref 3),(9,.ref 9),(10,.any),(11,.any),(12,.any)],[(200000,.any),(3,.any),(9,.any)]⟩ ⟨[(4,.any)],[(200000,.any)]⟩ (fun q1=>([(0,.pt 200000 [] 0 0),(3,.pt 3 [] 0 0),(9,.sw 9 []),(10,I_ v1.1),(11,I_ q1)],[(200000,.lit 7 [[.im 1 x.1,.im 2 x.2.1,.im 3 x.2.2.1,.im 4 x.2.2.2.1,.ow false 8 x.2.2.2.2.1,.ow true 10 x.2.2.2.2.2.1,.ow false 9 x.2.2.2.2.2.2.1]]),(3,.lit 7 [[I_ x.2.2.2.2.2.2.2.Op_,I_ x.2.2.2.2.2.2.2.D_,I_ x.2.2.2.2.2.2.2.A_,I_ x.2.2.2.2.2.2.2.B_,I_ x.2.2.2.2.2.2.2.C_,I_ x.2.2.2.2.2.2.2.N_,.sc (.int .u32 x.2.2.2.2.2.2.2.Bits_)]]),(9,.typ false 9 v1.2)])) (fun p=>([(0,.pt 200000 [] 0 0),(3,.pt 3 [] 0 0),(9,.sw 9 []),(10,I_ v1.1),(11,I_ p),(12,B_ false)],[(200000,.lit 7 [[.im 1 x.1,.im 2 x.2.1,.im 3 x.2.2.1,.im 4 x.2.2.2.1,.ow false 8 x.2.2.2.2.1,.ow true 10 x.2.2.2.2.2.1,.ow false 9 x.2.2.2.2.2.2.1]]),(3,.lit 7 [[I_ x.2.2.2.2.2.2.2.Op_,I_ x.2.2.2.2.2.2.2.D_,I_ x.2.2.2.2.2.2.2.A_,I_ x.2.2.2.2.2.2.2.B_,I_ x.2.2.2.2.2.2.2.C_,I_ x.2.2.2.2.2.2.2.N_,.sc (.int .u32 x.2.2.2.2.2.2.2.Bits_)]]),(9,.typ false 9 v1.2)])) (fun p=>([(4,B_ false)],[(200000,.lit 7 [[.im 1 x.1,.im 2 x.2.1,.im 3 x.2.2.1,.im 4 x.2.2.2.1,.ow false 8 x.2.2.2.2.1,.ow true 10 x.2.2.2.2.2.1,.ow false 9 x.2.2.2.2.2.2.1]])])) n (ztm n x v1)
noncomputable def zyd (n:Nat) (x:Yad):Pt P_ Ty_ [200000] (Yao):=.call (k9 n) x.2.2.2.2.2.2.2 fun (y1:(List Int))=>.loopR (V:=Yab) (ztj n x) ((y1.length:Int),y1) (0:Int) (fun (v1:Yab) (y4:Int)=>.join (S:=Yci) (ztk x) (.ite (x.2.2.2.2.2.2.2.Op_==34) (.need ((x.2.2.2.2.2.2.1.length+([(-1:Int)]:List Int).length) * 8≤140737488355328) (.need ((x.2.2.2.2.2.1.length+([[]]:List (List Int)).length) * 24≤140737488355328) (.leaf (.inl ((x.2.2.2.2.2.1++([[]]:List (List Int))),(x.2.2.2.2.2.2.1++([(-1:Int)]:List Int))))))) (.leaf (.inl (x.2.2.2.2.2.1,x.2.2.2.2.2.2.1)))) fun s1=>.join (S:=Ycj) (ztl x) (.call (k11 n) x.2.2.2.2.2.2.2 fun (y5:Bool)=>.ite y5 (.need (0≤x.2.2.2.2.2.2.2.D_∧x.2.2.2.2.2.2.2.D_<(x.2.2.2.2.1.length:Int)) (.bnd (x.2.2.2.2.1[x.2.2.2.2.2.2.2.D_.toNat]?) fun y6=>.leaf (.inl ((!y6),s1.1,s1.2)))) (.leaf (.inl (false,s1.1,s1.2)))) fun s2=>.ite s2.1 (.need (0≤x.2.2.2.2.2.2.2.D_∧x.2.2.2.2.2.2.2.D_<(x.2.2.2.2.1.length:Int)) (.bnd (x.2.2.2.2.1[x.2.2.2.2.2.2.2.D_.toNat]?) fun y7=>.ite (decide ((IntKind.i64.wrap ((s2.2.1.length:Int) - (1:Int)))≥(0:Int))) (.need (0≤(IntKind.i64.wrap ((s2.2.1.length:Int) - (1:Int)))∧(IntKind.i64.wrap ((s2.2.1.length:Int) - (1:Int)))<(s2.2.1.length:Int)) (.bnd (s2.2.1[(IntKind.i64.wrap ((s2.2.1.length:Int) - (1:Int))).toNat]?) fun y8=>.bnd (s2.2.1[(IntKind.i64.wrap ((s2.2.1.length:Int) - (1:Int))).toNat]?) fun y9=>.bnd (s2.2.1[(IntKind.i64.wrap ((s2.2.1.length:Int) - (1:Int))).toNat]?) fun y10=>.need ((y9.length+([x.2.2.2.2.2.2.2.D_]:List Int).length) * 8≤140737488355328) (.need (0≤(IntKind.i64.wrap ((s2.2.1.length:Int) - (1:Int)))∧(IntKind.i64.wrap ((s2.2.1.length:Int) - (1:Int)))<(s2.2.1.length:Int)) (.need ((IntKind.i64.wrap ((s2.2.1.length:Int) - (1:Int))).toNat=(IntKind.i64.wrap ((s2.2.1.length:Int) - (1:Int))).toNat∧(IntKind.i64.wrap ((s2.2.1.length:Int) - (1:Int))).toNat<s2.2.1.length) (.leaf (true,x.1,x.2.1,x.2.2.1,x.2.2.2.1,(x.2.2.2.2.1.set x.2.2.2.2.2.2.2.D_.toNat true),(s2.2.1.set ((IntKind.i64.wrap ((s2.2.1.length:Int) - (1:Int))).toNat) (y9++([x.2.2.2.2.2.2.2.D_]:List Int))),s2.2.2)))))) (.leaf (true,x.1,x.2.1,x.2.2.1,x.2.2.2.1,(x.2.2.2.2.1.set x.2.2.2.2.2.2.2.D_.toNat true),s2.2.1,s2.2.2)))) (.leaf (true,x.1,x.2.1,x.2.2.1,x.2.2.2.1,x.2.2.2.2.1,s2.2.1,s2.2.2))) fun (v1:Yab) (z1:Unit)=>.leaf (false,x.1,x.2.1,x.2.2.1,x.2.2.2.1,x.2.2.2.2.1,x.2.2.2.2.2.1,x.2.2.2.2.2.2.1)
noncomputable def k37 (n:Nat):Con P_ Ty_:=ze (X:=Yad) (R:=Yao) (pro:=[200000]) (zyb n) 31 zyc (fun x=>.two .no (.two (.two .no (.two (.loop (Yab) (ztj n x) true ⟨[(0,.ref 200000),(3,.ref 3),(9,.ref 9),(10,.any),(11,.any)],[(200000,.any),(3,.any),(9,.any)]⟩) .no)) (.join (Yci) (ztk x) ⟨[(0,.ref 200000),(3,.ref 3)],[(200000,.any),(3,.any)]⟩ .no (.two (.join (Ycj) (ztl x) ⟨[(0,.ref 200000),(3,.ref 3),(57,.any)],[(200000,.any),(3,.any)]⟩ .no .no) .no)))) [.pt 200000,.ag [.any,.any,.any,.any,.any,.any,.any]] [(200000,[.im 1,.im 2,.im 3,.im 4,.ow false 8,.ow true 10,.ow false 9])] [] ⟨[(4,.any)],[(200000,.any)]⟩ [200000] false (fun x=>[.pt 200000 [] 0 0,.ag [I_ x.2.2.2.2.2.2.2.Op_,I_ x.2.2.2.2.2.2.2.D_,I_ x.2.2.2.2.2.2.2.A_,I_ x.2.2.2.2.2.2.2.B_,I_ x.2.2.2.2.2.2.2.C_,I_ x.2.2.2.2.2.2.2.N_,.sc (.int .u32 x.2.2.2.2.2.2.2.Bits_)]]) (fun x=>[(200000,.lit 7 [[.im 1 x.1,.im 2 x.2.1,.im 3 x.2.2.1,.im 4 x.2.2.2.1,.ow false 8 x.2.2.2.2.1,.ow true 10 x.2.2.2.2.2.1,.ow false 9 x.2.2.2.2.2.2.1]])]) (fun y=>([(4,B_ y.1)],[(200000,.lit 7 [[.im 1 y.2.1,.im 2 y.2.2.1,.im 3 y.2.2.2.1,.im 4 y.2.2.2.2.1,.ow false 8 y.2.2.2.2.2.1,.ow true 10 y.2.2.2.2.2.2.1,.ow false 9 y.2.2.2.2.2.2.2]])])) (fun y=>B_ y.1) (fun y=>[(200000,.lit 7 [[.im 1 y.2.1,.im 2 y.2.2.1,.im 3 y.2.2.2.1,.im 4 y.2.2.2.2.1,.ow false 8 y.2.2.2.2.2.1,.ow true 10 y.2.2.2.2.2.2.1,.ow false 9 y.2.2.2.2.2.2.2]])]) (zyd n)
noncomputable def zxt (n:Nat):Cx P_ Ty_:=⟨[k28 n,k29 n,k32 n,k35 n,k36 n,k37 n],[(45,false,8)],[],[]⟩
abbrev zxu:List (List Nat):=[[1],[1,4],[1,4,11],[2,3],[1,15],[2,3],[1,26],[2,3],[1,40],[2,3],[1,5],[1,5,49,50,51],[1,5,49,50,51,52],[1,5,6,7,49,50,51],[1,5,6,49,50,51,71],[2,3],[1,5,49,50,51],[1,79],[2,3],[2,3]]
noncomputable def zs1 (x:Xe) (p:Bool):EH Ty_:=([(1,.pt 1 [] 0 0),(15,B_ p)],[(1,.lit 4 [[.im 1 x.Sign_,.im 2 x.Regs_,.im 3 x.Slots_,.im 4 x.List_]])])
noncomputable def zs2 (x:Xe) (p:Yaj):EH Ty_:=([(1,.pt 1 [] 0 0),(40,B_ p.1)],[(1,.lit 4 [[.im 1 p.2.1,.im 2 p.2.2.1,.im 3 p.2.2.2.1,.im 4 p.2.2.2.2]])])
noncomputable def zs3 (x:Xe) (v1:Ybe) (q1:Yaw) (p:Yao):EH Ty_:=([(1,.pt 1 [] 0 0),(5,.pt 47 [] 0 0),(6,I_ q1.1),(49,.im 4 v1.1),(50,I_ v1.2.1),(51,I_ q1.1),(71,B_ p.1)],[(1,.lit 4 [[.im 1 v1.2.2.1,.im 2 v1.2.2.2.1,.im 3 v1.2.2.2.2,.im 4 v1.1]]),(47,.lit 7 [[.im 1 p.2.1,.im 2 p.2.2.1,.im 3 p.2.2.2.1,.im 4 p.2.2.2.2.1,.ow false 8 p.2.2.2.2.2.1,.ow true 10 p.2.2.2.2.2.2.1,.ow false 9 p.2.2.2.2.2.2.2]])])
noncomputable def zs4 (n:Nat) (x:Xe) (v1:Ybe) (q1:Yaw):Pt P_ Ty_ [] (Bo (Yaw) (Yaw) Int):=.ite (decide (q1.1<v1.2.1)) (.bnd (idx v1.1 q1.1) fun y4=>.join (S:=Yao) (zs3 x v1 q1) (.call (k35 n) (q1.2.1,q1.2.2.1,q1.2.2.2.1,q1.2.2.2.2.1,q1.2.2.2.2.2.1,q1.2.2.2.2.2.2.1,q1.2.2.2.2.2.2.2,y4) fun (y5:Yao)=>.ite (!y5.1) (.leaf (.inl (true,y5.2.1,y5.2.2.1,y5.2.2.2.1,y5.2.2.2.2.1,y5.2.2.2.2.2.1,y5.2.2.2.2.2.2.1,y5.2.2.2.2.2.2.2))) (.call (k36 n) (y5.2.1,y5.2.2.1,y5.2.2.2.1,y5.2.2.2.2.1,y5.2.2.2.2.2.1,y5.2.2.2.2.2.2.1,y5.2.2.2.2.2.2.2,y4) fun (y6:Yao)=>.ite (!y6.1) (.leaf (.inl (true,y6.2.1,y6.2.2.1,y6.2.2.2.1,y6.2.2.2.2.1,y6.2.2.2.2.2.1,y6.2.2.2.2.2.2.1,y6.2.2.2.2.2.2.2))) (.call (k37 n) (y6.2.1,y6.2.2.1,y6.2.2.2.1,y6.2.2.2.2.1,y6.2.2.2.2.2.1,y6.2.2.2.2.2.2.1,y6.2.2.2.2.2.2.2,y4) fun (y7:Yao)=>.leaf (.inl ((!y7.1),y7.2.1,y7.2.2.1,y7.2.2.2.1,y7.2.2.2.2.1,y7.2.2.2.2.2.1,y7.2.2.2.2.2.2.1,y7.2.2.2.2.2.2.2))))) fun s3=>.ite s3.1 (.leaf (.ret q1.1)) (.leaf (.go ((IntKind.i64.wrap (q1.1+(1:Int))),s3.2.1,s3.2.2.1,s3.2.2.2.1,s3.2.2.2.2.1,s3.2.2.2.2.2.1,s3.2.2.2.2.2.2.1,s3.2.2.2.2.2.2.2)))) (.leaf (.out (q1.1,q1.2.1,q1.2.2.1,q1.2.2.2.1,q1.2.2.2.2.1,q1.2.2.2.2.2.1,q1.2.2.2.2.2.2.1,q1.2.2.2.2.2.2.2)))
noncomputable def zs0 (n:Nat) (x:Xe) (v1:Ybe):LCon P_ Ty_ []:=lcon (X:=Yaw) (Y:=Yaw) (Z:=Int) (zxt n) (subC [1,1,1,1,0,1,0,0] (fnC P_ 9 zxu)) (fun q1=>.two .no (.two .no (.two (.two (.two .no (.join (Yao) (zs3 x v1 q1) ⟨[(1,.ref 1),(5,.ref 47),(6,.any),(49,.im 4),(50,.any),(51,.any),(71,.any)],[(1,.any),(47,.any)]⟩ .no .no)) .no) .no))) 1 true ⟨[(1,.ref 1),(5,.ref 47),(49,.im 4),(50,.any),(51,.any)],[(1,.any),(47,.fix [.no,.no,.no,.no,.no,.ow true 10,.ow false 9])]⟩ ⟨[(1,.ref 1),(5,.ref 47),(49,.im 4),(50,.any),(51,.any),(52,.any)],[(1,.any),(47,.any)]⟩ ⟨[(2,.any),(3,.any)],[]⟩ (fun q1=>([(1,.pt 1 [] 0 0),(5,.pt 47 [] 0 0),(49,.im 4 v1.1),(50,I_ v1.2.1),(51,I_ q1.1)],[(1,.lit 4 [[.im 1 v1.2.2.1,.im 2 v1.2.2.2.1,.im 3 v1.2.2.2.2,.im 4 v1.1]]),(47,.lit 7 [[.im 1 q1.2.1,.im 2 q1.2.2.1,.im 3 q1.2.2.2.1,.im 4 q1.2.2.2.2.1,.ow false 8 q1.2.2.2.2.2.1,.ow true 10 q1.2.2.2.2.2.2.1,.ow false 9 q1.2.2.2.2.2.2.2]])])) (fun p=>([(1,.pt 1 [] 0 0),(5,.pt 47 [] 0 0),(49,.im 4 v1.1),(50,I_ v1.2.1),(51,I_ p.1),(52,B_ false)],[(1,.lit 4 [[.im 1 v1.2.2.1,.im 2 v1.2.2.2.1,.im 3 v1.2.2.2.2,.im 4 v1.1]]),(47,.lit 7 [[.im 1 p.2.1,.im 2 p.2.2.1,.im 3 p.2.2.2.1,.im 4 p.2.2.2.2.1,.ow false 8 p.2.2.2.2.2.1,.ow true 10 p.2.2.2.2.2.2.1,.ow false 9 p.2.2.2.2.2.2.2]])])) (fun p=>([(2,I_ (160:Int)),(3,I_ p)],[])) n (zs4 n x v1)
noncomputable def zxv (n:Nat) (x:Xe):Pt P_ Ty_ [] (Yaa):=.call (k28 n) x.Sign_ fun (y1:Int)=>.ite (y1 != (0:Int)) (.leaf (y1,(-1:Int))) (.join (S:=Bool) (zs1 x) (.ite (decide ((x.Regs_.length:Int) > (16384:Int))) (.leaf (.inl true)) (.leaf (.inl (decide ((x.List_.length:Int) > (32768:Int)))))) fun s1=>.ite s1 (.leaf ((181:Int),(-1:Int))) (.ite (decide ((x.Slots_.length:Int) > (4096:Int))) (.leaf ((180:Int),(-1:Int))) (.join (S:=Yaj) (zs2 x) (.call (k29 n) (x.Regs_,x.Sign_,x.Regs_,x.Slots_,x.List_) fun (y2:Yaj)=>.ite y2.1 (.leaf (.inl (true,y2.2.1,y2.2.2.1,y2.2.2.2.1,y2.2.2.2.2))) (.call (k32 n) (y2.2.2.2.1,y2.2.1,y2.2.2.1,y2.2.2.2.1,y2.2.2.2.2) fun (y3:Yaj)=>.leaf (.inl (y3.1,y3.2.1,y3.2.2.1,y3.2.2.2.1,y3.2.2.2.2)))) fun s2=>.ite s2.1 (.leaf ((160:Int),(-1:Int))) (.need (0≤(s2.2.2.1.length:Int)∧(s2.2.2.1.length:Int) * (1:Int)≤140737488355328) (.loopR (V:=Ybe) (zs0 n x) (s2.2.2.2.2,(s2.2.2.2.2.length:Int),s2.2.1,s2.2.2.1,s2.2.2.2.1) ((0:Int),s2.2.1,s2.2.2.1,s2.2.2.2.1,s2.2.2.2.2,(List.replicate (s2.2.2.1.length:Int).toNat false),([]:List (List Int)),([]:List Int)) (fun (v1:Ybe) (y8:Yaw)=>.ite (decide ((y8.2.2.2.2.2.2.2.length:Int) > (0:Int))) (.leaf ((160:Int),(v1.1.length:Int))) (.leaf ((0:Int),(0:Int)))) fun (v1:Ybe) (z1:Int)=>.leaf ((160:Int),z1))))))
noncomputable def k16 (n:Nat):Con P_ Ty_:=ze (X:=Xe) (R:=Yaa) (pro:=[]) (zxt n) 9 zxu (fun x=>.two .no (.two (.two .no (.two (.two .no (.two .no (.join Bool (zs1 x) ⟨[(1,.ref 1),(15,.any)],[(1,.any)]⟩ .no .no))) .no)) (.two (.join (Yaj) (zs2 x) ⟨[(1,.ref 1),(40,.any)],[(1,.any)]⟩ .no .no) (.two .no (.two (.two .no (.two (.loop (Ybe) (zs0 n x) true ⟨[(1,.ref 1),(5,.ref 47),(49,.im 4),(50,.any),(51,.any)],[(1,.any),(47,.fix [.no,.no,.no,.no,.no,.ow true 10,.ow false 9])]⟩) .no)) .no))))) [.ag [.im 1,.im 2,.im 3,.im 4]] [] [] ⟨[(2,.any),(3,.any)],[]⟩ [] true (fun x=>[.ag [.im 1 x.Sign_,.im 2 x.Regs_,.im 3 x.Slots_,.im 4 x.List_]]) (fun x=>[]) (fun y=>([(2,I_ y.1),(3,I_ y.2)],[])) (fun y=>.tu [I_ y.1,I_ y.2]) (fun y=>[]) (zxv n)
noncomputable def y4f (n:Nat):Cx P_ Ty_:=⟨[],[],[],[]⟩
abbrev y4g:List (List Nat):=[[2,3],[2,3,7],[4],[4]]
noncomputable def zrg (n:Nat) (x:Yau):Pt P_ Ty_ [] Int:=.ite (x.2.Kind_==3) (.bnd (idx x.1.Sign_ x.2.Param_) fun y1=>.leaf y1.Len_) (.leaf (1:Int))
noncomputable def k104 (n:Nat):Con P_ Ty_:=ze (X:=Yau) (R:=Int) (pro:=[]) (y4f n) 32 y4g (fun x=>.no) [.ag [.im 1,.im 2,.im 3,.im 4],.ag [.any,.any]] [] [] ⟨[(4,.any)],[]⟩ [] true (fun x=>[.ag [.im 1 x.1.Sign_,.im 2 x.1.Regs_,.im 3 x.1.Slots_,.im 4 x.1.List_],.ag [I_ x.2.Kind_,I_ x.2.Param_]]) (fun x=>[]) (fun y=>([(4,I_ y)],[])) (fun y=>I_ y) (fun y=>[]) (zrg n)
noncomputable def y4d (n:Nat):Cx P_ Ty_:=⟨[k104 n,k13 n],[],[],[]⟩
abbrev y4e:List (List Nat):=[[2,3],[2,3,6],[2,3,6,7],[2,3,6,7],[2,3,6,7],[2,3,6,7],[4],[2,3,6,20],[2,3,6,20],[2,3,6,20],[4],[2,3,32],[4],[2,3,36],[4],[4]]
noncomputable def zmn (x:Yae) (p:Bool):EH Ty_:=([(2,.pt 2 [] 0 0),(3,.pt 3 [] 0 0),(6,I_ x.2.Op_),(7,B_ p)],[(2,.lit 4 [[.im 1 x.1.Sign_,.im 2 x.1.Regs_,.im 3 x.1.Slots_,.im 4 x.1.List_]]),(3,.lit 7 [[I_ x.2.Op_,I_ x.2.D_,I_ x.2.A_,I_ x.2.B_,I_ x.2.C_,I_ x.2.N_,.sc (.int .u32 x.2.Bits_)]])])
noncomputable def zmo (x:Yae) (p:Bool):EH Ty_:=([(2,.pt 2 [] 0 0),(3,.pt 3 [] 0 0),(6,I_ x.2.Op_),(20,B_ p)],[(2,.lit 4 [[.im 1 x.1.Sign_,.im 2 x.1.Regs_,.im 3 x.1.Slots_,.im 4 x.1.List_]]),(3,.lit 7 [[I_ x.2.Op_,I_ x.2.D_,I_ x.2.A_,I_ x.2.B_,I_ x.2.C_,I_ x.2.N_,.sc (.int .u32 x.2.Bits_)]])])
noncomputable def zrf (n:Nat) (x:Yae):Pt P_ Ty_ [] Int:=.join (S:=Bool) (zmn x) (.ite (x.2.Op_==31) (.leaf (.inl true)) (.ite (x.2.Op_==33) (.leaf (.inl true)) (.ite (x.2.Op_==19) (.leaf (.inl true)) (.leaf (.inl (x.2.Op_==20)))))) fun s1=>.ite s1 (.bnd (idx x.1.Regs_ x.2.A_) fun y1=>.call (k104 n) (x.1,y1) fun (y2:Int)=>.leaf y2) (.join (S:=Bool) (zmo x) (.ite (x.2.Op_==29) (.leaf (.inl true)) (.ite (x.2.Op_==30) (.leaf (.inl true)) (.leaf (.inl (x.2.Op_==32))))) fun s2=>.ite s2 (.bnd (idx x.1.Regs_ x.2.D_) fun y3=>.call (k104 n) (x.1,y3) fun (y4:Int)=>.leaf y4) (.ite (x.2.Op_==16) (.leaf (62:Int)) (.call (k13 n) x.2.Op_ fun (y5:Bool)=>.ite y5 (.bnd (idx x.1.Regs_ x.2.D_) fun y6=>.call (k104 n) (x.1,y6) fun (y7:Int)=>.leaf y7) (.leaf (1:Int)))))
noncomputable def k103 (n:Nat):Con P_ Ty_:=ze (X:=Yae) (R:=Int) (pro:=[]) (y4d n) 10 y4e (fun x=>.two .no (.two (.two .no (.two (.join Bool (zmn x) ⟨[(2,.ref 2),(3,.ref 3),(6,.any),(7,.any)],[(2,.any),(3,.any)]⟩ .no (.two .no (.join Bool (zmo x) ⟨[(2,.ref 2),(3,.ref 3),(6,.any),(20,.any)],[(2,.any),(3,.any)]⟩ .no .no))) .no)) .no)) [.ag [.im 1,.im 2,.im 3,.im 4],.ag [.any,.any,.any,.any,.any,.any,.any]] [] [] ⟨[(4,.any)],[]⟩ [] true (fun x=>[.ag [.im 1 x.1.Sign_,.im 2 x.1.Regs_,.im 3 x.1.Slots_,.im 4 x.1.List_],.ag [I_ x.2.Op_,I_ x.2.D_,I_ x.2.A_,I_ x.2.B_,I_ x.2.C_,I_ x.2.N_,.sc (.int .u32 x.2.Bits_)]]) (fun x=>[]) (fun y=>([(4,I_ y)],[])) (fun y=>I_ y) (fun y=>[]) (zrf n)
noncomputable def zrc (n:Nat):Cx P_ Ty_:=⟨[k16 n,k103 n],[],[],[]⟩
abbrev zrd:List (List Nat):=[[1],[1,4],[1,4,15],[2,3],[1,6],[1,6,18,19,20],[1,6,18,19,20,21],[1,6,8,18,19,20],[1,6,18,19,20],[1,6,18,19,20],[2,3]]
noncomputable def zmm (n:Nat) (x:Xe) (v1:Unit) (q1:Yaa):Pt P_ Ty_ [] (Bo (Yaa) (Yaa) Empty):=.ite (decide (q1.2<(x.List_.length:Int))) (.bnd (idx x.List_ q1.2) fun y2=>.call (k103 n) (x,y2) fun (y3:Int)=>.leaf (.go ((IntKind.i64.wrap (q1.1+y3)),(IntKind.i64.wrap (q1.2+(1:Int)))))) (.leaf (.out (q1.1,q1.2)))
noncomputable def zml (n:Nat) (x:Xe) (v1:Unit):LCon P_ Ty_ []:=lcon (X:=Yaa) (Y:=Yaa) (Z:=Empty) (zrc n) (subC [1,1,1,0,1,0,0] (fnC P_ 4 zrd)) (fun q1=>.no) 0 false ⟨[(1,.ref 1),(6,.any),(18,.im 4),(19,.any),(20,.any)],[(1,.any)]⟩ ⟨[(1,.ref 1),(6,.any),(18,.im 4),(19,.any),(20,.any),(21,.any)],[(1,.any)]⟩ ⟨[],[]⟩ (fun q1=>([(1,.pt 1 [] 0 0),(6,I_ q1.1),(18,.im 4 x.List_),(19,I_ (x.List_.length:Int)),(20,I_ q1.2)],[(1,.lit 4 [[.im 1 x.Sign_,.im 2 x.Regs_,.im 3 x.Slots_,.im 4 x.List_]])])) (fun p=>([(1,.pt 1 [] 0 0),(6,I_ p.1),(18,.im 4 x.List_),(19,I_ (x.List_.length:Int)),(20,I_ p.2),(21,B_ false)],[(1,.lit 4 [[.im 1 x.Sign_,.im 2 x.Regs_,.im 3 x.Slots_,.im 4 x.List_]])])) (fun p=>nomatch p) n (zmm n x v1)
noncomputable def zre (n:Nat) (x:Xe):Pt P_ Ty_ [] (Yaa):=.call (k16 n) x fun (y1:Yaa)=>.ite (y1.1 != (0:Int)) (.leaf ((0:Int),y1.1)) (.loop (V:=Unit) (zml n x) () ((0:Int),(0:Int)) fun (v1:Unit) (y4:Yaa)=>.leaf (y4.1,(0:Int)))
noncomputable def k102 (n:Nat):Con P_ Ty_:=ze (X:=Xe) (R:=Yaa) (pro:=[]) (zrc n) 4 zrd (fun x=>.two .no (.two .no (.two .no (.two (.two .no (.two (.loop Unit (zml n x) false ⟨[(1,.ref 1),(6,.any),(18,.im 4),(19,.any),(20,.any)],[(1,.any)]⟩) .no)) .no)))) [.ag [.im 1,.im 2,.im 3,.im 4]] [] [] ⟨[(2,.any),(3,.any)],[]⟩ [] true (fun x=>[.ag [.im 1 x.Sign_,.im 2 x.Regs_,.im 3 x.Slots_,.im 4 x.List_]]) (fun x=>[]) (fun y=>([(2,I_ y.1),(3,I_ y.2)],[])) (fun y=>.tu [I_ y.1,I_ y.2]) (fun y=>[]) (zre n)
noncomputable def y4l (n:Nat):Cx P_ Ty_:=⟨[],[(6,false,4),(8,false,1),(11,false,2)],[],[]⟩
abbrev y4m:List (List Nat):=[[0],[0,1],[0]]
noncomputable def y4n (n:Nat) (x:Unit):Pt P_ Ty_ [] Unit:=.leaf ()
noncomputable def k112 (n:Nat):Con P_ Ty_:=ze (X:=Unit) (R:=Unit) (pro:=[]) (y4l n) 11 y4m (fun x=>.no) [] [] [100000] ⟨[(0,.ref 100000)],[(100000,.any)]⟩ [100000] true (fun x=>[]) (fun x=>[]) (fun y=>([(0,.pt 100000 [] 0 0)],[(100000,.lit 4 [[.ow false 1 ([(⟨(⟨#[119]⟩:ByteArray),(1:Int),(3:Int)⟩:Xa)]:List Xa),.ow false 2 ([(⟨(3:Int),(0:Int)⟩:Xb),(⟨(1:Int),(0:Int)⟩:Xb)]:List Xb),.zs,.ow false 4 ([(⟨(29:Int),(0:Int),(0:Int),(0:Int),(0:Int),(0:Int),(0:Int)⟩:Xd),(⟨(19:Int),(1:Int),(0:Int),(0:Int),(0:Int),(0:Int),(0:Int)⟩:Xd),(⟨(6:Int),(0:Int),(0:Int),(1:Int),(0:Int),(0:Int),(0:Int)⟩:Xd),(⟨(31:Int),(0:Int),(0:Int),(0:Int),(0:Int),(0:Int),(0:Int)⟩:Xd)]:List Xd)]])])) (fun y=>.ag [.sw 100000 [(0,0)],.sw 100000 [(0,1)],.zs,.sw 100000 [(0,3)]]) (fun y=>[(100000,.lit 4 [[.ow false 1 ([(⟨(⟨#[119]⟩:ByteArray),(1:Int),(3:Int)⟩:Xa)]:List Xa),.ow false 2 ([(⟨(3:Int),(0:Int)⟩:Xb),(⟨(1:Int),(0:Int)⟩:Xb)]:List Xb),.zs,.ow false 4 ([(⟨(29:Int),(0:Int),(0:Int),(0:Int),(0:Int),(0:Int),(0:Int)⟩:Xd),(⟨(19:Int),(1:Int),(0:Int),(0:Int),(0:Int),(0:Int),(0:Int)⟩:Xd),(⟨(6:Int),(0:Int),(0:Int),(1:Int),(0:Int),(0:Int),(0:Int)⟩:Xd),(⟨(31:Int),(0:Int),(0:Int),(0:Int),(0:Int),(0:Int),(0:Int)⟩:Xd)]:List Xd)]])]) (y4n n)
noncomputable def zjp (n:Nat):Cx P_ Ty_:=⟨[k16 n,k104 n],[],[],[]⟩
abbrev zjq:List (List Nat):=[[1],[1,4],[1,4,17],[2,3],[1,6],[1,6,20,21,22],[1,6,20,21,22,23],[1,6,8,20,21,22],[1,6,20,21,22],[1,6,20,21,22],[1,6,33,34,35],[1,6,33,34,35,36],[1,6,10,33,34,35],[1,6,33,34,35],[1,6,33,34,35],[2,3]]
noncomputable def zmr (n:Nat) (x:Xe) (v1:Unit) (q1:Yaa):Pt P_ Ty_ [] (Bo (Yaa) (Yaa) Empty):=.ite (decide (q1.2<(x.Regs_.length:Int))) (.bnd (idx x.Regs_ q1.2) fun y2=>.call (k104 n) (x,y2) fun (y3:Int)=>.leaf (.go ((IntKind.i64.wrap (q1.1+y3)),(IntKind.i64.wrap (q1.2+(1:Int)))))) (.leaf (.out (q1.1,q1.2)))
noncomputable def zmp (n:Nat) (x:Xe) (v1:Unit):LCon P_ Ty_ []:=lcon (X:=Yaa) (Y:=Yaa) (Z:=Empty) (zjp n) (subC [1,1,1,0,1,0,0] (fnC P_ 12 zjq)) (fun q1=>.no) 0 false ⟨[(1,.ref 1),(6,.any),(20,.im 2),(21,.any),(22,.any)],[(1,.any)]⟩ ⟨[(1,.ref 1),(6,.any),(20,.im 2),(21,.any),(22,.any),(23,.any)],[(1,.any)]⟩ ⟨[],[]⟩ (fun q1=>([(1,.pt 1 [] 0 0),(6,I_ q1.1),(20,.im 2 x.Regs_),(21,I_ (x.Regs_.length:Int)),(22,I_ q1.2)],[(1,.lit 4 [[.im 1 x.Sign_,.im 2 x.Regs_,.im 3 x.Slots_,.im 4 x.List_]])])) (fun p=>([(1,.pt 1 [] 0 0),(6,I_ p.1),(20,.im 2 x.Regs_),(21,I_ (x.Regs_.length:Int)),(22,I_ p.2),(23,B_ false)],[(1,.lit 4 [[.im 1 x.Sign_,.im 2 x.Regs_,.im 3 x.Slots_,.im 4 x.List_]])])) (fun p=>nomatch p) n (zmr n x v1)
noncomputable def zms (n:Nat) (x:Xe) (v2:Unit) (q2:Yaa):Pt P_ Ty_ [] (Bo (Yaa) (Yaa) Empty):=.ite (decide (q2.2<(x.Slots_.length:Int))) (.bnd (idx x.Slots_ q2.2) fun y5=>.call (k104 n) (x,y5.Type_) fun (y6:Int)=>.leaf (.go ((IntKind.i64.wrap (q2.1+y6)),(IntKind.i64.wrap (q2.2+(1:Int)))))) (.leaf (.out (q2.1,q2.2)))
noncomputable def zmq (n:Nat) (x:Xe) (v2:Unit):LCon P_ Ty_ []:=lcon (X:=Yaa) (Y:=Yaa) (Z:=Empty) (zjp n) (subC [1,1,1,1,0,1,0,0] (fnC P_ 12 zjq)) (fun q2=>.no) 2 false ⟨[(1,.ref 1),(6,.any),(33,.im 3),(34,.any),(35,.any)],[(1,.any)]⟩ ⟨[(1,.ref 1),(6,.any),(33,.im 3),(34,.any),(35,.any),(36,.any)],[(1,.any)]⟩ ⟨[],[]⟩ (fun q2=>([(1,.pt 1 [] 0 0),(6,I_ q2.1),(33,.im 3 x.Slots_),(34,I_ (x.Slots_.length:Int)),(35,I_ q2.2)],[(1,.lit 4 [[.im 1 x.Sign_,.im 2 x.Regs_,.im 3 x.Slots_,.im 4 x.List_]])])) (fun p=>([(1,.pt 1 [] 0 0),(6,I_ p.1),(33,.im 3 x.Slots_),(34,I_ (x.Slots_.length:Int)),(35,I_ p.2),(36,B_ false)],[(1,.lit 4 [[.im 1 x.Sign_,.im 2 x.Regs_,.im 3 x.Slots_,.im 4 x.List_]])])) (fun p=>nomatch p) n (zms n x v2)
noncomputable def zrh (n:Nat) (x:Xe):Pt P_ Ty_ [] (Yaa):=.call (k16 n) x fun (y1:Yaa)=>.ite (y1.1 != (0:Int)) (.leaf ((0:Int),y1.1)) (.loop (V:=Unit) (zmp n x) () ((0:Int),(0:Int)) fun (v1:Unit) (y4:Yaa)=>.loop (V:=Unit) (zmq n x) () (y4.1,(0:Int)) fun (v2:Unit) (y7:Yaa)=>.leaf (y7.1,(0:Int)))
noncomputable def k105 (n:Nat):Con P_ Ty_:=ze (X:=Xe) (R:=Yaa) (pro:=[]) (zjp n) 12 zjq (fun x=>.two .no (.two .no (.two .no (.two (.two .no (.two (.loop Unit (zmp n x) false ⟨[(1,.ref 1),(6,.any),(20,.im 2),(21,.any),(22,.any)],[(1,.any)]⟩) .no)) (.two (.two .no (.two (.loop Unit (zmq n x) false ⟨[(1,.ref 1),(6,.any),(33,.im 3),(34,.any),(35,.any)],[(1,.any)]⟩) .no)) .no))))) [.ag [.im 1,.im 2,.im 3,.im 4]] [] [] ⟨[(2,.any),(3,.any)],[]⟩ [] true (fun x=>[.ag [.im 1 x.Sign_,.im 2 x.Regs_,.im 3 x.Slots_,.im 4 x.List_]]) (fun x=>[]) (fun y=>([(2,I_ y.1),(3,I_ y.2)],[])) (fun y=>.tu [I_ y.1,I_ y.2]) (fun y=>[]) (zrh n)
noncomputable def y4h (n:Nat):Cx P_ Ty_:=⟨[k16 n,k103 n],[],[],[]⟩
abbrev y4i:List (List Nat):=[[1,2],[1,2,6],[1,2,6,14],[4,5],[1,2,24],[4,5],[4,5]]
noncomputable def zmt (x:Ybb) (p:Bool):EH Ty_:=([(1,I_ x.2),(2,.pt 2 [] 0 0),(24,B_ p)],[(2,.lit 4 [[.im 1 x.1.Sign_,.im 2 x.1.Regs_,.im 3 x.1.Slots_,.im 4 x.1.List_]])])
noncomputable def zri (n:Nat) (x:Ybb):Pt P_ Ty_ [] (Yaa):=.call (k16 n) x.1 fun (y1:Yaa)=>.ite (y1.1 != (0:Int)) (.leaf ((0:Int),y1.1)) (.join (S:=Bool) (zmt x) (.ite (decide (x.2<(0:Int))) (.leaf (.inl true)) (.leaf (.inl (decide (x.2≥(x.1.List_.length:Int)))))) fun s1=>.ite s1 (.leaf ((0:Int),(1:Int))) (.bnd (idx x.1.List_ x.2) fun y2=>.call (k103 n) (x.1,y2) fun (y3:Int)=>.leaf (y3,(0:Int))))
noncomputable def k106 (n:Nat):Con P_ Ty_:=ze (X:=Ybb) (R:=Yaa) (pro:=[]) (y4h n) 13 y4i (fun x=>.two .no (.two .no (.two (.join Bool (zmt x) ⟨[(1,.any),(2,.ref 2),(24,.any)],[(2,.any)]⟩ .no .no) .no))) [.ag [.im 1,.im 2,.im 3,.im 4],.any] [] [] ⟨[(4,.any),(5,.any)],[]⟩ [] true (fun x=>[.ag [.im 1 x.1.Sign_,.im 2 x.1.Regs_,.im 3 x.1.Slots_,.im 4 x.1.List_],I_ x.2]) (fun x=>[]) (fun y=>([(4,I_ y.1),(5,I_ y.2)],[])) (fun y=>.tu [I_ y.1,I_ y.2]) (fun y=>[]) (zri n)
noncomputable def y4o (n:Nat):Cx P_ Ty_:=⟨[k105 n,k102 n],[],[],[]⟩
abbrev y4p:List (List Nat):=[[1],[1,3,4],[1,3,4,13],[2],[1,16],[2],[5],[23],[2],[2]]
noncomputable def zrn (n:Nat) (x:Xe):Pt P_ Ty_ [] Int:=.call (k105 n) x fun (y1:Yaa)=>.ite (y1.2 != (0:Int)) (.leaf y1.2) (.ite (decide (y1.1 > (16777216:Int))) (.leaf (261:Int)) (.call (k102 n) x fun (y2:Yaa)=>.ite (decide (y2.1 > (4294967296:Int))) (.leaf (260:Int)) (.leaf (0:Int))))
noncomputable def k113 (n:Nat):Con P_ Ty_:=ze (X:=Xe) (R:=Int) (pro:=[]) (y4o n) 14 y4p (fun x=>.no) [.ag [.im 1,.im 2,.im 3,.im 4]] [] [] ⟨[(2,.any)],[]⟩ [] true (fun x=>[.ag [.im 1 x.Sign_,.im 2 x.Regs_,.im 3 x.Slots_,.im 4 x.List_]]) (fun x=>[]) (fun y=>([(2,I_ y)],[])) (fun y=>I_ y) (fun y=>[]) (zrn n)
noncomputable def y4j (n:Nat):Cx P_ Ty_:=⟨[k112 n,k102 n,k105 n,k106 n,k113 n],[(51,false,4)],[],[]⟩
abbrev y4k:List (List Nat):=[[],[1,2],[1,2,3,4],[1,2,3,4,5,6],[0]]
noncomputable def zrm (n:Nat) (x:Unit):Pt P_ Ty_ [] Bool:=.call (k112 n) () fun (y1:Unit)=>.call (k102 n) (⟨([(⟨(⟨#[119]⟩:ByteArray),(1:Int),(3:Int)⟩:Xa)]:List Xa),([(⟨(3:Int),(0:Int)⟩:Xb),(⟨(1:Int),(0:Int)⟩:Xb)]:List Xb),([]:List Xc),([(⟨(29:Int),(0:Int),(0:Int),(0:Int),(0:Int),(0:Int),(0:Int)⟩:Xd),(⟨(19:Int),(1:Int),(0:Int),(0:Int),(0:Int),(0:Int),(0:Int)⟩:Xd),(⟨(6:Int),(0:Int),(0:Int),(1:Int),(0:Int),(0:Int),(0:Int)⟩:Xd),(⟨(31:Int),(0:Int),(0:Int),(0:Int),(0:Int),(0:Int),(0:Int)⟩:Xd)]:List Xd)⟩:Xe) fun (y2:Yaa)=>.call (k112 n) () fun (y3:Unit)=>.call (k105 n) (⟨([(⟨(⟨#[119]⟩:ByteArray),(1:Int),(3:Int)⟩:Xa)]:List Xa),([(⟨(3:Int),(0:Int)⟩:Xb),(⟨(1:Int),(0:Int)⟩:Xb)]:List Xb),([]:List Xc),([(⟨(29:Int),(0:Int),(0:Int),(0:Int),(0:Int),(0:Int),(0:Int)⟩:Xd),(⟨(19:Int),(1:Int),(0:Int),(0:Int),(0:Int),(0:Int),(0:Int)⟩:Xd),(⟨(6:Int),(0:Int),(0:Int),(1:Int),(0:Int),(0:Int),(0:Int)⟩:Xd),(⟨(31:Int),(0:Int),(0:Int),(0:Int),(0:Int),(0:Int),(0:Int)⟩:Xd)]:List Xd)⟩:Xe) fun (y4:Yaa)=>.call (k112 n) () fun (y5:Unit)=>.call (k106 n) ((⟨([(⟨(⟨#[119]⟩:ByteArray),(1:Int),(3:Int)⟩:Xa)]:List Xa),([(⟨(3:Int),(0:Int)⟩:Xb),(⟨(1:Int),(0:Int)⟩:Xb)]:List Xb),([]:List Xc),([(⟨(29:Int),(0:Int),(0:Int),(0:Int),(0:Int),(0:Int),(0:Int)⟩:Xd),(⟨(19:Int),(1:Int),(0:Int),(0:Int),(0:Int),(0:Int),(0:Int)⟩:Xd),(⟨(6:Int),(0:Int),(0:Int),(1:Int),(0:Int),(0:Int),(0:Int)⟩:Xd),(⟨(31:Int),(0:Int),(0:Int),(0:Int),(0:Int),(0:Int),(0:Int)⟩:Xd)]:List Xd)⟩:Xe),(1:Int)) fun (y6:Yaa)=>.ite (y2.1==12) (.ite (y2.2==0) (.ite (y4.1==4) (.ite (y4.2==0) (.ite (y6.1==3) (.ite (y6.2==0) (.call (k112 n) () fun (y7:Unit)=>.call (k113 n) (⟨([(⟨(⟨#[119]⟩:ByteArray),(1:Int),(3:Int)⟩:Xa)]:List Xa),([(⟨(3:Int),(0:Int)⟩:Xb),(⟨(1:Int),(0:Int)⟩:Xb)]:List Xb),([]:List Xc),([(⟨(29:Int),(0:Int),(0:Int),(0:Int),(0:Int),(0:Int),(0:Int)⟩:Xd),(⟨(19:Int),(1:Int),(0:Int),(0:Int),(0:Int),(0:Int),(0:Int)⟩:Xd),(⟨(6:Int),(0:Int),(0:Int),(1:Int),(0:Int),(0:Int),(0:Int)⟩:Xd),(⟨(31:Int),(0:Int),(0:Int),(0:Int),(0:Int),(0:Int),(0:Int)⟩:Xd)]:List Xd)⟩:Xe) fun (y8:Int)=>.ite (y8==0) (.call (k113 n) (⟨([]:List Xa),([]:List Xb),([]:List Xc),([(⟨(0:Int),(0:Int),(0:Int),(0:Int),(0:Int),(0:Int),(0:Int)⟩:Xd)]:List Xd)⟩:Xe) fun (y9:Int)=>.leaf (y9==160)) (.leaf false)) (.leaf false)) (.leaf false)) (.leaf false)) (.leaf false)) (.leaf false)) (.leaf false)
noncomputable def k111 (n:Nat):Con P_ Ty_:=ze (X:=Unit) (R:=Bool) (pro:=[]) (y4j n) 6 y4k (fun x=>.no) [] [] [] ⟨[(0,.any)],[]⟩ [] true (fun x=>[]) (fun x=>[]) (fun y=>([(0,B_ y)],[])) (fun y=>B_ y) (fun y=>[]) (zrm n)
noncomputable def zzc (n:Nat):Cx P_ Ty_:=⟨[],[],[],[]⟩
abbrev zzd:List (List Nat):=[[0],[0,11],[2],[0,3],[0,3,15],[0,3,4],[0,3,59],[2],[0,3],[2]]
noncomputable def zuo (x:ByteArray) (p:Bool):EH Ty_:=([(0,.sc (.string x)),(11,B_ p)],[])
noncomputable def zup (x:ByteArray) (v1:Unit) (q1:Int) (p:Bool):EH Ty_:=([(0,.sc (.string x)),(3,I_ q1),(59,B_ p)],[])
noncomputable def zuq (n:Nat) (x:ByteArray) (v1:Unit) (q1:Int):Pt P_ Ty_ [] (Bo Int Int Unit):=.ite (decide (q1<(x.size:Int))) (.need (0≤q1∧q1<(x.size:Int)) (.join (S:=Bool) (zup x v1 q1) (.ite (decide ((za x q1)≥(97:Int))) (.ite (decide ((za x q1)≤(122:Int))) (.leaf (.inl false)) (.ite (decide ((za x q1)≥(65:Int))) (.ite (decide ((za x q1)≤(90:Int))) (.leaf (.inl false)) (.ite (decide ((za x q1)≥(48:Int))) (.ite (decide ((za x q1)≤(57:Int))) (.leaf (.inl false)) (.ite ((za x q1)==95) (.leaf (.inl false)) (.ite ((za x q1)==46) (.leaf (.inl false)) (.ite ((za x q1)==47) (.leaf (.inl false)) (.leaf (.inl (!((za x q1)==45)))))))) (.ite ((za x q1)==95) (.leaf (.inl false)) (.ite ((za x q1)==46) (.leaf (.inl false)) (.ite ((za x q1)==47) (.leaf (.inl false)) (.leaf (.inl (!((za x q1)==45))))))))) (.ite (decide ((za x q1)≥(48:Int))) (.ite (decide ((za x q1)≤(57:Int))) (.leaf (.inl false)) (.ite ((za x q1)==95) (.leaf (.inl false)) (.ite ((za x q1)==46) (.leaf (.inl false)) (.ite ((za x q1)==47) (.leaf (.inl false)) (.leaf (.inl (!((za x q1)==45)))))))) (.ite ((za x q1)==95) (.leaf (.inl false)) (.ite ((za x q1)==46) (.leaf (.inl false)) (.ite ((za x q1)==47) (.leaf (.inl false)) (.leaf (.inl (!((za x q1)==45)))))))))) (.ite (decide ((za x q1)≥(65:Int))) (.ite (decide ((za x q1)≤(90:Int))) (.leaf (.inl false)) (.ite (decide ((za x q1)≥(48:Int))) (.ite (decide ((za x q1)≤(57:Int))) (.leaf (.inl false)) (.ite ((za x q1)==95) (.leaf (.inl false)) (.ite ((za x q1)==46) (.leaf (.inl false)) (.ite ((za x q1)==47) (.leaf (.inl false)) (.leaf (.inl (!((za x q1)==45)))))))) (.ite ((za x q1)==95) (.leaf (.inl false)) (.ite ((za x q1)==46) (.leaf (.inl false)) (.ite ((za x q1)==47) (.leaf (.inl false)) (.leaf (.inl (!((za x q1)==45))))))))) (.ite (decide ((za x q1)≥(48:Int))) (.ite (decide ((za x q1)≤(57:Int))) (.leaf (.inl false)) (.ite ((za x q1)==95) (.leaf (.inl false)) (.ite ((za x q1)==46) (.leaf (.inl false)) (.ite ((za x q1)==47) (.leaf (.inl false)) (.leaf (.inl (!((za x q1)==45)))))))) (.ite ((za x q1)==95) (.leaf (.inl false)) (.ite ((za x q1)==46) (.leaf (.inl false)) (.ite ((za x q1)==47) (.leaf (.inl false)) (.leaf (.inl (!((za x q1)==45)))))))))) fun s2=>.ite s2 (.leaf (.ret ())) (.leaf (.go (IntKind.i64.wrap (q1+(1:Int))))))) (.leaf (.out q1))
noncomputable def zun (n:Nat) (x:ByteArray) (v1:Unit):LCon P_ Ty_ []:=lcon (X:=Int) (Y:=Int) (Z:=Unit) (zzc n) (subC [1,1,0,1,0,0] (fnC P_ 81 zzd)) (fun q1=>.two .no (.two (.two (.two .no (.join Bool (zup x v1 q1) ⟨[(0,.any),(3,.any),(59,.any)],[]⟩ .no .no)) .no) .no)) 0 true ⟨[(0,.any),(3,.any)],[]⟩ ⟨[(0,.any),(3,.any),(15,.any)],[]⟩ ⟨[(2,.any)],[]⟩ (fun q1=>([(0,.sc (.string x)),(3,I_ q1)],[])) (fun p=>([(0,.sc (.string x)),(3,I_ p),(15,B_ false)],[])) (fun p=>([(2,B_ false)],[])) n (zuq n x v1)
noncomputable def zze (n:Nat) (x:ByteArray):Pt P_ Ty_ [] Bool:=.join (S:=Bool) (zuo x) (.ite (x==(⟨#[]⟩:ByteArray)) (.leaf (.inl true)) (.leaf (.inl (decide ((x.size:Int) > (64:Int)))))) fun s1=>.ite s1 (.leaf false) (.loopR (V:=Unit) (zun n x) () (0:Int) (fun (v1:Unit) (y1:Int)=>.leaf true) fun (v1:Unit) (z1:Unit)=>.leaf false)
noncomputable def k63 (n:Nat):Con P_ Ty_:=ze (X:=ByteArray) (R:=Bool) (pro:=[]) (zzc n) 81 zzd (fun x=>.two .no (.two (.join Bool (zuo x) ⟨[(0,.any),(11,.any)],[]⟩ .no .no) (.two (.two .no (.two (.loop Unit (zun n x) true ⟨[(0,.any),(3,.any)],[]⟩) .no)) .no))) [.any] [] [] ⟨[(2,.any)],[]⟩ [] true (fun x=>[.sc (.string x)]) (fun x=>[]) (fun y=>([(2,B_ y)],[])) (fun y=>B_ y) (fun y=>[]) (zze n)
noncomputable def y8q (n:Nat):Cx P_ Ty_:=⟨[k63 n],[],[],[]⟩
abbrev y8r:List (List Nat):=[[1],[2]]
noncomputable def zyy (n:Nat) (x:Xa):Pt P_ Ty_ [] Bool:=.call (k63 n) x.Name_ fun (y1:Bool)=>.ite y1 (.ite (x.Kind_==1) (.ite (decide (x.Len_≥(1:Int))) (.leaf (decide (x.Len_≤(4096:Int)))) (.leaf false)) (.ite (x.Kind_==2) (.ite (decide (x.Len_≥(1:Int))) (.leaf (decide (x.Len_≤(4096:Int)))) (.leaf false)) (.leaf false))) (.leaf false)
noncomputable def k55 (n:Nat):Con P_ Ty_:=ze (X:=Xa) (R:=Bool) (pro:=[]) (y8q n) 62 y8r (fun x=>.no) [.ag [.any,.any,.any]] [] [] ⟨[(2,.any)],[]⟩ [] true (fun x=>[.ag [.sc (.string x.Name_),I_ x.Kind_,I_ x.Len_]]) (fun x=>[]) (fun y=>([(2,B_ y)],[])) (fun y=>B_ y) (fun y=>[]) (zyy n)
noncomputable def zyz (n:Nat):Cx P_ Ty_:=⟨[],[],[],[]⟩
abbrev zz0:List (List Nat):=[[0,1],[0,1,6],[0,1,6,10],[0,1,6,19],[4,5],[0,1,6],[4,5]]
noncomputable def zu4 (n:Nat) (x:Ybg) (v1:Unit) (q1:Int):Pt P_ Ty_ [] (Bo Int Int Int):=.ite (decide (q1<(x.1.length:Int))) (.bnd (idx x.1 q1) fun y1=>.ite (y1.Name_==x.2) (.leaf (.ret q1)) (.leaf (.go (IntKind.i64.wrap (q1+(1:Int)))))) (.leaf (.out q1))
noncomputable def zu3 (n:Nat) (x:Ybg) (v1:Unit):LCon P_ Ty_ []:=lcon (X:=Int) (Y:=Int) (Z:=Int) (zyz n) (subC [1,0,1,0,0] (fnC P_ 63 zz0)) (fun q1=>.no) 0 true ⟨[(0,.im 1),(1,.any),(6,.any)],[]⟩ ⟨[(0,.im 1),(1,.any),(6,.any),(10,.any)],[]⟩ ⟨[(4,.any),(5,.any)],[]⟩ (fun q1=>([(0,.im 1 x.1),(1,.sc (.string x.2)),(6,I_ q1)],[])) (fun p=>([(0,.im 1 x.1),(1,.sc (.string x.2)),(6,I_ p),(10,B_ false)],[])) (fun p=>([(4,I_ p),(5,B_ true)],[])) n (zu4 n x v1)
noncomputable def zz1 (n:Nat) (x:Ybg):Pt P_ Ty_ [] (Yag):=.loopR (V:=Unit) (zu3 n x) () (0:Int) (fun (v1:Unit) (y2:Int)=>.leaf ((0:Int),false)) fun (v1:Unit) (z1:Int)=>.leaf (z1,true)
noncomputable def k56 (n:Nat):Con P_ Ty_:=ze (X:=Ybg) (R:=Yag) (pro:=[]) (zyz n) 63 zz0 (fun x=>.two .no (.two (.two .no (.two (.loop Unit (zu3 n x) true ⟨[(0,.im 1),(1,.any),(6,.any)],[]⟩) .no)) .no)) [.im 1,.any] [] [] ⟨[(4,.any),(5,.any)],[]⟩ [] true (fun x=>[.im 1 x.1,.sc (.string x.2)]) (fun x=>[]) (fun y=>([(4,I_ y.1),(5,B_ y.2)],[])) (fun y=>.tu [I_ y.1,B_ y.2]) (fun y=>[]) (zz1 n)
noncomputable def y90 (n:Nat):Cx P_ Ty_:=⟨[k55 n],[],[],[]⟩
abbrev y91:List (List Nat):=[[1],[1,3],[2],[1,7],[2],[2]]
noncomputable def zzf (n:Nat) (x:Xa):Pt P_ Ty_ [] Int:=.call (k55 n) x fun (y1:Bool)=>.ite (!y1) (.leaf (0:Int)) (.ite (x.Kind_==2) (.leaf (IntKind.i64.wrap ((2:Int) * x.Len_))) (.leaf x.Len_))
noncomputable def k64 (n:Nat):Con P_ Ty_:=ze (X:=Xa) (R:=Int) (pro:=[]) (y90 n) 41 y91 (fun x=>.no) [.ag [.any,.any,.any]] [] [] ⟨[(2,.any)],[]⟩ [] true (fun x=>[.ag [.sc (.string x.Name_),I_ x.Kind_,I_ x.Len_]]) (fun x=>[]) (fun y=>([(2,I_ y)],[])) (fun y=>I_ y) (fun y=>[]) (zzf n)
noncomputable def zz2 (n:Nat):Cx P_ Ty_:=⟨[k64 n],[],[],[]⟩
abbrev zz3:List (List Nat):=[[0],[0,3],[0,3,4],[0,3,4,8],[0,3,4],[0,3,4],[2]]
noncomputable def zu6 (n:Nat) (x:(List Xa)) (v1:Unit) (q1:Yaa):Pt P_ Ty_ [] (Bo (Yaa) (Yaa) Empty):=.ite (decide (q1.2<(x.length:Int))) (.bnd (idx x q1.2) fun y1=>.call (k64 n) y1 fun (y2:Int)=>.leaf (.go ((IntKind.i64.wrap (q1.1+y2)),(IntKind.i64.wrap (q1.2+(1:Int)))))) (.leaf (.out (q1.1,q1.2)))
noncomputable def zu5 (n:Nat) (x:(List Xa)) (v1:Unit):LCon P_ Ty_ []:=lcon (X:=Yaa) (Y:=Yaa) (Z:=Empty) (zz2 n) (subC [1,1,0,1,0,0] (fnC P_ 64 zz3)) (fun q1=>.no) 0 false ⟨[(0,.im 1),(3,.any),(4,.any)],[]⟩ ⟨[(0,.im 1),(3,.any),(4,.any),(8,.any)],[]⟩ ⟨[],[]⟩ (fun q1=>([(0,.im 1 x),(3,I_ q1.1),(4,I_ q1.2)],[])) (fun p=>([(0,.im 1 x),(3,I_ p.1),(4,I_ p.2),(8,B_ false)],[])) (fun p=>nomatch p) n (zu6 n x v1)
noncomputable def zz4 (n:Nat) (x:(List Xa)):Pt P_ Ty_ [] Int:=.loop (V:=Unit) (zu5 n x) () ((0:Int),(0:Int)) fun (v1:Unit) (y3:Yaa)=>.leaf y3.1
noncomputable def k57 (n:Nat):Con P_ Ty_:=ze (X:=(List Xa)) (R:=Int) (pro:=[]) (zz2 n) 64 zz3 (fun x=>.two .no (.two .no (.two (.two .no (.two (.loop Unit (zu5 n x) false ⟨[(0,.im 1),(3,.any),(4,.any)],[]⟩) .no)) .no))) [.im 1] [] [] ⟨[(2,.any)],[]⟩ [] true (fun x=>[.im 1 x]) (fun x=>[]) (fun y=>([(2,I_ y)],[])) (fun y=>I_ y) (fun y=>[]) (zz4 n)
noncomputable def zpl (n:Nat):Cx P_ Ty_:=⟨[k55 n,k56 n,k57 n],[],[],[]⟩
abbrev zpm:List (List Nat):=[[0],[0,9],[2],[0,3],[0,3,13],[0,3,21],[2],[0,3],[0,4],[0,4,25],[0,4,5],[0,4,40],[2],[0,4],[43],[2],[2]]
noncomputable def ztp (n:Nat) (x:(List Xa)) (v1:Unit) (q1:Int):Pt P_ Ty_ [] (Bo Int Int Unit):=.ite (decide (q1<(x.length:Int))) (.bnd (idx x q1) fun y1=>.call (k55 n) y1 fun (y2:Bool)=>.ite (!y2) (.leaf (.ret ())) (.leaf (.go (IntKind.i64.wrap (q1+(1:Int)))))) (.leaf (.out q1))
noncomputable def ztn (n:Nat) (x:(List Xa)) (v1:Unit):LCon P_ Ty_ []:=lcon (X:=Int) (Y:=Int) (Z:=Unit) (zpl n) (subC [1,1,0,1,0,0] (fnC P_ 34 zpm)) (fun q1=>.no) 0 true ⟨[(0,.im 1),(3,.any)],[]⟩ ⟨[(0,.im 1),(3,.any),(13,.any)],[]⟩ ⟨[(2,.any)],[]⟩ (fun q1=>([(0,.im 1 x),(3,I_ q1)],[])) (fun p=>([(0,.im 1 x),(3,I_ p),(13,B_ false)],[])) (fun p=>([(2,I_ (100:Int))],[])) n (ztp n x v1)
noncomputable def ztq (n:Nat) (x:(List Xa)) (v2:Unit) (q2:Int):Pt P_ Ty_ [] (Bo Int Int Unit):=.ite (decide (q2<(x.length:Int))) (.bnd (idx x q2) fun y4=>.call (k56 n) (x,y4.Name_) fun (y5:Yag)=>.ite (y5.1 != q2) (.leaf (.ret ())) (.leaf (.go (IntKind.i64.wrap (q2+(1:Int)))))) (.leaf (.out q2))
noncomputable def zto (n:Nat) (x:(List Xa)) (v2:Unit):LCon P_ Ty_ []:=lcon (X:=Int) (Y:=Int) (Z:=Unit) (zpl n) (subC [1,1,1,0,1,0,0] (fnC P_ 34 zpm)) (fun q2=>.no) 2 true ⟨[(0,.im 1),(4,.any)],[]⟩ ⟨[(0,.im 1),(4,.any),(25,.any)],[]⟩ ⟨[(2,.any)],[]⟩ (fun q2=>([(0,.im 1 x),(4,I_ q2)],[])) (fun p=>([(0,.im 1 x),(4,I_ p),(25,B_ false)],[])) (fun p=>([(2,I_ (101:Int))],[])) n (ztq n x v2)
noncomputable def zye (n:Nat) (x:(List Xa)):Pt P_ Ty_ [] Int:=.ite (decide ((x.length:Int) > (64:Int))) (.leaf (2:Int)) (.loopR (V:=Unit) (ztn n x) () (0:Int) (fun (v1:Unit) (y3:Int)=>.loopR (V:=Unit) (zto n x) () (0:Int) (fun (v2:Unit) (y6:Int)=>.call (k57 n) x fun (y7:Int)=>.ite (decide (y7 > (65536:Int))) (.leaf (102:Int)) (.leaf (0:Int))) fun (v2:Unit) (z2:Unit)=>.leaf (101:Int)) fun (v1:Unit) (z1:Unit)=>.leaf (100:Int))
noncomputable def k38 (n:Nat):Con P_ Ty_:=ze (X:=(List Xa)) (R:=Int) (pro:=[]) (zpl n) 34 zpm (fun x=>.two .no (.two .no (.two (.two .no (.two (.loop Unit (ztn n x) true ⟨[(0,.im 1),(3,.any)],[]⟩) .no)) (.two (.two .no (.two (.loop Unit (zto n x) true ⟨[(0,.im 1),(4,.any)],[]⟩) .no)) .no)))) [.im 1] [] [] ⟨[(2,.any)],[]⟩ [] true (fun x=>[.im 1 x]) (fun x=>[]) (fun y=>([(2,I_ y)],[])) (fun y=>I_ y) (fun y=>[]) (zye n)
noncomputable def y8c (n:Nat):Cx P_ Ty_:=⟨[],[],[],[]⟩
abbrev y8d:List (List Nat):=[[1,2],[1,2,7],[4],[4]]
noncomputable def zyf (n:Nat) (x:Ybz):Pt P_ Ty_ [] Bool:=.ite (x.1.Kind_==3) (.ite (decide (x.1.Param_≥(0:Int))) (.leaf (decide (x.1.Param_<(x.2.length:Int)))) (.leaf false)) (.ite (x.1.Kind_==1) (.leaf (x.1.Param_==0)) (.ite (x.1.Kind_==2) (.leaf (x.1.Param_==0)) (.leaf false)))
noncomputable def k39 (n:Nat):Con P_ Ty_:=ze (X:=Ybz) (R:=Bool) (pro:=[]) (y8c n) 35 y8d (fun x=>.no) [.ag [.any,.any],.im 1] [] [] ⟨[(4,.any)],[]⟩ [] true (fun x=>[.ag [I_ x.1.Kind_,I_ x.1.Param_],.im 1 x.2]) (fun x=>[]) (fun y=>([(4,B_ y)],[])) (fun y=>B_ y) (fun y=>[]) (zyf n)
noncomputable def y9a (n:Nat):Cx P_ Ty_:=⟨[],[],[],[]⟩
abbrev y9b:List (List Nat):=[[0,2],[2,3],[2,3,4],[2,3,4,5],[2,4,5,6],[2,4,5,6,25],[2,4,6],[2,4],[2,4,5,6,34],[2,4],[2,4],[2,4,5],[2,4],[2]]
noncomputable def zur (x:Int) (p:Yck):EH Ty_:=([(2,.pt 2 [] 0 0),(4,.pt 4 [] 0 0)],[(2,.lit 5 [[B_ false,.sc (.int .u64 (0:Int)),I_ (0:Int),B_ false,B_ false]]),(4,.lit 5 [[B_ (((IntKind.u64.wrap x).fdiv (2 ^ min (31:Int).toNat IntKind.u64.bits))==1),.sc (.int .u64 p.1),I_ p.2.1,B_ p.2.2.1,B_ p.2.2.2]])])
noncomputable def zid (n:Nat) (x:Int):Pt P_ Ty_ [] (Yah):=.join (S:=Yck) (zur x) (.ite ((IntKind.i64.wrap (IntKind.u64.wrap (BitVec.ofInt IntKind.u64.bits ((IntKind.u64.wrap x).fdiv (2 ^ min (23:Int).toNat IntKind.u64.bits)) &&& BitVec.ofInt IntKind.u64.bits (255:Int)).toNat))==255) (.leaf (.inl ((0:Int),(0:Int),((IntKind.u64.wrap (BitVec.ofInt IntKind.u64.bits (IntKind.u64.wrap x) &&& BitVec.ofInt IntKind.u64.bits (8388607:Int)).toNat)==0),((IntKind.u64.wrap (BitVec.ofInt IntKind.u64.bits (IntKind.u64.wrap x) &&& BitVec.ofInt IntKind.u64.bits (8388607:Int)).toNat) != (0:Int))))) (.ite ((IntKind.i64.wrap (IntKind.u64.wrap (BitVec.ofInt IntKind.u64.bits ((IntKind.u64.wrap x).fdiv (2 ^ min (23:Int).toNat IntKind.u64.bits)) &&& BitVec.ofInt IntKind.u64.bits (255:Int)).toNat))==0) (.leaf (.inl ((IntKind.u64.wrap (BitVec.ofInt IntKind.u64.bits (IntKind.u64.wrap x) &&& BitVec.ofInt IntKind.u64.bits (8388607:Int)).toNat),(-149:Int),false,false))) (.leaf (.inl ((IntKind.u64.wrap ((8388608:Int)+(IntKind.u64.wrap (BitVec.ofInt IntKind.u64.bits (IntKind.u64.wrap x) &&& BitVec.ofInt IntKind.u64.bits (8388607:Int)).toNat))),(IntKind.i64.wrap ((IntKind.i64.wrap (IntKind.u64.wrap (BitVec.ofInt IntKind.u64.bits ((IntKind.u64.wrap x).fdiv (2 ^ min (23:Int).toNat IntKind.u64.bits)) &&& BitVec.ofInt IntKind.u64.bits (255:Int)).toNat)) - (150:Int))),false,false))))) fun s1=>.leaf ((((IntKind.u64.wrap x).fdiv (2 ^ min (31:Int).toNat IntKind.u64.bits))==1),s1.1,s1.2.1,s1.2.2.1,s1.2.2.2)
noncomputable def k69 (n:Nat):Con P_ Ty_:=ze (X:=Int) (R:=Yah) (pro:=[]) (y9a n) 87 y9b (fun x=>.two .no (.two .no (.two .no (.two .no (.two .no (.join (Yck) (zur x) ⟨[(2,.ref 2),(4,.ref 4)],[(2,.any),(4,.any)]⟩ .no .no)))))) [.any] [] [] ⟨[(2,.ref 100000)],[(100000,.any)]⟩ [] true (fun x=>[I_ x]) (fun x=>[]) (fun y=>([(2,.pt 100000 [] 0 0)],[(100000,.lit 5 [[B_ y.1,.sc (.int .u64 y.2.1),I_ y.2.2.1,B_ y.2.2.2.1,B_ y.2.2.2.2]])])) (fun y=>.ag [B_ y.1,.sc (.int .u64 y.2.1),I_ y.2.2.1,B_ y.2.2.2.1,B_ y.2.2.2.2]) (fun y=>[]) (zid n)
noncomputable def y92 (n:Nat):Cx P_ Ty_:=⟨[k69 n],[],[],[]⟩
abbrev y93:List (List Nat):=[[0],[0,5],[2],[2]]
noncomputable def zic (n:Nat) (x:Int):Pt P_ Ty_ [] Int:=.call (k69 n) x fun (y1:Yah)=>.ite y1.2.2.2.2 (.leaf (2143289344:Int)) (.leaf x)
noncomputable def k65 (n:Nat):Con P_ Ty_:=ze (X:=Int) (R:=Int) (pro:=[]) (y92 n) 73 y93 (fun x=>.no) [.any] [] [] ⟨[(2,.any)],[]⟩ [] true (fun x=>[I_ x]) (fun x=>[]) (fun y=>([(2,I_ y)],[])) (fun y=>I_ y) (fun y=>[]) (zic n)
noncomputable def y8s (n:Nat):Cx P_ Ty_:=⟨[k65 n],[],[],[]⟩
abbrev y8t:List (List Nat):=[[0],[2]]
noncomputable def zz5 (n:Nat) (x:Int):Pt P_ Ty_ [] Bool:=.call (k65 n) (IntKind.i64.wrap x) fun (y1:Int)=>.leaf (y1==(IntKind.i64.wrap x))
noncomputable def k58 (n:Nat):Con P_ Ty_:=ze (X:=Int) (R:=Bool) (pro:=[]) (y8s n) 65 y8t (fun x=>.no) [.any] [] [] ⟨[(2,.any)],[]⟩ [] true (fun x=>[.sc (.int .u32 x)]) (fun x=>[]) (fun y=>([(2,B_ y)],[])) (fun y=>B_ y) (fun y=>[]) (zz5 n)
noncomputable def y8e (n:Nat):Cx P_ Ty_:=⟨[k39 n,k58 n],[],[],[]⟩
abbrev y8f:List (List Nat):=[[1,2],[2,9],[4],[2,13],[4],[4]]
noncomputable def zyg (n:Nat) (x:Yca):Pt P_ Ty_ [] Bool:=.call (k39 n) (x.1.Type_,x.2) fun (y1:Bool)=>.ite (!y1) (.leaf false) (.ite (x.1.Type_.Kind_==2) (.ite (x.1.Bits_==0) (.ite (decide (x.1.Int_≥(0:Int))) (.leaf (decide (x.1.Int_≤(2147483647:Int)))) (.leaf false)) (.leaf false)) (.ite (x.1.Int_==0) (.call (k58 n) x.1.Bits_ fun (y2:Bool)=>.leaf y2) (.leaf false)))
noncomputable def k40 (n:Nat):Con P_ Ty_:=ze (X:=Yca) (R:=Bool) (pro:=[]) (y8e n) 36 y8f (fun x=>.no) [.ag [.any,.any,.any,.any,.any],.im 1] [] [] ⟨[(4,.any)],[]⟩ [] true (fun x=>[.ag [I_ x.1.Type_.Kind_,I_ x.1.Type_.Param_,B_ x.1.Keep_,.sc (.int .u32 x.1.Bits_),I_ x.1.Int_],.im 1 x.2]) (fun x=>[]) (fun y=>([(4,B_ y)],[])) (fun y=>B_ y) (fun y=>[]) (zyg n)
noncomputable def y7y (n:Nat):Cx P_ Ty_:=⟨[],[],[],[]⟩
abbrev y7z:List (List Nat):=[[0],[4],[4,5],[2,3],[4,7],[2,3],[4,9],[2,3],[4,11],[4,11],[4,11],[4,11],[4,11],[4,11],[4,11],[2,3],[4,19],[4,19],[4,19],[4,19],[2,3],[4,24],[2,3],[4,26],[2,3],[4,28],[2,3],[4,30],[2,3],[4,32],[4,32],[2,3],[4,35],[4,35],[2,3],[4,38],[4,38],[4,38],[4,38],[4,38],[2,3],[4,44],[2,3],[4,46],[4,46],[2,3],[4,49],[2,3],[4,51],[2,3],[4,53],[2,3],[4,55],[2,3],[4,57],[4,57],[2,3],[60],[2,3],[2,3]]
noncomputable def zsx (x:Int) (p:Bool):EH Ty_:=([(4,I_ x),(11,B_ p)],[])
noncomputable def zsy (x:Int) (p:Bool):EH Ty_:=([(4,I_ x),(19,B_ p)],[])
noncomputable def zsz (x:Int) (p:Bool):EH Ty_:=([(4,I_ x),(32,B_ p)],[])
noncomputable def zt0 (x:Int) (p:Bool):EH Ty_:=([(4,I_ x),(35,B_ p)],[])
noncomputable def zt1 (x:Int) (p:Bool):EH Ty_:=([(4,I_ x),(38,B_ p)],[])
noncomputable def zt2 (x:Int) (p:Bool):EH Ty_:=([(4,I_ x),(46,B_ p)],[])
noncomputable def zt3 (x:Int) (p:Bool):EH Ty_:=([(4,I_ x),(57,B_ p)],[])
noncomputable def zxy (n:Nat) (x:Int):Pt P_ Ty_ [] (Yam):=.ite (x==1) (.leaf ((⟨#[110,45,45,45,45]⟩:ByteArray),true)) (.ite (x==2) (.leaf ((⟨#[119,45,45,45,105]⟩:ByteArray),true)) (.ite (x==3) (.leaf ((⟨#[97,99,45,45,45]⟩:ByteArray),true)) (.join (S:=Bool) (zsx x) (.ite (x==4) (.leaf (.inl true)) (.ite (x==5) (.leaf (.inl true)) (.ite (x==6) (.leaf (.inl true)) (.ite (x==7) (.leaf (.inl true)) (.ite (x==8) (.leaf (.inl true)) (.ite (x==9) (.leaf (.inl true)) (.leaf (.inl (x==10))))))))) fun s1=>.ite s1 (.leaf ((⟨#[100,120,120,45,45]⟩:ByteArray),true)) (.join (S:=Bool) (zsy x) (.ite (x==11) (.leaf (.inl true)) (.ite (x==12) (.leaf (.inl true)) (.ite (x==13) (.leaf (.inl true)) (.leaf (.inl (x==14)))))) fun s2=>.ite s2 (.leaf ((⟨#[100,120,45,45,45]⟩:ByteArray),true)) (.ite (x==15) (.leaf ((⟨#[100,120,120,120,45]⟩:ByteArray),true)) (.ite (x==16) (.leaf ((⟨#[110,110,119,45,45]⟩:ByteArray),true)) (.ite (x==17) (.leaf ((⟨#[110,119,45,45,45]⟩:ByteArray),true)) (.ite (x==18) (.leaf ((⟨#[119,110,45,45,45]⟩:ByteArray),true)) (.join (S:=Bool) (zsz x) (.ite (x==19) (.leaf (.inl true)) (.leaf (.inl (x==20)))) fun s3=>.ite s3 (.leaf ((⟨#[110,118,45,45,45]⟩:ByteArray),true)) (.join (S:=Bool) (zt0 x) (.ite (x==21) (.leaf (.inl true)) (.leaf (.inl (x==25)))) fun s4=>.ite s4 (.leaf ((⟨#[119,119,45,45,45]⟩:ByteArray),true)) (.join (S:=Bool) (zt1 x) (.ite (x==22) (.leaf (.inl true)) (.ite (x==23) (.leaf (.inl true)) (.ite (x==24) (.leaf (.inl true)) (.ite (x==27) (.leaf (.inl true)) (.leaf (.inl (x==28))))))) fun s5=>.ite s5 (.leaf ((⟨#[119,119,119,45,45]⟩:ByteArray),true)) (.ite (x==26) (.leaf ((⟨#[119,119,119,119,45]⟩:ByteArray),true)) (.join (S:=Bool) (zt2 x) (.ite (x==29) (.leaf (.inl true)) (.leaf (.inl (x==30)))) fun s6=>.ite s6 (.leaf ((⟨#[118,45,45,45,112]⟩:ByteArray),true)) (.ite (x==31) (.leaf ((⟨#[45,118,45,45,112]⟩:ByteArray),true)) (.ite (x==32) (.leaf ((⟨#[97,45,45,45,115]⟩:ByteArray),true)) (.ite (x==33) (.leaf ((⟨#[45,97,45,45,115]⟩:ByteArray),true)) (.ite (x==34) (.leaf ((⟨#[45,119,45,45,45]⟩:ByteArray),true)) (.join (S:=Bool) (zt3 x) (.ite (x==35) (.leaf (.inl true)) (.leaf (.inl (x==37)))) fun s7=>.ite s7 (.leaf ((⟨#[45,45,45,45,45]⟩:ByteArray),true)) (.ite (x==36) (.leaf ((⟨#[45,45,45,45,113]⟩:ByteArray),true)) (.leaf ((⟨#[]⟩:ByteArray),false)))))))))))))))))))))
noncomputable def k27 (n:Nat):Con P_ Ty_:=ze (X:=Int) (R:=Yam) (pro:=[]) (y7y n) 69 y7z (fun x=>.two .no (.two (.two .no (.two (.two .no (.two .no (.two .no (.two .no (.two .no (.two .no (.join Bool (zsx x) ⟨[(4,.any),(11,.any)],[]⟩ .no (.two .no (.join Bool (zsy x) ⟨[(4,.any),(19,.any)],[]⟩ .no (.two .no (.two .no (.two .no (.two .no (.two .no (.two .no (.two .no (.two .no (.two .no (.join Bool (zsz x) ⟨[(4,.any),(32,.any)],[]⟩ .no (.two .no (.join Bool (zt0 x) ⟨[(4,.any),(35,.any)],[]⟩ .no (.two .no (.join Bool (zt1 x) ⟨[(4,.any),(38,.any)],[]⟩ .no (.two .no (.two .no (.two .no (.join Bool (zt2 x) ⟨[(4,.any),(46,.any)],[]⟩ .no (.two .no (.two .no (.two .no (.two .no (.two .no (.two .no (.two .no (.two .no (.two .no (.join Bool (zt3 x) ⟨[(4,.any),(57,.any)],[]⟩ .no .no))))))))))))))))))))))))))))))))))))) .no)) .no)) [.any] [] [] ⟨[(2,.any),(3,.any)],[]⟩ [] true (fun x=>[I_ x]) (fun x=>[]) (fun y=>([(2,.sc (.string y.1)),(3,B_ y.2)],[])) (fun y=>.tu [.sc (.string y.1),B_ y.2]) (fun y=>[]) (zxy n)
noncomputable def y9c (n:Nat):Cx P_ Ty_:=⟨[],[],[],[]⟩
abbrev y9d:List (List Nat):=[[1,2,4],[1,2,4,14],[4,5],[4,5]]
noncomputable def zus (x:Ybb) (p:Bool):EH Ty_:=([(1,I_ x.2),(2,.pt 2 [] 0 0),(4,.pt 4 [] 0 0),(14,B_ p)],[(2,.lit 4 [[.im 1 x.1.Sign_,.im 2 x.1.Regs_,.im 3 x.1.Slots_,.im 4 x.1.List_]]),(4,.lit 2 [[I_ (0:Int),I_ (0:Int)]])])
noncomputable def zzj (n:Nat) (x:Ybb):Pt P_ Ty_ [] (Ybh):=.join (S:=Bool) (zus x) (.ite (decide (x.2<(0:Int))) (.leaf (.inl true)) (.leaf (.inl (decide (x.2≥(x.1.Regs_.length:Int)))))) fun s1=>.ite s1 (.leaf (false,(0:Int),(0:Int))) (.bnd (idx x.1.Regs_ x.2) fun y1=>.leaf (true,y1.Kind_,y1.Param_))
noncomputable def k70 (n:Nat):Con P_ Ty_:=ze (X:=Ybb) (R:=Ybh) (pro:=[]) (y9c n) 96 y9d (fun x=>.two .no (.two (.join Bool (zus x) ⟨[(1,.any),(2,.ref 2),(4,.ref 4),(14,.any)],[(2,.any),(4,.any)]⟩ .no .no) .no)) [.ag [.im 1,.im 2,.im 3,.im 4],.any] [] [] ⟨[(4,.ref 100000),(5,.any)],[(100000,.any)]⟩ [] true (fun x=>[.ag [.im 1 x.1.Sign_,.im 2 x.1.Regs_,.im 3 x.1.Slots_,.im 4 x.1.List_],I_ x.2]) (fun x=>[]) (fun y=>([(4,.pt 100000 [] 0 0),(5,B_ y.1)],[(100000,.lit 2 [[I_ y.2.1,I_ y.2.2]])])) (fun y=>.tu [.ag [I_ y.2.1,I_ y.2.2],B_ y.1]) (fun y=>[]) (zzj n)
noncomputable def y94 (n:Nat):Cx P_ Ty_:=⟨[k70 n],[],[],[]⟩
abbrev y95:List (List Nat):=[[1,2,4,7],[1,2,4,7,14],[8],[1,7,9,10],[1,7,9,24],[8],[1,7,9,11],[1,7,9,11,12],[7,9,11,12,31],[7,9,11,12,31,32],[8],[7,9,11,12,31,35],[8],[7,9,11,12,31,40],[8],[7,9,11,12,31,43],[8],[7,9,11,31,49],[8],[7,9,11,57],[8],[8]]
noncomputable def zzg (n:Nat) (x:Ycb):Pt P_ Ty_ [] Bool:=.ite (x.2.1==45) (.leaf (x.2.2.1==0)) (.call (k70 n) (x.1,x.2.2.1) fun (y1:Ybh)=>.ite (!y1.1) (.leaf false) (.ite (x.2.1==110) (.leaf (y1.2.1==1)) (.ite (x.2.1==119) (.leaf (y1.2.1==2)) (.ite (x.2.1==118) (.leaf (y1.2.1==3)) (.ite (x.2.1==100) (.ite (y1.2.1==1) (.leaf true) (.leaf (y1.2.1==3))) (.ite (x.2.1==120) (.ite (y1.2.1==1) (.leaf true) (.leaf (y1.2.1==x.2.2.2.Kind_ && (y1.2.2==x.2.2.2.Param_ && true)))) (.ite (x.2.1==99) (.ite (y1.2.1==x.2.2.2.Kind_ && (y1.2.2==x.2.2.2.Param_ && true)) (.leaf true) (.ite (y1.2.1==1) (.leaf (x.2.2.2.Kind_==3)) (.leaf false))) (.leaf true))))))))
noncomputable def k66 (n:Nat):Con P_ Ty_:=ze (X:=Ycb) (R:=Bool) (pro:=[]) (y94 n) 82 y95 (fun x=>.no) [.ag [.im 1,.im 2,.im 3,.im 4],.any,.any,.ag [.any,.any]] [] [] ⟨[(8,.any)],[]⟩ [] true (fun x=>[.ag [.im 1 x.1.Sign_,.im 2 x.1.Regs_,.im 3 x.1.Slots_,.im 4 x.1.List_],.sc (.int .u8 x.2.1),I_ x.2.2.1,.ag [I_ x.2.2.2.Kind_,I_ x.2.2.2.Param_]]) (fun x=>[]) (fun y=>([(8,B_ y)],[])) (fun y=>B_ y) (fun y=>[]) (zzg n)
noncomputable def y96 (n:Nat):Cx P_ Ty_:=⟨[],[],[],[]⟩
abbrev y97:List (List Nat):=[[1,2,3],[6]]
noncomputable def zzh (n:Nat) (x:Ycc):Pt P_ Ty_ [] Bool:=.ite (x.2.1==0) (.leaf true) (.ite (x.2.1==1) (.bnd (idx x.1.Sign_ x.2.2) fun y1=>.leaf (y1.Kind_==2)) (.leaf false))
noncomputable def k67 (n:Nat):Con P_ Ty_:=ze (X:=Ycc) (R:=Bool) (pro:=[]) (y96 n) 83 y97 (fun x=>.no) [.ag [.im 1,.im 2,.im 3,.im 4],.any,.any] [] [] ⟨[(6,.any)],[]⟩ [] true (fun x=>[.ag [.im 1 x.1.Sign_,.im 2 x.1.Regs_,.im 3 x.1.Slots_,.im 4 x.1.List_],I_ x.2.1,I_ x.2.2]) (fun x=>[]) (fun y=>([(6,B_ y)],[])) (fun y=>B_ y) (fun y=>[]) (zzh n)
noncomputable def y8u (n:Nat):Cx P_ Ty_:=⟨[k27 n,k58 n,k66 n,k67 n],[],[],[]⟩
abbrev y8v:List (List Nat):=[[2,3],[2,3,5,6],[2,3,5,32],[4],[2,3,5,7],[2,3,5,7,36],[2,3,5,7,44],[4],[2,3,5,7],[2,3,5,7,53],[4],[2,3,5,7,81],[4],[2,3,5,8],[2,3,5,8,90],[2,3,5,8],[2,3,8,98],[2,3,8,98,99],[4],[2,3,8,98,109],[4],[2,3,8,98,117],[4],[2,3,141],[4],[4]]
noncomputable def zu7 (x:Yae) (p:Yam):EH Ty_:=([(2,.pt 2 [] 0 0),(3,.pt 3 [] 0 0),(5,.sc (.string p.1)),(32,B_ p.2)],[(2,.lit 4 [[.im 1 x.1.Sign_,.im 2 x.1.Regs_,.im 3 x.1.Slots_,.im 4 x.1.List_]]),(3,.lit 7 [[I_ x.2.Op_,I_ x.2.D_,I_ x.2.A_,I_ x.2.B_,I_ x.2.C_,I_ x.2.N_,.sc (.int .u32 x.2.Bits_)]])])
noncomputable def zu8 (x:Yae) (p:Yax):EH Ty_:=([(2,.pt 2 [] 0 0),(3,.pt 3 [] 0 0),(5,.sc (.string p.1)),(7,.pt 7 [] 0 0)],[(2,.lit 4 [[.im 1 x.1.Sign_,.im 2 x.1.Regs_,.im 3 x.1.Slots_,.im 4 x.1.List_]]),(3,.lit 7 [[I_ x.2.Op_,I_ x.2.D_,I_ x.2.A_,I_ x.2.B_,I_ x.2.C_,I_ x.2.N_,.sc (.int .u32 x.2.Bits_)]]),(7,.lit 2 [[I_ p.2.1,I_ p.2.2]])])
noncomputable def zu9 (x:Yae) (p:Ybp):EH Ty_:=([(2,.pt 2 [] 0 0),(3,.pt 3 [] 0 0),(5,.sc (.string p.1)),(7,.pt 7 [] 0 0),(81,B_ p.2.1)],[(2,.lit 4 [[.im 1 x.1.Sign_,.im 2 x.1.Regs_,.im 3 x.1.Slots_,.im 4 x.1.List_]]),(3,.lit 7 [[I_ x.2.Op_,I_ x.2.D_,I_ x.2.A_,I_ x.2.B_,I_ x.2.C_,I_ x.2.N_,.sc (.int .u32 x.2.Bits_)]]),(7,.lit 2 [[I_ p.2.2.1,I_ p.2.2.2]])])
noncomputable def zua (x:Yae) (p:Ybp):EH Ty_:=([(2,.pt 2 [] 0 0),(3,.pt 3 [] 0 0),(5,.sc (.string p.1)),(8,.pt 8 [] 0 0),(90,B_ p.2.1)],[(2,.lit 4 [[.im 1 x.1.Sign_,.im 2 x.1.Regs_,.im 3 x.1.Slots_,.im 4 x.1.List_]]),(3,.lit 7 [[I_ x.2.Op_,I_ x.2.D_,I_ x.2.A_,I_ x.2.B_,I_ x.2.C_,I_ x.2.N_,.sc (.int .u32 x.2.Bits_)]]),(8,.lit 2 [[I_ p.2.2.1,I_ p.2.2.2]])])
noncomputable def zub (x:Yae) (p:Yax):EH Ty_:=([(2,.pt 2 [] 0 0),(3,.pt 3 [] 0 0),(5,.sc (.string p.1)),(8,.pt 8 [] 0 0)],[(2,.lit 4 [[.im 1 x.1.Sign_,.im 2 x.1.Regs_,.im 3 x.1.Slots_,.im 4 x.1.List_]]),(3,.lit 7 [[I_ x.2.Op_,I_ x.2.D_,I_ x.2.A_,I_ x.2.B_,I_ x.2.C_,I_ x.2.N_,.sc (.int .u32 x.2.Bits_)]]),(8,.lit 2 [[I_ p.2.1,I_ p.2.2]])])
noncomputable def zz6 (n:Nat) (x:Yae):Pt P_ Ty_ [] Bool:=.call (k27 n) x.2.Op_ fun (y1:Yam)=>.join (S:=Yam) (zu7 x) (.ite (!y1.2) (.leaf (.inl (y1.1,true))) (.ite (x.2.Op_ != (1:Int)) (.ite (x.2.Bits_ != (0:Int)) (.leaf (.inl (y1.1,true))) (.call (k58 n) x.2.Bits_ fun (y2:Bool)=>.leaf (.inl (y1.1,(!y2))))) (.call (k58 n) x.2.Bits_ fun (y3:Bool)=>.leaf (.inl (y1.1,(!y3)))))) fun s1=>.ite s1.2 (.leaf false) (.join (S:=Yax) (zu8 x) (.need (0≤(0:Int)∧(0:Int)<(s1.1.size:Int)) (.ite ((za s1.1 (0:Int)) != (45:Int)) (.need (0≤(0:Int)∧(0:Int)<(s1.1.size:Int)) (.call (k66 n) (x.1,(za s1.1 (0:Int)),x.2.D_,(⟨(0:Int),(0:Int)⟩:Xb)) fun (y4:Bool)=>.ite (!y4) (.leaf (.inr false)) (.bnd (idx x.1.Regs_ x.2.D_) fun y5=>.leaf (.inl (s1.1,y5.Kind_,y5.Param_))))) (.ite (x.2.D_ != (0:Int)) (.leaf (.inr false)) (.leaf (.inl (s1.1,(0:Int),(0:Int))))))) fun s2=>.join (S:=Ybp) (zu9 x) (.need (0≤(1:Int)∧(1:Int)<(s2.1.size:Int)) (.call (k66 n) (x.1,(za s2.1 (1:Int)),x.2.A_,(⟨s2.2.1,s2.2.2⟩:Xb)) fun (y6:Bool)=>.ite (!y6) (.leaf (.inl (s2.1,true,s2.2.1,s2.2.2))) (.need (0≤(2:Int)∧(2:Int)<(s2.1.size:Int)) (.call (k66 n) (x.1,(za s2.1 (2:Int)),x.2.B_,(⟨s2.2.1,s2.2.2⟩:Xb)) fun (y7:Bool)=>.ite (!y7) (.leaf (.inl (s2.1,true,s2.2.1,s2.2.2))) (.need (0≤(3:Int)∧(3:Int)<(s2.1.size:Int)) (.call (k66 n) (x.1,(za s2.1 (3:Int)),x.2.C_,(⟨s2.2.1,s2.2.2⟩:Xb)) fun (y8:Bool)=>.leaf (.inl (s2.1,(!y8),s2.2.1,s2.2.2)))))))) fun s3=>.ite s3.2.1 (.leaf false) (.join (S:=Yax) (zub x) (.join (S:=Ybp) (zua x) (.need (0≤(0:Int)∧(0:Int)<(s3.1.size:Int)) (.ite ((za s3.1 (0:Int))==45) (.need (0≤(1:Int)∧(1:Int)<(s3.1.size:Int)) (.leaf (.inl (s3.1,((za s3.1 (1:Int)) != (45:Int)),s3.2.2.1,s3.2.2.2)))) (.leaf (.inl (s3.1,false,s3.2.2.1,s3.2.2.2))))) fun s4=>.ite s4.2.1 (.bnd (idx x.1.Regs_ x.2.A_) fun y9=>.leaf (.inl (s4.1,y9.Kind_,y9.Param_))) (.leaf (.inl (s4.1,s4.2.2.1,s4.2.2.2)))) fun s5=>.need (0≤(4:Int)∧(4:Int)<(s5.1.size:Int)) (.ite ((za s5.1 (4:Int))==105) (.ite (decide (x.2.N_≥(0:Int))) (.leaf (decide (x.2.N_≤(2147483647:Int)))) (.leaf false)) (.ite ((za s5.1 (4:Int))==112) (.call (k67 n) (x.1,x.2.N_,s5.2.2) fun (y10:Bool)=>.leaf y10) (.ite ((za s5.1 (4:Int))==115) (.ite (decide (x.2.N_≥(0:Int))) (.ite (decide (x.2.N_<(x.1.Slots_.length:Int))) (.bnd (idx x.1.Slots_ x.2.N_) fun y11=>.leaf (y11.Type_.Kind_==s5.2.1 && (y11.Type_.Param_==s5.2.2 && true))) (.leaf false)) (.leaf false)) (.ite ((za s5.1 (4:Int))==113) (.ite (decide (x.2.N_≥(0:Int))) (.leaf (decide (x.2.N_<(x.1.Sign_.length:Int)))) (.leaf false)) (.leaf (x.2.N_==0))))))))
noncomputable def k59 (n:Nat):Con P_ Ty_:=ze (X:=Yae) (R:=Bool) (pro:=[]) (y8u n) 66 y8v (fun x=>.two .no (.two .no (.two (.join (Yam) (zu7 x) ⟨[(2,.ref 2),(3,.ref 3),(5,.any),(32,.any)],[(2,.any),(3,.any)]⟩ .no .no) (.two .no (.join (Yax) (zu8 x) ⟨[(2,.ref 2),(3,.ref 3),(5,.any),(7,.ref 7)],[(2,.any),(3,.any),(7,.any)]⟩ .no (.two (.join (Ybp) (zu9 x) ⟨[(2,.ref 2),(3,.ref 3),(5,.any),(7,.ref 7),(81,.any)],[(2,.any),(3,.any),(7,.any)]⟩ .no .no) (.two .no (.join (Yax) (zub x) ⟨[(2,.ref 2),(3,.ref 3),(5,.any),(8,.ref 8)],[(2,.any),(3,.any),(8,.any)]⟩ (.join (Ybp) (zua x) ⟨[(2,.ref 2),(3,.ref 3),(5,.any),(8,.ref 8),(90,.any)],[(2,.any),(3,.any),(8,.any)]⟩ .no .no) .no)))))))) [.ag [.im 1,.im 2,.im 3,.im 4],.ag [.any,.any,.any,.any,.any,.any,.any]] [] [] ⟨[(4,.any)],[]⟩ [] true (fun x=>[.ag [.im 1 x.1.Sign_,.im 2 x.1.Regs_,.im 3 x.1.Slots_,.im 4 x.1.List_],.ag [I_ x.2.Op_,I_ x.2.D_,I_ x.2.A_,I_ x.2.B_,I_ x.2.C_,I_ x.2.N_,.sc (.int .u32 x.2.Bits_)]]) (fun x=>[]) (fun y=>([(4,B_ y)],[])) (fun y=>B_ y) (fun y=>[]) (zz6 n)
noncomputable def y7u (n:Nat):Cx P_ Ty_:=⟨[],[],[],[]⟩
abbrev y7v:List (List Nat):=[[0],[2]]
noncomputable def zxs (n:Nat) (x:Int):Pt P_ Ty_ [] Bool:=.ite (decide (x≥(3:Int))) (.leaf (decide (x≤(15:Int)))) (.leaf false)
noncomputable def k14 (n:Nat):Con P_ Ty_:=ze (X:=Int) (R:=Bool) (pro:=[]) (y7u n) 84 y7v (fun x=>.no) [.any] [] [] ⟨[(2,.any)],[]⟩ [] true (fun x=>[I_ x]) (fun x=>[]) (fun y=>([(2,B_ y)],[])) (fun y=>B_ y) (fun y=>[]) (zxs n)
noncomputable def y8w (n:Nat):Cx P_ Ty_:=⟨[k14 n],[],[],[]⟩
abbrev y8x:List (List Nat):=[[2,3],[2,3,5],[2,3,5,6],[2,3,5,6],[2,3,5,6],[2,3,5,6],[2,5],[2,3,5,21],[2,3,5,21],[2,5],[2,5,47],[4],[4]]
noncomputable def zuc (x:Yae) (p:Bool):EH Ty_:=([(2,.pt 2 [] 0 0),(3,.pt 3 [] 0 0),(5,I_ (-1:Int)),(6,B_ p)],[(2,.lit 4 [[.im 1 x.1.Sign_,.im 2 x.1.Regs_,.im 3 x.1.Slots_,.im 4 x.1.List_]]),(3,.lit 7 [[I_ x.2.Op_,I_ x.2.D_,I_ x.2.A_,I_ x.2.B_,I_ x.2.C_,I_ x.2.N_,.sc (.int .u32 x.2.Bits_)]])])
noncomputable def zud (x:Yae) (p:Bool):EH Ty_:=([(2,.pt 2 [] 0 0),(3,.pt 3 [] 0 0),(5,I_ (-1:Int)),(21,B_ p)],[(2,.lit 4 [[.im 1 x.1.Sign_,.im 2 x.1.Regs_,.im 3 x.1.Slots_,.im 4 x.1.List_]]),(3,.lit 7 [[I_ x.2.Op_,I_ x.2.D_,I_ x.2.A_,I_ x.2.B_,I_ x.2.C_,I_ x.2.N_,.sc (.int .u32 x.2.Bits_)]])])
noncomputable def zue (x:Yae) (p:Int):EH Ty_:=([(2,.pt 2 [] 0 0),(5,I_ p)],[(2,.lit 4 [[.im 1 x.1.Sign_,.im 2 x.1.Regs_,.im 3 x.1.Slots_,.im 4 x.1.List_]])])
noncomputable def zuf (x:Yae) (p:Yag):EH Ty_:=([(2,.pt 2 [] 0 0),(5,I_ p.1),(47,B_ p.2)],[(2,.lit 4 [[.im 1 x.1.Sign_,.im 2 x.1.Regs_,.im 3 x.1.Slots_,.im 4 x.1.List_]])])
noncomputable def zz7 (n:Nat) (x:Yae):Pt P_ Ty_ [] Int:=.join (S:=Int) (zue x) (.join (S:=Bool) (zuc x) (.call (k14 n) x.2.Op_ fun (y1:Bool)=>.ite y1 (.leaf (.inl true)) (.ite (x.2.Op_==29) (.leaf (.inl true)) (.ite (x.2.Op_==30) (.leaf (.inl true)) (.leaf (.inl (x.2.Op_==32)))))) fun s1=>.ite s1 (.leaf (.inl x.2.D_)) (.join (S:=Bool) (zud x) (.ite (x.2.Op_==31) (.leaf (.inl true)) (.leaf (.inl (x.2.Op_==33)))) fun s2=>.ite s2 (.leaf (.inl x.2.A_)) (.leaf (.inl (-1:Int))))) fun s3=>.join (S:=Yag) (zuf x) (.ite (decide (s3<(0:Int))) (.leaf (.inl (s3,true))) (.ite (decide (s3≥(x.1.Regs_.length:Int))) (.leaf (.inl (s3,true))) (.bnd (idx x.1.Regs_ s3) fun y2=>.leaf (.inl (s3,(y2.Kind_ != (3:Int))))))) fun s4=>.ite s4.2 (.leaf (-1:Int)) (.bnd (idx x.1.Regs_ s4.1) fun y3=>.leaf y3.Param_)
noncomputable def k60 (n:Nat):Con P_ Ty_:=ze (X:=Yae) (R:=Int) (pro:=[]) (y8w n) 67 y8x (fun x=>.two .no (.two .no (.join Int (zue x) ⟨[(2,.ref 2),(5,.any)],[(2,.any)]⟩ (.two (.join Bool (zuc x) ⟨[(2,.ref 2),(3,.ref 3),(5,.any),(6,.any)],[(2,.any),(3,.any)]⟩ .no (.two .no (.join Bool (zud x) ⟨[(2,.ref 2),(3,.ref 3),(5,.any),(21,.any)],[(2,.any),(3,.any)]⟩ .no .no))) .no) (.two (.join (Yag) (zuf x) ⟨[(2,.ref 2),(5,.any),(47,.any)],[(2,.any)]⟩ .no .no) .no)))) [.ag [.im 1,.im 2,.im 3,.im 4],.ag [.any,.any,.any,.any,.any,.any,.any]] [] [] ⟨[(4,.any)],[]⟩ [] true (fun x=>[.ag [.im 1 x.1.Sign_,.im 2 x.1.Regs_,.im 3 x.1.Slots_,.im 4 x.1.List_],.ag [I_ x.2.Op_,I_ x.2.D_,I_ x.2.A_,I_ x.2.B_,I_ x.2.C_,I_ x.2.N_,.sc (.int .u32 x.2.Bits_)]]) (fun x=>[]) (fun y=>([(4,I_ y)],[])) (fun y=>I_ y) (fun y=>[]) (zz7 n)
noncomputable def zxm (n:Nat):Cx P_ Ty_:=⟨[k27 n],[(20,false,9),(38,false,9),(39,false,9)],[],[]⟩
abbrev zxn:List (List Nat):=[[1],[1,3],[1,3,4,5],[3,4,5,6],[3,4,5,6,7],[3,4,5,6,7,25],[3,4,5,6,7,32],[3,4,5,6,7],[3,4,5,6,7],[2]]
noncomputable def zrk (x:Xd) (v1:Yam) (q1:Yab) (p:Bool):EH Ty_:=([(3,.sw 600001 []),(4,.sc (.string v1.1)),(5,B_ v1.2),(6,.sw 20 []),(7,I_ q1.1),(25,B_ p)],[(600001,.typ false 9 q1.2),(20,.typ false 9 ([x.A_,x.B_,x.C_]:List Int))])
noncomputable def zrl (n:Nat) (x:Xd) (v1:Yam) (q1:Yab):Pt P_ Ty_ [] (Bo (Yab) (Yab) Empty):=.join (S:=Bool) (zrk x v1 q1) (.ite v1.2 (.leaf (.inl (decide (q1.1<(3:Int))))) (.leaf (.inl false))) fun s1=>.ite s1 (.need (0≤(IntKind.i64.wrap (q1.1+(1:Int)))∧(IntKind.i64.wrap (q1.1+(1:Int)))<(v1.1.size:Int)) (.ite ((za v1.1 (IntKind.i64.wrap (q1.1+(1:Int)))) != (45:Int)) (.need (0≤q1.1∧q1.1<(([x.A_,x.B_,x.C_]:List Int).length:Int)) (.bnd (([x.A_,x.B_,x.C_]:List Int)[q1.1.toNat]?) fun y2=>.need ((q1.2.length+([y2]:List Int).length) * 8≤140737488355328) (.leaf (.go ((IntKind.i64.wrap (q1.1+(1:Int))),(q1.2++([y2]:List Int))))))) (.leaf (.go ((IntKind.i64.wrap (q1.1+(1:Int))),q1.2))))) (.leaf (.out (q1.1,q1.2)))
noncomputable def zrj (n:Nat) (x:Xd) (v1:Yam):LCon P_ Ty_ []:=lcon (X:=Yab) (Y:=Yab) (Z:=Empty) (zxm n) (subC [1,1,1,1,0,1,0,0] (fnC P_ 68 zxn)) (fun q1=>.two (.join Bool (zrk x v1 q1) ⟨[(3,.ref 600001),(4,.any),(5,.any),(6,.ref 20),(7,.any),(25,.any)],[(600001,.any),(20,.any)]⟩ .no .no) .no) 0 false ⟨[(3,.own 600001 false 9),(4,.any),(5,.any),(6,.ref 20),(7,.any)],[(600001,.any),(20,.any)]⟩ ⟨[(3,.ref 600001),(4,.any),(5,.any),(6,.ref 20),(7,.any),(25,.any)],[(600001,.any),(20,.any)]⟩ ⟨[],[]⟩ (fun q1=>([(3,.sw 600001 []),(4,.sc (.string v1.1)),(5,B_ v1.2),(6,.sw 20 []),(7,I_ q1.1)],[(600001,.typ false 9 q1.2),(20,.typ false 9 ([x.A_,x.B_,x.C_]:List Int))])) (fun p=>([(3,.sw 600001 []),(4,.sc (.string v1.1)),(5,B_ v1.2),(6,.sw 20 []),(7,I_ p.1),(25,B_ false)],[(600001,.typ false 9 p.2),(20,.typ false 9 ([x.A_,x.B_,x.C_]:List Int))])) (fun p=>nomatch p) n (zrl n x v1)
noncomputable def zxo (n:Nat) (x:Xd):Pt P_ Ty_ [] (List Int):=.call (k27 n) x.Op_ fun (y1:Yam)=>.loop (V:=Yam) (zrj n x) (y1.1,y1.2) ((0:Int),([]:List Int)) fun (v1:Yam) (y3:Yab)=>.leaf y3.2
noncomputable def k10 (n:Nat):Con P_ Ty_:=ze (X:=Xd) (R:=(List Int)) (pro:=[]) (zxm n) 68 zxn (fun x=>.two .no (.two .no (.two .no (.two .no (.two (.two .no (.two (.loop (Yam) (zrj n x) false ⟨[(3,.own 600001 false 9),(4,.any),(5,.any),(6,.ref 20),(7,.any)],[(600001,.any),(20,.any)]⟩) .no)) .no))))) [.ag [.any,.any,.any,.any,.any,.any,.any]] [] [100000] ⟨[(2,.ref 100000)],[(100000,.any)]⟩ [100000] true (fun x=>[.ag [I_ x.Op_,I_ x.D_,I_ x.A_,I_ x.B_,I_ x.C_,I_ x.N_,.sc (.int .u32 x.Bits_)]]) (fun x=>[]) (fun y=>([(2,.sw 100000 [])],[(100000,.typ false 9 y)])) (fun y=>.sw 100000 []) (fun y=>[(100000,.typ false 9 y)]) (zxo n)
noncomputable def zyh (n:Nat):Cx P_ Ty_:=⟨[k59 n,k60 n,k10 n],[],[],[]⟩
abbrev zyi:List (List Nat):=[[2,3,4,5],[2,3,4,5,9],[2,3,5,9,49],[8],[2,3,5,9,10],[2,3,5,9,10,11],[2,3,5,9,10,11,55],[2,3,5,9,10,11,65],[8],[2,3,5,9,10,11],[3,9,67],[3,9,67,68],[3,9,67,68],[8],[3,9,67,74],[8],[9,83],[8],[8]]
noncomputable def zts (x:Yay) (p:Bool):EH Ty_:=([(2,.im 8 x.2.2.1),(3,.im 11 x.2.2.2),(4,.pt 4 [] 0 0),(5,.pt 5 [] 0 0),(9,B_ p)],[(4,.lit 4 [[.im 1 x.1.Sign_,.im 2 x.1.Regs_,.im 3 x.1.Slots_,.im 4 x.1.List_]]),(5,.lit 7 [[I_ x.2.1.Op_,I_ x.2.1.D_,I_ x.2.1.A_,I_ x.2.1.B_,I_ x.2.1.C_,I_ x.2.1.N_,.sc (.int .u32 x.2.1.Bits_)]])])
noncomputable def ztt (x:Yay) (p:Ybq):EH Ty_:=([(2,.im 8 x.2.2.1),(3,.im 11 x.2.2.2),(5,.pt 5 [] 0 0),(9,B_ p.1),(49,B_ p.2)],[(5,.lit 7 [[I_ x.2.1.Op_,I_ x.2.1.D_,I_ x.2.1.A_,I_ x.2.1.B_,I_ x.2.1.C_,I_ x.2.1.N_,.sc (.int .u32 x.2.1.Bits_)]])])
noncomputable def ztu (x:Yay) (p:Ybq):EH Ty_:=([(3,.im 11 x.2.2.2),(9,B_ p.1),(67,I_ x.2.1.Op_),(68,B_ p.2)],[])
noncomputable def ztv (n:Nat) (x:Yay) (v1:Ybi) (q1:Int):Pt P_ Ty_ [] (Bo Int Int Unit):=.ite (decide (q1<(v1.2.length:Int))) (.need (0≤q1∧q1<(v1.2.length:Int)) (.bnd (v1.2[q1.toNat]?) fun y6=>.bnd (idx x.2.2.1 y6) fun y7=>.ite (!y7) (.leaf (.ret ())) (.leaf (.go (IntKind.i64.wrap (q1+(1:Int))))))) (.leaf (.out q1))
noncomputable def ztr (n:Nat) (x:Yay) (v1:Ybi):LCon P_ Ty_ []:=lcon (X:=Int) (Y:=Int) (Z:=Unit) (zyh n) (subC [1,1,1,1,0,1,0,0] (fnC P_ 37 zyi)) (fun q1=>.no) 0 true ⟨[(2,.im 8),(3,.im 11),(5,.ref 5),(9,.any),(10,.ref 51),(11,.any)],[(5,.any),(51,.any)]⟩ ⟨[(2,.im 8),(3,.im 11),(5,.ref 5),(9,.any),(10,.ref 51),(11,.any),(55,.any)],[(5,.any),(51,.any)]⟩ ⟨[(8,.any)],[]⟩ (fun q1=>([(2,.im 8 x.2.2.1),(3,.im 11 x.2.2.2),(5,.pt 5 [] 0 0),(9,B_ v1.1),(10,.sw 51 []),(11,I_ q1)],[(5,.lit 7 [[I_ x.2.1.Op_,I_ x.2.1.D_,I_ x.2.1.A_,I_ x.2.1.B_,I_ x.2.1.C_,I_ x.2.1.N_,.sc (.int .u32 x.2.1.Bits_)]]),(51,.typ false 9 v1.2)])) (fun p=>([(2,.im 8 x.2.2.1),(3,.im 11 x.2.2.2),(5,.pt 5 [] 0 0),(9,B_ v1.1),(10,.sw 51 []),(11,I_ p),(55,B_ false)],[(5,.lit 7 [[I_ x.2.1.Op_,I_ x.2.1.D_,I_ x.2.1.A_,I_ x.2.1.B_,I_ x.2.1.C_,I_ x.2.1.N_,.sc (.int .u32 x.2.1.Bits_)]]),(51,.typ false 9 v1.2)])) (fun p=>([(8,B_ false)],[])) n (ztv n x v1)
noncomputable def zyj (n:Nat) (x:Yay):Pt P_ Ty_ [] Bool:=.join (S:=Bool) (zts x) (.ite (decide ((x.2.2.2.length:Int) > (0:Int))) (.bnd (idx x.2.2.2 (IntKind.i64.wrap ((x.2.2.2.length:Int) - (1:Int)))) fun y1=>.leaf (.inl (y1.Op_==36))) (.leaf (.inl false))) fun s1=>.join (S:=Ybq) (ztt x) (.call (k59 n) (x.1,x.2.1) fun (y2:Bool)=>.ite (!y2) (.leaf (.inl (s1,true))) (.ite s1 (.ite (x.2.1.Op_ != (37:Int)) (.call (k60 n) (x.1,x.2.1) fun (y3:Int)=>.bnd (idx x.2.2.2 (IntKind.i64.wrap ((x.2.2.2.length:Int) - (1:Int)))) fun y4=>.leaf (.inl (s1,(y3 != y4.Param_)))) (.leaf (.inl (s1,false)))) (.leaf (.inl (s1,false))))) fun s2=>.ite s2.2 (.leaf false) (.call (k10 n) x.2.1 fun (y5:(List Int))=>.loopR (V:=Ybi) (ztr n x) (s2.1,y5) (0:Int) (fun (v1:Ybi) (y8:Int)=>.join (S:=Ybq) (ztu x) (.ite (x.2.1.Op_==34) (.leaf (.inl (v1.1,true))) (.leaf (.inl (v1.1,(x.2.1.Op_==36))))) fun s3=>.ite s3.2 (.leaf (decide ((x.2.2.2.length:Int)<(64:Int)))) (.ite (x.2.1.Op_==35) (.ite (decide ((x.2.2.2.length:Int) > (0:Int))) (.leaf (!s3.1)) (.leaf false)) (.ite (x.2.1.Op_==37) (.leaf s3.1) (.leaf true)))) fun (v1:Ybi) (z1:Unit)=>.leaf false)
noncomputable def k41 (n:Nat):Con P_ Ty_:=ze (X:=Yay) (R:=Bool) (pro:=[]) (zyh n) 37 zyi (fun x=>.two .no (.join Bool (zts x) ⟨[(2,.im 8),(3,.im 11),(4,.ref 4),(5,.ref 5),(9,.any)],[(4,.any),(5,.any)]⟩ .no (.two (.join (Ybq) (ztt x) ⟨[(2,.im 8),(3,.im 11),(5,.ref 5),(9,.any),(49,.any)],[(5,.any)]⟩ .no .no) (.two .no (.two (.two .no (.two (.loop (Ybi) (ztr n x) true ⟨[(2,.im 8),(3,.im 11),(5,.ref 5),(9,.any),(10,.ref 51),(11,.any)],[(5,.any),(51,.any)]⟩) .no)) (.two (.two .no (.two (.join (Ybq) (ztu x) ⟨[(3,.im 11),(9,.any),(67,.any),(68,.any)],[]⟩ .no .no) .no)) .no)))))) [.ag [.im 1,.im 2,.im 3,.im 4],.ag [.any,.any,.any,.any,.any,.any,.any],.im 8,.im 11] [] [] ⟨[(8,.any)],[]⟩ [] true (fun x=>[.ag [.im 1 x.1.Sign_,.im 2 x.1.Regs_,.im 3 x.1.Slots_,.im 4 x.1.List_],.ag [I_ x.2.1.Op_,I_ x.2.1.D_,I_ x.2.1.A_,I_ x.2.1.B_,I_ x.2.1.C_,I_ x.2.1.N_,.sc (.int .u32 x.2.1.Bits_)],.im 8 x.2.2.1,.im 11 x.2.2.2]) (fun x=>[]) (fun y=>([(8,B_ y)],[])) (fun y=>B_ y) (fun y=>[]) (zyj n)
noncomputable def y8g (n:Nat):Cx P_ Ty_:=⟨[],[(6,false,8)],[],[]⟩
abbrev y8h:List (List Nat):=[[0],[0,3],[2]]
noncomputable def zyk (n:Nat) (x:(List Bool)):Pt P_ Ty_ [] (List Bool):=.need (x.length * 1≤140737488355328) (.leaf x)
noncomputable def k42 (n:Nat):Con P_ Ty_:=ze (X:=(List Bool)) (R:=(List Bool)) (pro:=[]) (y8g n) 38 y8h (fun x=>.no) [.im 8] [] [100000] ⟨[(2,.ref 100000)],[(100000,.any)]⟩ [100000] true (fun x=>[.im 8 x]) (fun x=>[]) (fun y=>([(2,.sw 100000 [])],[(100000,.typ false 8 y)])) (fun y=>.sw 100000 []) (fun y=>[(100000,.typ false 8 y)]) (zyk n)
noncomputable def y7q (n:Nat):Cx P_ Ty_:=⟨[k27 n],[],[],[]⟩
abbrev y7r:List (List Nat):=[[1],[3,4],[2]]
noncomputable def zxq (n:Nat) (x:Xd):Pt P_ Ty_ [] Bool:=.call (k27 n) x.Op_ fun (y1:Yam)=>.ite y1.2 (.need (0≤(0:Int)∧(0:Int)<(y1.1.size:Int)) (.leaf ((za y1.1 (0:Int)) != (45:Int)))) (.leaf false)
noncomputable def k12 (n:Nat):Con P_ Ty_:=ze (X:=Xd) (R:=Bool) (pro:=[]) (y7q n) 39 y7r (fun x=>.no) [.ag [.any,.any,.any,.any,.any,.any,.any]] [] [] ⟨[(2,.any)],[]⟩ [] true (fun x=>[.ag [I_ x.Op_,I_ x.D_,I_ x.A_,I_ x.B_,I_ x.C_,I_ x.N_,.sc (.int .u32 x.Bits_)]]) (fun x=>[]) (fun y=>([(2,B_ y)],[])) (fun y=>B_ y) (fun y=>[]) (zxq n)
noncomputable def zf3 (n:Nat):Cx P_ Ty_:=⟨[k38 n,k39 n,k40 n,k41 n,k42 n,k12 n],[(75,false,8),(76,false,8),(113,true,11),(114,true,11)],[113],[]⟩
abbrev zf4:List (List Nat):=[[1],[1,4],[1,4,15],[2,3],[1,19],[2,3],[1,30],[2,3],[1,5],[1,5,39],[1,5,50],[2,3],[1,5],[1,6],[1,6,55],[1,6,66],[2,3],[1,6],[1,7],[1,7,8],[1,7,8,71],[1,7,8],[1,7,8],[1,7,9],[1,7,9,10],[1,7,9,10,81],[1,7,9,10,11],[1,7,9,10,11,94],[2,3],[1,7,9,10,11,96],[1,7,9,10],[1,7,9,10,11,115],[1,7,9,10],[1,7,9,10],[1,7,9,10,11,132],[1,7,9,10],[1,7,9,10,11,141],[1,7,9,10],[1,7,9,10],[1,150],[2,3],[2,3]]
noncomputable def zsk (x:Xe) (p:Bool):EH Ty_:=([(1,.pt 1 [] 0 0),(19,B_ p)],[(1,.lit 4 [[.im 1 x.Sign_,.im 2 x.Regs_,.im 3 x.Slots_,.im 4 x.List_]])])
noncomputable def zsl (x:Xe) (v4:Unit) (q4:Yaz) (p:Ycl):EH Ty_:=([(1,.pt 1 [] 0 0),(7,.sw 600002 []),(9,.sw 600003 []),(10,I_ q4.1),(11,.pt 11 [] 0 0),(96,B_ p.1)],[(1,.lit 4 [[.im 1 x.Sign_,.im 2 x.Regs_,.im 3 x.Slots_,.im 4 x.List_]]),(600002,.typ false 8 q4.2.1),(600003,.typ true 11 q4.2.2),(11,.lit 7 [[I_ p.2.1,I_ p.2.2.1,I_ p.2.2.2.1,I_ p.2.2.2.2.1,I_ p.2.2.2.2.2.1,I_ p.2.2.2.2.2.2.1,.sc (.int .u32 p.2.2.2.2.2.2.2)]])])
noncomputable def zsm (n:Nat) (x:Xe) (v1:Unit) (q1:Int):Pt P_ Ty_ [] (Bo Int Int Unit):=.ite (decide (q1<(x.Regs_.length:Int))) (.bnd (idx x.Regs_ q1) fun y2=>.call (k39 n) (y2,x.Sign_) fun (y3:Bool)=>.ite (!y3) (.leaf (.ret ())) (.leaf (.go (IntKind.i64.wrap (q1+(1:Int)))))) (.leaf (.out q1))
noncomputable def zsg (n:Nat) (x:Xe) (v1:Unit):LCon P_ Ty_ []:=lcon (X:=Int) (Y:=Int) (Z:=Unit) (zf3 n) (subC [1,1,1,0,1,0,0] (fnC P_ 15 zf4)) (fun q1=>.no) 1 true ⟨[(1,.ref 1),(5,.any)],[(1,.any)]⟩ ⟨[(1,.ref 1),(5,.any),(39,.any)],[(1,.any)]⟩ ⟨[(2,.any),(3,.any)],[]⟩ (fun q1=>([(1,.pt 1 [] 0 0),(5,I_ q1)],[(1,.lit 4 [[.im 1 x.Sign_,.im 2 x.Regs_,.im 3 x.Slots_,.im 4 x.List_]])])) (fun p=>([(1,.pt 1 [] 0 0),(5,I_ p),(39,B_ false)],[(1,.lit 4 [[.im 1 x.Sign_,.im 2 x.Regs_,.im 3 x.Slots_,.im 4 x.List_]])])) (fun p=>([(2,I_ (160:Int)),(3,I_ (-1:Int))],[])) n (zsm n x v1)
noncomputable def zsn (n:Nat) (x:Xe) (v2:Unit) (q2:Int):Pt P_ Ty_ [] (Bo Int Int Unit):=.ite (decide (q2<(x.Slots_.length:Int))) (.bnd (idx x.Slots_ q2) fun y5=>.call (k40 n) (y5,x.Sign_) fun (y6:Bool)=>.ite (!y6) (.leaf (.ret ())) (.leaf (.go (IntKind.i64.wrap (q2+(1:Int)))))) (.leaf (.out q2))
noncomputable def zsh (n:Nat) (x:Xe) (v2:Unit):LCon P_ Ty_ []:=lcon (X:=Int) (Y:=Int) (Z:=Unit) (zf3 n) (subC [1,1,1,1,0,1,0,0] (fnC P_ 15 zf4)) (fun q2=>.no) 3 true ⟨[(1,.ref 1),(6,.any)],[(1,.any)]⟩ ⟨[(1,.ref 1),(6,.any),(55,.any)],[(1,.any)]⟩ ⟨[(2,.any),(3,.any)],[]⟩ (fun q2=>([(1,.pt 1 [] 0 0),(6,I_ q2)],[(1,.lit 4 [[.im 1 x.Sign_,.im 2 x.Regs_,.im 3 x.Slots_,.im 4 x.List_]])])) (fun p=>([(1,.pt 1 [] 0 0),(6,I_ p),(55,B_ false)],[(1,.lit 4 [[.im 1 x.Sign_,.im 2 x.Regs_,.im 3 x.Slots_,.im 4 x.List_]])])) (fun p=>([(2,I_ (160:Int)),(3,I_ (-1:Int))],[])) n (zsn n x v2)
noncomputable def zso (n:Nat) (x:Xe) (v3:Unit) (q3:Yai):Pt P_ Ty_ [] (Bo (Yai) (Yai) Empty):=.ite (decide (q3.1<(x.Regs_.length:Int))) (.need ((q3.2.length+([false]:List Bool).length) * 1≤140737488355328) (.leaf (.go ((IntKind.i64.wrap (q3.1+(1:Int))),(q3.2++([false]:List Bool)))))) (.leaf (.out (q3.1,q3.2)))
noncomputable def zsi (n:Nat) (x:Xe) (v3:Unit):LCon P_ Ty_ []:=lcon (X:=Yai) (Y:=Yai) (Z:=Empty) (zf3 n) (subC [1,1,1,1,1,1,0,1,0,0] (fnC P_ 15 zf4)) (fun q3=>.no) 5 false ⟨[(1,.ref 1),(7,.own 600001 false 8),(8,.any)],[(1,.any),(600001,.any)]⟩ ⟨[(1,.ref 1),(7,.ref 600001),(8,.any),(71,.any)],[(1,.any),(600001,.any)]⟩ ⟨[],[]⟩ (fun q3=>([(1,.pt 1 [] 0 0),(7,.sw 600001 []),(8,I_ q3.1)],[(1,.lit 4 [[.im 1 x.Sign_,.im 2 x.Regs_,.im 3 x.Slots_,.im 4 x.List_]]),(600001,.typ false 8 q3.2)])) (fun p=>([(1,.pt 1 [] 0 0),(7,.sw 600001 []),(8,I_ p.1),(71,B_ false)],[(1,.lit 4 [[.im 1 x.Sign_,.im 2 x.Regs_,.im 3 x.Slots_,.im 4 x.List_]]),(600001,.typ false 8 p.2)])) (fun p=>nomatch p) n (zso n x v3)
noncomputable def zsp (n:Nat) (x:Xe) (v4:Unit) (q4:Yaz):Pt P_ Ty_ [] (Bo (Yaz) (Yaz) Int):=.ite (decide (q4.1<(x.List_.length:Int))) (.bnd (idx x.List_ q4.1) fun y9=>.call (k41 n) (x,y9,q4.2.1,q4.2.2) fun (y10:Bool)=>.ite (!y10) (.leaf (.ret q4.1)) (.join (S:=Ycl) (zsl x v4 q4) (.ite (y9.Op_==34) (.leaf (.inl (true,y9.Op_,y9.D_,y9.A_,y9.B_,y9.C_,y9.N_,y9.Bits_))) (.leaf (.inl ((y9.Op_==36),y9.Op_,y9.D_,y9.A_,y9.B_,y9.C_,y9.N_,y9.Bits_)))) fun s2=>.ite s2.1 (.call (k42 n) q4.2.1 fun (y11:(List Bool))=>.need ((q4.2.2.length+([(⟨s2.2.1,s2.2.2.2.2.2.2.1,y11⟩:Xg)]:List Xg).length) * 40≤140737488355328) (.leaf (.go ((IntKind.i64.wrap (q4.1+(1:Int))),q4.2.1,(q4.2.2++([(⟨s2.2.1,s2.2.2.2.2.2.2.1,y11⟩:Xg)]:List Xg)))))) (.ite (s2.2.1==35) (.need (0≤(IntKind.i64.wrap ((q4.2.2.length:Int) - (1:Int)))∧(IntKind.i64.wrap ((q4.2.2.length:Int) - (1:Int)))<(q4.2.2.length:Int)) (.bnd (q4.2.2[(IntKind.i64.wrap ((q4.2.2.length:Int) - (1:Int))).toNat]?) fun y12=>.bnd (q4.2.2[(IntKind.i64.wrap ((q4.2.2.length:Int) - (1:Int))).toNat]?) fun y13=>.call (k42 n) y13.Set_ fun (y14:(List Bool))=>.need (0≤(IntKind.i64.wrap ((q4.2.2.length:Int) - (1:Int)))∧(IntKind.i64.wrap ((q4.2.2.length:Int) - (1:Int)))≤(q4.2.2.length:Int)) (.need ((IntKind.i64.wrap ((q4.2.2.length:Int) - (1:Int))).toNat≤q4.2.2.length) (.leaf (.go ((IntKind.i64.wrap (q4.1+(1:Int))),y14,(q4.2.2.take ((IntKind.i64.wrap ((q4.2.2.length:Int) - (1:Int))).toNat)))))))) (.ite (s2.2.1==37) (.need (0≤(IntKind.i64.wrap ((q4.2.2.length:Int) - (1:Int)))∧(IntKind.i64.wrap ((q4.2.2.length:Int) - (1:Int)))≤(q4.2.2.length:Int)) (.need ((IntKind.i64.wrap ((q4.2.2.length:Int) - (1:Int))).toNat≤q4.2.2.length) (.leaf (.go ((IntKind.i64.wrap (q4.1+(1:Int))),q4.2.1,(q4.2.2.take ((IntKind.i64.wrap ((q4.2.2.length:Int) - (1:Int))).toNat))))))) (.call (k12 n) (⟨s2.2.1,s2.2.2.1,s2.2.2.2.1,s2.2.2.2.2.1,s2.2.2.2.2.2.1,s2.2.2.2.2.2.2.1,s2.2.2.2.2.2.2.2⟩:Xd) fun (y15:Bool)=>.ite y15 (.need (0≤s2.2.2.1∧s2.2.2.1<(q4.2.1.length:Int)) (.bnd (q4.2.1[s2.2.2.1.toNat]?) fun y16=>.leaf (.go ((IntKind.i64.wrap (q4.1+(1:Int))),(q4.2.1.set s2.2.2.1.toNat true),q4.2.2)))) (.leaf (.go ((IntKind.i64.wrap (q4.1+(1:Int))),q4.2.1,q4.2.2)))))))) (.leaf (.out (q4.1,q4.2.1,q4.2.2)))
noncomputable def zsj (n:Nat) (x:Xe) (v4:Unit):LCon P_ Ty_ []:=lcon (X:=Yaz) (Y:=Yaz) (Z:=Int) (zf3 n) (subC [1,1,1,1,1,1,1,1,0,1,0,0] (fnC P_ 15 zf4)) (fun q4=>.two .no (.two (.two (.two .no (.two .no (.two (.join (Ycl) (zsl x v4 q4) ⟨[(1,.ref 1),(7,.ref 600002),(9,.ref 600003),(10,.any),(11,.ref 11),(96,.any)],[(1,.any),(600002,.any),(600003,.any),(11,.any)]⟩ .no .no) .no))) .no) .no)) 7 true ⟨[(1,.ref 1),(7,.ref 600002),(9,.own 600003 true 11),(10,.any)],[(1,.any),(600002,.any),(600003,.any)]⟩ ⟨[(1,.ref 1),(7,.ref 600002),(9,.ref 600003),(10,.any),(81,.any)],[(1,.any),(600002,.any),(600003,.any)]⟩ ⟨[(2,.any),(3,.any)],[]⟩ (fun q4=>([(1,.pt 1 [] 0 0),(7,.sw 600002 []),(9,.sw 600003 []),(10,I_ q4.1)],[(1,.lit 4 [[.im 1 x.Sign_,.im 2 x.Regs_,.im 3 x.Slots_,.im 4 x.List_]]),(600002,.typ false 8 q4.2.1),(600003,.typ true 11 q4.2.2)])) (fun p=>([(1,.pt 1 [] 0 0),(7,.sw 600002 []),(9,.sw 600003 []),(10,I_ p.1),(81,B_ false)],[(1,.lit 4 [[.im 1 x.Sign_,.im 2 x.Regs_,.im 3 x.Slots_,.im 4 x.List_]]),(600002,.typ false 8 p.2.1),(600003,.typ true 11 p.2.2)])) (fun p=>([(2,I_ (160:Int)),(3,I_ p)],[])) n (zsp n x v4)
noncomputable def zxw (n:Nat) (x:Xe):Pt P_ Ty_ [] (Yaa):=.call (k38 n) x.Sign_ fun (y1:Int)=>.ite (y1 != (0:Int)) (.leaf (y1,(-1:Int))) (.join (S:=Bool) (zsk x) (.ite (decide ((x.Regs_.length:Int) > (16384:Int))) (.leaf (.inl true)) (.leaf (.inl (decide ((x.List_.length:Int) > (32768:Int)))))) fun s1=>.ite s1 (.leaf ((181:Int),(-1:Int))) (.ite (decide ((x.Slots_.length:Int) > (4096:Int))) (.leaf ((180:Int),(-1:Int))) (.loopR (V:=Unit) (zsg n x) () (0:Int) (fun (v1:Unit) (y4:Int)=>.loopR (V:=Unit) (zsh n x) () (0:Int) (fun (v2:Unit) (y7:Int)=>.loop (V:=Unit) (zsi n x) () ((0:Int),([]:List Bool)) fun (v3:Unit) (y8:Yai)=>.loopR (V:=Unit) (zsj n x) () ((0:Int),y8.2,([]:List Xg)) (fun (v4:Unit) (y17:Yaz)=>.ite (decide ((y17.2.2.length:Int) > (0:Int))) (.leaf ((160:Int),(x.List_.length:Int))) (.leaf ((0:Int),(0:Int)))) fun (v4:Unit) (z3:Int)=>.leaf ((160:Int),z3)) fun (v2:Unit) (z2:Unit)=>.leaf ((160:Int),(-1:Int))) fun (v1:Unit) (z1:Unit)=>.leaf ((160:Int),(-1:Int)))))
noncomputable def k21 (n:Nat):Con P_ Ty_:=ze (X:=Xe) (R:=Yaa) (pro:=[]) (zf3 n) 15 zf4 (fun x=>.two .no (.two .no (.two (.two (.two .no (.two .no (.join Bool (zsk x) ⟨[(1,.ref 1),(19,.any)],[(1,.any)]⟩ .no .no))) .no) (.two (.two .no (.two (.loop Unit (zsg n x) true ⟨[(1,.ref 1),(5,.any)],[(1,.any)]⟩) .no)) (.two (.two .no (.two (.loop Unit (zsh n x) true ⟨[(1,.ref 1),(6,.any)],[(1,.any)]⟩) .no)) (.two .no (.two (.two .no (.two (.loop Unit (zsi n x) false ⟨[(1,.ref 1),(7,.own 600001 false 8),(8,.any)],[(1,.any),(600001,.any)]⟩) .no)) (.two .no (.two (.two .no (.two (.loop Unit (zsj n x) true ⟨[(1,.ref 1),(7,.ref 600002),(9,.own 600003 true 11),(10,.any)],[(1,.any),(600002,.any),(600003,.any)]⟩) .no)) .no))))))))) [.ag [.im 1,.im 2,.im 3,.im 4]] [] [] ⟨[(2,.any),(3,.any)],[]⟩ [] true (fun x=>[.ag [.im 1 x.Sign_,.im 2 x.Regs_,.im 3 x.Slots_,.im 4 x.List_]]) (fun x=>[]) (fun y=>([(2,I_ y.1),(3,I_ y.2)],[])) (fun y=>.tu [I_ y.1,I_ y.2]) (fun y=>[]) (zxw n)
noncomputable def y4s (n:Nat):Cx P_ Ty_:=⟨[],[],[],[]⟩
abbrev y4t:List (List Nat):=[[2,3],[2,3,7],[4],[4]]
noncomputable def zjs (n:Nat) (x:Yau):Pt P_ Ty_ [] Int:=.ite (x.2.Kind_==3) (.bnd (idx x.1.Sign_ x.2.Param_) fun y1=>.leaf y1.Len_) (.leaf (1:Int))
noncomputable def k134 (n:Nat):Con P_ Ty_:=ze (X:=Yau) (R:=Int) (pro:=[]) (y4s n) 40 y4t (fun x=>.no) [.ag [.im 1,.im 2,.im 3,.im 4],.ag [.any,.any]] [] [] ⟨[(4,.any)],[]⟩ [] true (fun x=>[.ag [.im 1 x.1.Sign_,.im 2 x.1.Regs_,.im 3 x.1.Slots_,.im 4 x.1.List_],.ag [I_ x.2.Kind_,I_ x.2.Param_]]) (fun x=>[]) (fun y=>([(4,I_ y)],[])) (fun y=>I_ y) (fun y=>[]) (zjs n)
noncomputable def y4w (n:Nat):Cx P_ Ty_:=⟨[],[],[],[]⟩
abbrev y4x:List (List Nat):=[[0],[2]]
noncomputable def zjv (n:Nat) (x:Int):Pt P_ Ty_ [] Bool:=.leaf (decide ((x.tmod (2147483648:Int)) > (2139095040:Int)))
noncomputable def k137 (n:Nat):Con P_ Ty_:=ze (X:=Int) (R:=Bool) (pro:=[]) (y4w n) 70 y4x (fun x=>.no) [.any] [] [] ⟨[(2,.any)],[]⟩ [] true (fun x=>[I_ x]) (fun x=>[]) (fun y=>([(2,B_ y)],[])) (fun y=>B_ y) (fun y=>[]) (zjv n)
noncomputable def y4u (n:Nat):Cx P_ Ty_:=⟨[k137 n],[],[],[]⟩
abbrev y4v:List (List Nat):=[[0],[0,4],[2],[2]]
noncomputable def zju (n:Nat) (x:Int):Pt P_ Ty_ [] Int:=.call (k137 n) x fun (y1:Bool)=>.ite y1 (.leaf (2143289344:Int)) (.leaf x)
noncomputable def k136 (n:Nat):Con P_ Ty_:=ze (X:=Int) (R:=Int) (pro:=[]) (y4u n) 42 y4v (fun x=>.no) [.any] [] [] ⟨[(2,.any)],[]⟩ [] true (fun x=>[I_ x]) (fun x=>[]) (fun y=>([(2,I_ y)],[])) (fun y=>I_ y) (fun y=>[]) (zju n)
noncomputable def zrq (n:Nat):Cx P_ Ty_:=⟨[k136 n],[(22,false,9),(23,false,9)],[],[]⟩
abbrev zrr:List (List Nat):=[[0,1],[0,1,13],[4,5],[0,1,6],[0,1,6,7],[0,1,6,7,16],[0,1,6,7],[0,1,6,7],[4,5]]
noncomputable def zmw (x:Yaa) (p:Bool):EH Ty_:=([(0,I_ x.1),(1,I_ x.2),(13,B_ p)],[])
noncomputable def z9q (n:Nat) (x:Yaa) (v1:Unit) (q1:Yab):Pt P_ Ty_ [] (Bo (Yab) (Yab) Empty):=.ite (decide (q1.1<x.1)) (.call (k136 n) x.2 fun (y1:Int)=>.need ((q1.2.length+([y1]:List Int).length) * 8≤140737488355328) (.leaf (.go ((IntKind.i64.wrap (q1.1+(1:Int))),(q1.2++([y1]:List Int)))))) (.leaf (.out (q1.1,q1.2)))
noncomputable def zmv (n:Nat) (x:Yaa) (v1:Unit):LCon P_ Ty_ []:=lcon (X:=Yab) (Y:=Yab) (Z:=Empty) (zrq n) (subC [1,1,1,0,1,0,0] (fnC P_ 18 zrr)) (fun q1=>.no) 0 false ⟨[(0,.any),(1,.any),(6,.own 600001 false 9),(7,.any)],[(600001,.any)]⟩ ⟨[(0,.any),(1,.any),(6,.ref 600001),(7,.any),(16,.any)],[(600001,.any)]⟩ ⟨[],[]⟩ (fun q1=>([(0,I_ x.1),(1,I_ x.2),(6,.sw 600001 []),(7,I_ q1.1)],[(600001,.typ false 9 q1.2)])) (fun p=>([(0,I_ x.1),(1,I_ x.2),(6,.sw 600001 []),(7,I_ p.1),(16,B_ false)],[(600001,.typ false 9 p.2)])) (fun p=>nomatch p) n (z9q n x v1)
noncomputable def zjt (n:Nat) (x:Yaa):Pt P_ Ty_ [] (Yab):=.join (S:=Bool) (zmw x) (.ite (decide (x.1<(0:Int))) (.leaf (.inl true)) (.leaf (.inl (decide (x.1 > (65536:Int)))))) fun s1=>.ite s1 (.leaf ((1:Int),([]:List Int))) (.loop (V:=Unit) (zmv n x) () ((0:Int),([]:List Int)) fun (v1:Unit) (y2:Yab)=>.leaf ((0:Int),y2.2))
noncomputable def k135 (n:Nat):Con P_ Ty_:=ze (X:=Yaa) (R:=Yab) (pro:=[]) (zrq n) 18 zrr (fun x=>.two .no (.two (.join Bool (zmw x) ⟨[(0,.any),(1,.any),(13,.any)],[]⟩ .no .no) (.two .no (.two (.two .no (.two (.loop Unit (zmv n x) false ⟨[(0,.any),(1,.any),(6,.own 600001 false 9),(7,.any)],[(600001,.any)]⟩) .no)) .no)))) [.any,.any] [] [100000] ⟨[(4,.own 100000 false 9),(5,.any)],[(100000,.any)]⟩ [100000] true (fun x=>[I_ x.1,I_ x.2]) (fun x=>[]) (fun y=>([(4,.sw 100000 []),(5,I_ y.1)],[(100000,.typ false 9 y.2)])) (fun y=>.tu [.sw 100000 [],I_ y.1]) (fun y=>[(100000,.typ false 9 y.2)]) (zjt n)
noncomputable def y4q (n:Nat):Cx P_ Ty_:=⟨[k134 n,k135 n],[],[],[]⟩
abbrev y4r:List (List Nat):=[[2,3,4],[2,3,4,10],[4],[4,5],[4]]
noncomputable def zjr (n:Nat) (x:Xe×Xc):Pt P_ Ty_ [] (Yas):=.ite (x.2.Type_.Kind_==2) (.leaf (([]:List Int),x.2.Int_)) (.call (k134 n) (x.1,x.2.Type_) fun (y1:Int)=>.call (k135 n) (y1,(IntKind.i64.wrap x.2.Bits_)) fun (y2:Yab)=>.leaf (y2.2,(0:Int)))
noncomputable def k133 (n:Nat):Con P_ Ty_:=ze (X:=Xe×Xc) (R:=Yas) (pro:=[]) (y4q n) 16 y4r (fun x=>.no) [.ag [.im 1,.im 2,.im 3,.im 4],.ag [.any,.any,.any,.any,.any]] [] [] ⟨[(4,.ref 100000)],[(100000,.fix [.im 9,.no])]⟩ [] false (fun x=>[.ag [.im 1 x.1.Sign_,.im 2 x.1.Regs_,.im 3 x.1.Slots_,.im 4 x.1.List_],.ag [I_ x.2.Type_.Kind_,I_ x.2.Type_.Param_,B_ x.2.Keep_,.sc (.int .u32 x.2.Bits_),I_ x.2.Int_]]) (fun x=>[]) (fun y=>([(4,.pt 100000 [] 0 0)],[(100000,.lit 2 [[.im 9 y.1,I_ y.2]])])) (fun y=>.ag [.im 9 y.1,I_ y.2]) (fun y=>[]) (zjr n)
noncomputable def zro (n:Nat):Cx P_ Ty_:=⟨[k21 n,k133 n],[(35,false,12),(36,false,12)],[],[]⟩
abbrev zrp:List (List Nat):=[[1,2],[1,2,4],[1,2,4,14],[2,3],[1,2,6],[1,2,6,7],[1,2,6,7,23],[1,2,6,7],[1,2,6,7],[2,3]]
noncomputable def z59 (n:Nat) (x:Xe) (v1:Unit) (q1:Yat):Pt P_ Ty_ [] (Bo (Yat) (Yat) Empty):=.ite (decide (q1.1<(x.Slots_.length:Int))) (.bnd (idx x.Slots_ q1.1) fun y2=>.call (k133 n) (x,y2) fun (y3:Yas)=>.need ((q1.2.length+([(⟨y3.1,y3.2⟩:Xh)]:List Xh).length) * 32≤140737488355328) (.leaf (.go ((IntKind.i64.wrap (q1.1+(1:Int))),(q1.2++([(⟨y3.1,y3.2⟩:Xh)]:List Xh)))))) (.leaf (.out (q1.1,q1.2)))
noncomputable def zmu (n:Nat) (x:Xe) (v1:Unit):LCon P_ Ty_ []:=lcon (X:=Yat) (Y:=Yat) (Z:=Empty) (zro n) (subC [1,1,1,1,0,1,0,0] (fnC P_ 7 zrp)) (fun q1=>.no) 0 false ⟨[(1,.ref 1),(2,.ref 2),(6,.ref 6),(7,.any)],[(1,.any),(2,.any),(6,.fix [.no,.no,.no,.no,.ow false 12])]⟩ ⟨[(1,.ref 1),(2,.ref 2),(6,.ref 6),(7,.any),(23,.any)],[(1,.any),(2,.any),(6,.any)]⟩ ⟨[],[]⟩ (fun q1=>([(1,.pt 1 [] 0 0),(2,.pt 2 [] 0 0),(6,.pt 6 [] 0 0),(7,I_ q1.1)],[(1,.lit 4 [[.im 1 x.Sign_,.im 2 x.Regs_,.im 3 x.Slots_,.im 4 x.List_]]),(2,.lit 5 [[.zs,.zs,.zs,.zs,.zs]]),(6,.lit 5 [[.im 1 x.Sign_,.im 2 x.Regs_,.im 3 x.Slots_,.im 4 x.List_,.ow false 12 q1.2]])])) (fun p=>([(1,.pt 1 [] 0 0),(2,.pt 2 [] 0 0),(6,.pt 6 [] 0 0),(7,I_ p.1),(23,B_ false)],[(1,.lit 4 [[.im 1 x.Sign_,.im 2 x.Regs_,.im 3 x.Slots_,.im 4 x.List_]]),(2,.lit 5 [[.zs,.zs,.zs,.zs,.zs]]),(6,.lit 5 [[.im 1 x.Sign_,.im 2 x.Regs_,.im 3 x.Slots_,.im 4 x.List_,.ow false 12 p.2]])])) (fun p=>nomatch p) n (z59 n x v1)
noncomputable def zf0 (n:Nat) (x:Xe):Pt P_ Ty_ [] (Yak):=.call (k21 n) x fun (y1:Yaa)=>.ite (y1.1 != (0:Int)) (.leaf (y1.1,([]:List Xa),([]:List Xb),([]:List Xc),([]:List Xd),([]:List Xh))) (.loop (V:=Unit) (zmu n x) () ((0:Int),([]:List Xh)) fun (v1:Unit) (y4:Yat)=>.leaf ((0:Int),x.Sign_,x.Regs_,x.Slots_,x.List_,y4.2))
noncomputable def k132 (n:Nat):Con P_ Ty_:=ze (X:=Xe) (R:=Yak) (pro:=[]) (zro n) 7 zrp (fun x=>.two .no (.two .no (.two .no (.two .no (.two (.two .no (.two (.loop Unit (zmu n x) false ⟨[(1,.ref 1),(2,.ref 2),(6,.ref 6),(7,.any)],[(1,.any),(2,.any),(6,.fix [.no,.no,.no,.no,.ow false 12])]⟩) .no)) .no))))) [.ag [.im 1,.im 2,.im 3,.im 4]] [] [] ⟨[(2,.ref 100000),(3,.any)],[(100000,.fix [.im 1,.im 2,.im 3,.im 4,.im 12])]⟩ [] false (fun x=>[.ag [.im 1 x.Sign_,.im 2 x.Regs_,.im 3 x.Slots_,.im 4 x.List_]]) (fun x=>[]) (fun y=>([(2,.pt 100000 [] 0 0),(3,I_ y.1)],[(100000,.lit 5 [[.im 1 y.2.1,.im 2 y.2.2.1,.im 3 y.2.2.2.1,.im 4 y.2.2.2.2.1,.im 12 y.2.2.2.2.2]])])) (fun y=>.tu [.ag [.im 1 y.2.1,.im 2 y.2.2.1,.im 3 y.2.2.2.1,.im 4 y.2.2.2.2.1,.im 12 y.2.2.2.2.2],I_ y.1]) (fun y=>[]) (zf0 n)
noncomputable def zrs (n:Nat):Cx P_ Ty_:=⟨[k64 n],[],[],[]⟩
abbrev zrt:List (List Nat):=[[0,1],[0,1,10],[4],[0,1,5],[0,1,5,14],[0,1,5,27],[4],[0,1,5],[4]]
noncomputable def z9s (n:Nat) (x:Ycd) (v1:Unit) (q1:Int):Pt P_ Ty_ [] (Bo Int Int Unit):=.ite (decide (q1<(x.1.length:Int))) (.bnd (idx x.2 q1) fun y1=>.bnd (idx x.1 q1) fun y2=>.call (k64 n) y2 fun (y3:Int)=>.ite ((y1.length:Int) != y3) (.leaf (.ret ())) (.leaf (.go (IntKind.i64.wrap (q1+(1:Int)))))) (.leaf (.out q1))
noncomputable def zn2 (n:Nat) (x:Ycd) (v1:Unit):LCon P_ Ty_ []:=lcon (X:=Int) (Y:=Int) (Z:=Unit) (zrs n) (subC [1,1,0,1,0,0] (fnC P_ 17 zrt)) (fun q1=>.no) 0 true ⟨[(0,.im 1),(1,.im 6),(5,.any)],[]⟩ ⟨[(0,.im 1),(1,.im 6),(5,.any),(14,.any)],[]⟩ ⟨[(4,.any)],[]⟩ (fun q1=>([(0,.im 1 x.1),(1,.im 6 x.2),(5,I_ q1)],[])) (fun p=>([(0,.im 1 x.1),(1,.im 6 x.2),(5,I_ p),(14,B_ false)],[])) (fun p=>([(4,B_ false)],[])) n (z9s n x v1)
noncomputable def zjw (n:Nat) (x:Ycd):Pt P_ Ty_ [] Bool:=.ite ((x.2.length:Int) != (x.1.length:Int)) (.leaf false) (.loopR (V:=Unit) (zn2 n x) () (0:Int) (fun (v1:Unit) (y4:Int)=>.leaf true) fun (v1:Unit) (z1:Unit)=>.leaf false)
noncomputable def k149 (n:Nat):Con P_ Ty_:=ze (X:=Ycd) (R:=Bool) (pro:=[]) (zrs n) 17 zrt (fun x=>.two .no (.two .no (.two (.two .no (.two (.loop Unit (zn2 n x) true ⟨[(0,.im 1),(1,.im 6),(5,.any)],[]⟩) .no)) .no))) [.im 1,.im 6] [] [] ⟨[(4,.any)],[]⟩ [] true (fun x=>[.im 1 x.1,.im 6 x.2]) (fun x=>[]) (fun y=>([(4,B_ y)],[])) (fun y=>B_ y) (fun y=>[]) (zjw n)
noncomputable def y4y (n:Nat):Cx P_ Ty_:=⟨[k134 n],[],[],[]⟩
abbrev y4z:List (List Nat):=[[2,3],[2,3,5],[2,3,5],[2,3,5],[2,3,5],[4],[2,3,31],[4],[2,3,35],[2,3,35],[2,3,35],[2,3,35],[4],[4]]
noncomputable def zn3 (x:Yae) (p:Bool):EH Ty_:=([(2,.pt 2 [] 0 0),(3,.pt 3 [] 0 0),(5,B_ p)],[(2,.lit 4 [[.im 1 x.1.Sign_,.im 2 x.1.Regs_,.im 3 x.1.Slots_,.im 4 x.1.List_]]),(3,.lit 7 [[I_ x.2.Op_,I_ x.2.D_,I_ x.2.A_,I_ x.2.B_,I_ x.2.C_,I_ x.2.N_,.sc (.int .u32 x.2.Bits_)]])])
noncomputable def zn4 (x:Yae) (p:Bool):EH Ty_:=([(2,.pt 2 [] 0 0),(3,.pt 3 [] 0 0),(5,B_ p)],[(2,.lit 4 [[.im 1 x.1.Sign_,.im 2 x.1.Regs_,.im 3 x.1.Slots_,.im 4 x.1.List_]]),(3,.lit 7 [[I_ x.2.Op_,I_ x.2.D_,I_ x.2.A_,I_ x.2.B_,I_ x.2.C_,I_ x.2.N_,.sc (.int .u32 x.2.Bits_)]])])
noncomputable def zn5 (x:Yae) (p:Bool):EH Ty_:=([(2,.pt 2 [] 0 0),(3,.pt 3 [] 0 0),(35,B_ p)],[(2,.lit 4 [[.im 1 x.1.Sign_,.im 2 x.1.Regs_,.im 3 x.1.Slots_,.im 4 x.1.List_]]),(3,.lit 7 [[I_ x.2.Op_,I_ x.2.D_,I_ x.2.A_,I_ x.2.B_,I_ x.2.C_,I_ x.2.N_,.sc (.int .u32 x.2.Bits_)]])])
noncomputable def zjx (n:Nat) (x:Yae):Pt P_ Ty_ [] Int:=.join (S:=Bool) (zn4 x) (.join (S:=Bool) (zn3 x) (.ite (decide (x.2.Op_≥(3:Int))) (.leaf (.inl (decide (x.2.Op_≤(15:Int))))) (.leaf (.inl false))) fun s1=>.ite s1 (.leaf (.inl true)) (.ite (x.2.Op_==29) (.leaf (.inl true)) (.ite (x.2.Op_==30) (.leaf (.inl true)) (.leaf (.inl (x.2.Op_==32)))))) fun s2=>.ite s2 (.bnd (idx x.1.Regs_ x.2.D_) fun y1=>.call (k134 n) (x.1,y1) fun (y2:Int)=>.leaf y2) (.ite (x.2.Op_==16) (.leaf (62:Int)) (.join (S:=Bool) (zn5 x) (.ite (x.2.Op_==31) (.leaf (.inl true)) (.ite (x.2.Op_==33) (.leaf (.inl true)) (.ite (x.2.Op_==19) (.leaf (.inl true)) (.leaf (.inl (x.2.Op_==20)))))) fun s3=>.ite s3 (.bnd (idx x.1.Regs_ x.2.A_) fun y3=>.call (k134 n) (x.1,y3) fun (y4:Int)=>.leaf y4) (.leaf (1:Int))))
noncomputable def k153 (n:Nat):Con P_ Ty_:=ze (X:=Yae) (R:=Int) (pro:=[]) (y4y n) 19 y4z (fun x=>.two .no (.two (.two (.join Bool (zn4 x) ⟨[(2,.ref 2),(3,.ref 3),(5,.any)],[(2,.any),(3,.any)]⟩ (.join Bool (zn3 x) ⟨[(2,.ref 2),(3,.ref 3),(5,.any)],[(2,.any),(3,.any)]⟩ .no .no) (.two .no (.two .no (.two .no (.join Bool (zn5 x) ⟨[(2,.ref 2),(3,.ref 3),(35,.any)],[(2,.any),(3,.any)]⟩ .no .no))))) .no) .no)) [.ag [.im 1,.im 2,.im 3,.im 4],.ag [.any,.any,.any,.any,.any,.any,.any]] [] [] ⟨[(4,.any)],[]⟩ [] true (fun x=>[.ag [.im 1 x.1.Sign_,.im 2 x.1.Regs_,.im 3 x.1.Slots_,.im 4 x.1.List_],.ag [I_ x.2.Op_,I_ x.2.D_,I_ x.2.A_,I_ x.2.B_,I_ x.2.C_,I_ x.2.N_,.sc (.int .u32 x.2.Bits_)]]) (fun x=>[]) (fun y=>([(4,I_ y)],[])) (fun y=>I_ y) (fun y=>[]) (zjx n)
noncomputable def y5w (n:Nat):Cx P_ Ty_:=⟨[],[],[],[]⟩
abbrev y5x:List (List Nat):=[[0],[3],[3,4],[3,4],[3,4],[3,4],[3,4],[2],[3,10],[3,10],[3,10],[3,10],[3,10],[3,10],[3,10],[2],[18],[2],[2]]
noncomputable def znt (x:Int) (p:Bool):EH Ty_:=([(3,I_ x),(4,B_ p)],[])
noncomputable def znu (x:Int) (p:Bool):EH Ty_:=([(3,I_ x),(10,B_ p)],[])
noncomputable def y5y (n:Nat) (x:Int):Pt P_ Ty_ [] Int:=.join (S:=Bool) (znt x) (.ite (x==3) (.leaf (.inl true)) (.ite (x==11) (.leaf (.inl true)) (.ite (x==12) (.leaf (.inl true)) (.ite (x==13) (.leaf (.inl true)) (.leaf (.inl (x==14))))))) fun s1=>.ite s1 (.leaf (1:Int)) (.join (S:=Bool) (znu x) (.ite (x==4) (.leaf (.inl true)) (.ite (x==5) (.leaf (.inl true)) (.ite (x==6) (.leaf (.inl true)) (.ite (x==7) (.leaf (.inl true)) (.ite (x==8) (.leaf (.inl true)) (.ite (x==9) (.leaf (.inl true)) (.leaf (.inl (x==10))))))))) fun s2=>.ite s2 (.leaf (2:Int)) (.ite (x==15) (.leaf (3:Int)) (.leaf (0:Int))))
noncomputable def k176 (n:Nat):Con P_ Ty_:=ze (X:=Int) (R:=Int) (pro:=[]) (y5w n) 72 y5x (fun x=>.two .no (.two (.two .no (.two (.join Bool (znt x) ⟨[(3,.any),(4,.any)],[]⟩ .no (.two .no (.join Bool (znu x) ⟨[(3,.any),(10,.any)],[]⟩ .no .no))) .no)) .no)) [.any] [] [] ⟨[(2,.any)],[]⟩ [] true (fun x=>[I_ x]) (fun x=>[]) (fun y=>([(2,I_ y)],[])) (fun y=>I_ y) (fun y=>[]) (y5y n)
noncomputable def y5z (n:Nat):Cx P_ Ty_:=⟨[],[],[],[]⟩
abbrev y60:List (List Nat):=[[0,1],[0,1,7],[4],[4]]
noncomputable def zkl (n:Nat) (x:Yas):Pt P_ Ty_ [] Int:=.ite ((x.1.length:Int)==1) (.bnd (idx x.1 (0:Int)) fun y1=>.leaf y1) (.bnd (idx x.1 x.2) fun y2=>.leaf y2)
noncomputable def k177 (n:Nat):Con P_ Ty_:=ze (X:=Yas) (R:=Int) (pro:=[]) (y5z n) 85 y60 (fun x=>.no) [.im 9,.any] [] [] ⟨[(4,.any)],[]⟩ [] true (fun x=>[.im 9 x.1,I_ x.2]) (fun x=>[]) (fun y=>([(4,I_ y)],[])) (fun y=>I_ y) (fun y=>[]) (zkl n)
noncomputable def zsb (n:Nat):Cx P_ Ty_:=⟨[],[],[],[]⟩
abbrev zsc:List (List Nat):=[[1,2],[1,2,5],[1,2],[1,2],[2]]
noncomputable def zgf (n:Nat) (x:Xk) (v1:Unit) (q1:Yaa):Pt P_ Ty_ [] (Bo (Yaa) (Yaa) Empty):=.ite (decide (q1.1<(8388608:Int))) (.leaf (.go ((IntKind.u64.wrap (q1.1 * (2:Int))),(IntKind.i64.wrap (q1.2 - (1:Int)))))) (.leaf (.out (q1.1,q1.2)))
noncomputable def znz (n:Nat) (x:Xk) (v1:Unit):LCon P_ Ty_ []:=lcon (X:=Yaa) (Y:=Yaa) (Z:=Empty) (zsb n) (subC [1,0,0,0] (fnC P_ 108 zsc)) (fun q1=>.no) 0 false ⟨[(1,.ref 1),(2,.ref 2)],[(1,.any),(2,.any)]⟩ ⟨[(1,.ref 1),(2,.ref 2),(5,.any)],[(1,.any),(2,.any)]⟩ ⟨[],[]⟩ (fun q1=>([(1,.pt 1 [] 0 0),(2,.pt 2 [] 0 0)],[(1,.lit 5 [[B_ x.Minus_,.sc (.int .u64 q1.1),I_ q1.2,B_ x.Inf_,B_ x.Nan_]]),(2,.lit 5 [[B_ false,.sc (.int .u64 (0:Int)),I_ (0:Int),B_ false,B_ false]])])) (fun p=>([(1,.pt 1 [] 0 0),(2,.pt 2 [] 0 0),(5,B_ false)],[(1,.lit 5 [[B_ x.Minus_,.sc (.int .u64 p.1),I_ p.2,B_ x.Inf_,B_ x.Nan_]]),(2,.lit 5 [[B_ false,.sc (.int .u64 (0:Int)),I_ (0:Int),B_ false,B_ false]])])) (fun p=>nomatch p) n (zgf n x v1)
noncomputable def zko (n:Nat) (x:Xk):Pt P_ Ty_ [] (Yah):=.loop (V:=Unit) (znz n x) () (x.M_,x.E_) fun (v1:Unit) (y1:Yaa)=>.leaf (x.Minus_,y1.1,y1.2,x.Inf_,x.Nan_)
noncomputable def k180 (n:Nat):Con P_ Ty_:=ze (X:=Xk) (R:=Yah) (pro:=[]) (zsb n) 108 zsc (fun x=>.two .no (.two (.two (.loop Unit (znz n x) false ⟨[(1,.ref 1),(2,.ref 2)],[(1,.any),(2,.any)]⟩) .no) .no)) [.ag [.any,.any,.any,.any,.any]] [] [] ⟨[(2,.ref 100000)],[(100000,.any)]⟩ [] true (fun x=>[.ag [B_ x.Minus_,.sc (.int .u64 x.M_),I_ x.E_,B_ x.Inf_,B_ x.Nan_]]) (fun x=>[]) (fun y=>([(2,.pt 100000 [] 0 0)],[(100000,.lit 5 [[B_ y.1,.sc (.int .u64 y.2.1),I_ y.2.2.1,B_ y.2.2.2.1,B_ y.2.2.2.2]])])) (fun y=>.ag [B_ y.1,.sc (.int .u64 y.2.1),I_ y.2.2.1,B_ y.2.2.2.1,B_ y.2.2.2.2]) (fun y=>[]) (zko n)
noncomputable def y58 (n:Nat):Cx P_ Ty_:=⟨[],[],[],[]⟩
abbrev y59:List (List Nat):=[[0],[3],[2],[2]]
noncomputable def zk6 (n:Nat) (x:Bool):Pt P_ Ty_ [] Int:=.ite x (.leaf (2147483648:Int)) (.leaf (0:Int))
noncomputable def k161 (n:Nat):Con P_ Ty_:=ze (X:=Bool) (R:=Int) (pro:=[]) (y58 n) 92 y59 (fun x=>.no) [.any] [] [] ⟨[(2,.any)],[]⟩ [] true (fun x=>[B_ x]) (fun x=>[]) (fun y=>([(2,.sc (.int .u64 y))],[])) (fun y=>.sc (.int .u64 y)) (fun y=>[]) (zk6 n)
noncomputable def y5c (n:Nat):Cx P_ Ty_:=⟨[k161 n],[],[],[]⟩
abbrev y5d:List (List Nat):=[[0],[2]]
noncomputable def zk8 (n:Nat) (x:Bool):Pt P_ Ty_ [] Int:=.call (k161 n) x fun (y1:Int)=>.leaf (IntKind.i64.wrap y1)
noncomputable def k163 (n:Nat):Con P_ Ty_:=ze (X:=Bool) (R:=Int) (pro:=[]) (y5c n) 90 y5d (fun x=>.no) [.any] [] [] ⟨[(2,.any)],[]⟩ [] true (fun x=>[B_ x]) (fun x=>[]) (fun y=>([(2,I_ y)],[])) (fun y=>I_ y) (fun y=>[]) (zk8 n)
noncomputable def zrw (n:Nat):Cx P_ Ty_:=⟨[],[],[],[]⟩
abbrev zrx:List (List Nat):=[[0],[0,3],[0,3,5],[0,3],[0,3],[2]]
noncomputable def zgd (n:Nat) (x:Int) (v1:Unit) (q1:Yaa):Pt P_ Ty_ [] (Bo (Yaa) (Yaa) Empty):=.ite (decide (q1.1 > (0:Int))) (.leaf (.go ((q1.1.fdiv (2 ^ min (1:Int).toNat IntKind.u64.bits)),(IntKind.i64.wrap (q1.2+(1:Int)))))) (.leaf (.out (q1.1,q1.2)))
noncomputable def znc (n:Nat) (x:Int) (v1:Unit):LCon P_ Ty_ []:=lcon (X:=Yaa) (Y:=Yaa) (Z:=Empty) (zrw n) (subC [1,1,0,0,0] (fnC P_ 74 zrx)) (fun q1=>.no) 0 false ⟨[(0,.any),(3,.any)],[]⟩ ⟨[(0,.any),(3,.any),(5,.any)],[]⟩ ⟨[],[]⟩ (fun q1=>([(0,.sc (.int .u64 q1.1)),(3,I_ q1.2)],[])) (fun p=>([(0,.sc (.int .u64 p.1)),(3,I_ p.2),(5,B_ false)],[])) (fun p=>nomatch p) n (zgd n x v1)
noncomputable def zk2 (n:Nat) (x:Int):Pt P_ Ty_ [] Int:=.loop (V:=Unit) (znc n x) () (x,(0:Int)) fun (v1:Unit) (y1:Yaa)=>.leaf y1.2
noncomputable def k157 (n:Nat):Con P_ Ty_:=ze (X:=Int) (R:=Int) (pro:=[]) (zrw n) 74 zrx (fun x=>.two .no (.two .no (.two (.two (.loop Unit (znc n x) false ⟨[(0,.any),(3,.any)],[]⟩) .no) .no))) [.any] [] [] ⟨[(2,.any)],[]⟩ [] true (fun x=>[.sc (.int .u64 x)]) (fun x=>[]) (fun y=>([(2,I_ y)],[])) (fun y=>I_ y) (fun y=>[]) (zk2 n)
noncomputable def y5e (n:Nat):Cx P_ Ty_:=⟨[],[],[],[]⟩
abbrev y5f:List (List Nat):=[[0,1],[0,1,9],[4],[0,1,5],[0,1,5,6],[0,1,5,6,12],[0,1,5],[1,5,6],[5,6,7],[5,39],[5],[4]]
noncomputable def znh (x:Yaa) (p:Yaa):EH Ty_:=([(1,I_ x.2),(5,.sc (.int .u64 p.1)),(6,.sc (.int .u64 p.2))],[])
noncomputable def zni (x:Yaa) (p:Yag):EH Ty_:=([(5,.sc (.int .u64 p.1)),(39,B_ p.2)],[])
noncomputable def zk9 (n:Nat) (x:Yaa):Pt P_ Ty_ [] Int:=.ite (decide (x.2 > (64:Int))) (.leaf (0:Int)) (.join (S:=Yaa) (znh x) (.ite (decide (x.2<(64:Int))) (.need (0≤(IntKind.u64.wrap x.2)) (.need (0≤(IntKind.u64.wrap x.2)) (.leaf (.inl ((x.1.fdiv (2 ^ min (IntKind.u64.wrap x.2).toNat IntKind.u64.bits)),(IntKind.u64.wrap (BitVec.ofInt IntKind.u64.bits x.1 &&& BitVec.ofInt IntKind.u64.bits (IntKind.u64.wrap ((IntKind.u64.wrap ((1:Int) * 2 ^ min (IntKind.u64.wrap x.2).toNat IntKind.u64.bits)) - (1:Int)))).toNat)))))) (.leaf (.inl ((0:Int),x.1)))) fun s1=>.need (0≤(IntKind.u64.wrap (IntKind.i64.wrap (x.2 - (1:Int))))) (.join (S:=Yag) (zni x) (.ite (decide (s1.2 > (IntKind.u64.wrap ((1:Int) * 2 ^ min (IntKind.u64.wrap (IntKind.i64.wrap (x.2 - (1:Int)))).toNat IntKind.u64.bits)))) (.leaf (.inl (s1.1,true))) (.ite (s1.2==(IntKind.u64.wrap ((1:Int) * 2 ^ min (IntKind.u64.wrap (IntKind.i64.wrap (x.2 - (1:Int)))).toNat IntKind.u64.bits))) (.leaf (.inl (s1.1,((s1.1.tmod (2:Int))==1)))) (.leaf (.inl (s1.1,false))))) fun s2=>.ite s2.2 (.leaf (IntKind.u64.wrap (s2.1+(1:Int)))) (.leaf s2.1)))
noncomputable def k164 (n:Nat):Con P_ Ty_:=ze (X:=Yaa) (R:=Int) (pro:=[]) (y5e n) 91 y5f (fun x=>.two .no (.two .no (.two .no (.two .no (.join (Yaa) (znh x) ⟨[(1,.any),(5,.any),(6,.any)],[]⟩ .no (.two .no (.two (.join (Yag) (zni x) ⟨[(5,.any),(39,.any)],[]⟩ .no .no) .no))))))) [.any,.any] [] [] ⟨[(4,.any)],[]⟩ [] true (fun x=>[.sc (.int .u64 x.1),I_ x.2]) (fun x=>[]) (fun y=>([(4,.sc (.int .u64 y))],[])) (fun y=>.sc (.int .u64 y)) (fun y=>[]) (zk9 n)
noncomputable def y56 (n:Nat):Cx P_ Ty_:=⟨[k161 n],[],[],[]⟩
abbrev y57:List (List Nat):=[[0],[2]]
noncomputable def zk5 (n:Nat) (x:Bool):Pt P_ Ty_ [] Int:=.call (k161 n) x fun (y1:Int)=>.leaf (IntKind.i64.wrap (IntKind.u64.wrap (y1+(2139095040:Int))))
noncomputable def k160 (n:Nat):Con P_ Ty_:=ze (X:=Bool) (R:=Int) (pro:=[]) (y56 n) 89 y57 (fun x=>.no) [.any] [] [] ⟨[(2,.any)],[]⟩ [] true (fun x=>[B_ x]) (fun x=>[]) (fun y=>([(2,I_ y)],[])) (fun y=>I_ y) (fun y=>[]) (zk5 n)
noncomputable def y5a (n:Nat):Cx P_ Ty_:=⟨[k163 n,k157 n,k164 n,k161 n,k160 n],[],[],[]⟩
abbrev y5b:List (List Nat):=[[0,1,2],[0,1,2,12],[6],[0,1,2,7],[0,1,7,8],[0,1,7,8],[0,1,7,8,26],[0,7,9],[0,7,9],[0,7,9,36],[0,7,9],[0,7,9],[0,7,9,40],[6],[0,9,10],[0,9,10,49],[6],[6]]
noncomputable def znf (x:Ybh) (p:Yaa):EH Ty_:=([(0,B_ x.1),(7,I_ p.1),(9,.sc (.int .u64 p.2))],[])
noncomputable def zng (x:Ybh) (p:Yaa):EH Ty_:=([(0,B_ x.1),(7,I_ p.1),(9,.sc (.int .u64 p.2))],[])
noncomputable def zk7 (n:Nat) (x:Ybh):Pt P_ Ty_ [] Int:=.ite (x.2.1==0) (.call (k163 n) x.1 fun (y1:Int)=>.leaf y1) (.call (k157 n) x.2.1 fun (y2:Int)=>.join (S:=Yaa) (znf x) (.ite (decide ((IntKind.i64.wrap ((if (-149:Int) > (IntKind.i64.wrap ((IntKind.i64.wrap (x.2.2+y2)) - (24:Int))) then (-149:Int) else (IntKind.i64.wrap ((IntKind.i64.wrap (x.2.2+y2)) - (24:Int)))) - x.2.2))≤(0:Int))) (.need (0≤(IntKind.u64.wrap (IntKind.i64.wrap (0 - (IntKind.i64.wrap ((if (-149:Int) > (IntKind.i64.wrap ((IntKind.i64.wrap (x.2.2+y2)) - (24:Int))) then (-149:Int) else (IntKind.i64.wrap ((IntKind.i64.wrap (x.2.2+y2)) - (24:Int)))) - x.2.2)))))) (.leaf (.inl ((if (-149:Int) > (IntKind.i64.wrap ((IntKind.i64.wrap (x.2.2+y2)) - (24:Int))) then (-149:Int) else (IntKind.i64.wrap ((IntKind.i64.wrap (x.2.2+y2)) - (24:Int)))),(IntKind.u64.wrap (x.2.1 * 2 ^ min (IntKind.u64.wrap (IntKind.i64.wrap (0 - (IntKind.i64.wrap ((if (-149:Int) > (IntKind.i64.wrap ((IntKind.i64.wrap (x.2.2+y2)) - (24:Int))) then (-149:Int) else (IntKind.i64.wrap ((IntKind.i64.wrap (x.2.2+y2)) - (24:Int)))) - x.2.2))))).toNat IntKind.u64.bits)))))) (.call (k164 n) (x.2.1,(IntKind.i64.wrap ((if (-149:Int) > (IntKind.i64.wrap ((IntKind.i64.wrap (x.2.2+y2)) - (24:Int))) then (-149:Int) else (IntKind.i64.wrap ((IntKind.i64.wrap (x.2.2+y2)) - (24:Int)))) - x.2.2))) fun (y3:Int)=>.leaf (.inl ((if (-149:Int) > (IntKind.i64.wrap ((IntKind.i64.wrap (x.2.2+y2)) - (24:Int))) then (-149:Int) else (IntKind.i64.wrap ((IntKind.i64.wrap (x.2.2+y2)) - (24:Int)))),y3)))) fun s1=>.join (S:=Yaa) (zng x) (.ite (s1.2==16777216) (.leaf (.inl ((IntKind.i64.wrap (s1.1+(1:Int))),(8388608:Int)))) (.leaf (.inl (s1.1,s1.2)))) fun s2=>.ite (decide (s2.2<(8388608:Int))) (.call (k161 n) x.1 fun (y4:Int)=>.leaf (IntKind.i64.wrap (IntKind.u64.wrap (y4+s2.2)))) (.ite (decide ((IntKind.i64.wrap (s2.1+(150:Int)))≥(255:Int))) (.call (k160 n) x.1 fun (y5:Int)=>.leaf y5) (.call (k161 n) x.1 fun (y6:Int)=>.leaf (IntKind.i64.wrap (IntKind.u64.wrap ((IntKind.u64.wrap ((IntKind.u64.wrap (y6+(IntKind.u64.wrap ((IntKind.u64.wrap (IntKind.i64.wrap (s2.1+(150:Int)))) * 2 ^ min (23:Int).toNat IntKind.u64.bits))))+s2.2)) - (8388608:Int)))))))
noncomputable def k162 (n:Nat):Con P_ Ty_:=ze (X:=Ybh) (R:=Int) (pro:=[]) (y5a n) 76 y5b (fun x=>.two .no (.two .no (.two .no (.two .no (.two .no (.join (Yaa) (znf x) ⟨[(0,.any),(7,.any),(9,.any)],[]⟩ .no (.join (Yaa) (zng x) ⟨[(0,.any),(7,.any),(9,.any)],[]⟩ .no .no))))))) [.any,.any,.any] [] [] ⟨[(6,.any)],[]⟩ [] true (fun x=>[B_ x.1,.sc (.int .u64 x.2.1),I_ x.2.2]) (fun x=>[]) (fun y=>([(6,I_ y)],[])) (fun y=>I_ y) (fun y=>[]) (zk7 n)
noncomputable def zs9 (n:Nat):Cx P_ Ty_:=⟨[k69 n,k180 n,k162 n],[],[],[]⟩
abbrev zsa:List (List Nat):=[[0],[0,3],[0,3,11],[2],[0,3,14],[2],[0,3,24],[2],[0,3,27],[2],[3],[3,4],[4,5],[4,5,41],[4,5],[4,5],[4,5,6],[4,5,6,7],[4,5,6,7,47],[4,5,6,7,58],[4,5,6,7],[4,5,6,7],[4,5,6,8],[5,8,68],[5,8],[2]]
noncomputable def znw (x:Int) (p:Yce):EH Ty_:=([(0,I_ x),(3,.pt 3 [] 0 0),(14,B_ p.1)],[(3,.lit 5 [[B_ p.2.1,.sc (.int .u64 p.2.2.1),I_ p.2.2.2.1,B_ p.2.2.2.2.1,B_ p.2.2.2.2.2]])])
noncomputable def znx (x:Int) (p:Yaa):EH Ty_:=([(4,.sc (.int .u64 p.1)),(5,I_ p.2)],[])
noncomputable def zny (x:Int) (p:Yaa):EH Ty_:=([(5,I_ p.1),(8,.sc (.int .u64 p.2))],[])
noncomputable def zge (n:Nat) (x:Int) (v1:Yaa) (q1:Yaa):Pt P_ Ty_ [] (Bo (Yaa) (Yaa) Empty):=.ite (decide (q1.2 > (0:Int))) (.ite (decide ((IntKind.u64.wrap ((IntKind.u64.wrap (q1.1+q1.2)) * (IntKind.u64.wrap (q1.1+q1.2))))≤v1.1)) (.leaf (.go ((IntKind.u64.wrap (q1.1+q1.2)),(IntKind.u64.wrap (q1.2.tdiv (2:Int)))))) (.leaf (.go (q1.1,(IntKind.u64.wrap (q1.2.tdiv (2:Int))))))) (.leaf (.out (q1.1,q1.2)))
noncomputable def znv (n:Nat) (x:Int) (v1:Yaa):LCon P_ Ty_ []:=lcon (X:=Yaa) (Y:=Yaa) (Z:=Empty) (zs9 n) (subC [1,1,1,1,1,1,1,1,0,1,0,0] (fnC P_ 97 zsa)) (fun q1=>.no) 1 false ⟨[(4,.any),(5,.any),(6,.any),(7,.any)],[]⟩ ⟨[(4,.any),(5,.any),(6,.any),(7,.any),(47,.any)],[]⟩ ⟨[],[]⟩ (fun q1=>([(4,.sc (.int .u64 v1.1)),(5,I_ v1.2),(6,.sc (.int .u64 q1.1)),(7,.sc (.int .u64 q1.2))],[])) (fun p=>([(4,.sc (.int .u64 v1.1)),(5,I_ v1.2),(6,.sc (.int .u64 p.1)),(7,.sc (.int .u64 p.2)),(47,B_ false)],[])) (fun p=>nomatch p) n (zge n x v1)
noncomputable def zkn (n:Nat) (x:Int):Pt P_ Ty_ [] Int:=.call (k69 n) x fun (y1:Yah)=>.ite y1.2.2.2.2 (.leaf (2143289344:Int)) (.join (S:=Yce) (znw x) (.ite (!y1.2.2.2.1) (.leaf (.inl ((y1.2.1==0),y1.1,y1.2.1,y1.2.2.1,y1.2.2.2.1,y1.2.2.2.2))) (.leaf (.inl (false,y1.1,y1.2.1,y1.2.2.1,y1.2.2.2.1,y1.2.2.2.2)))) fun s1=>.ite s1.1 (.leaf x) (.ite s1.2.1 (.leaf (2143289344:Int)) (.ite s1.2.2.2.2.1 (.leaf x) (.call (k180 n) (⟨s1.2.1,s1.2.2.1,s1.2.2.2.1,s1.2.2.2.2.1,s1.2.2.2.2.2⟩:Xk) fun (y2:Yah)=>.join (S:=Yaa) (znx x) (.ite (((IntKind.i64.wrap (y2.2.2.1 - (36:Int))).tmod (2:Int)) != (0:Int)) (.leaf (.inl ((IntKind.u64.wrap ((IntKind.u64.wrap (y2.2.1 * 2 ^ min (36:Int).toNat IntKind.u64.bits)) * (2:Int))),(IntKind.i64.wrap ((IntKind.i64.wrap (y2.2.2.1 - (36:Int))) - (1:Int)))))) (.leaf (.inl ((IntKind.u64.wrap (y2.2.1 * 2 ^ min (36:Int).toNat IntKind.u64.bits)),(IntKind.i64.wrap (y2.2.2.1 - (36:Int))))))) fun s2=>.loop (V:=Yaa) (znv n x) (s2.1,s2.2) ((0:Int),(2147483648:Int)) fun (v1:Yaa) (y3:Yaa)=>.join (S:=Yaa) (zny x) (.ite (decide ((IntKind.u64.wrap (y3.1 * y3.1))<v1.1)) (.leaf (.inl (v1.2,(IntKind.u64.wrap ((IntKind.u64.wrap (y3.1 * (2:Int)))+(1:Int)))))) (.leaf (.inl (v1.2,(IntKind.u64.wrap (y3.1 * (2:Int))))))) fun s3=>.call (k162 n) (false,s3.2,(IntKind.i64.wrap ((IntKind.i64.wrap (s3.1.tdiv (2:Int))) - (1:Int)))) fun (y4:Int)=>.leaf y4))))
noncomputable def k179 (n:Nat):Con P_ Ty_:=ze (X:=Int) (R:=Int) (pro:=[]) (zs9 n) 97 zsa (fun x=>.two .no (.two .no (.two (.two (.two .no (.two .no (.join (Yce) (znw x) ⟨[(0,.any),(3,.ref 3),(14,.any)],[(3,.any)]⟩ .no .no))) .no) (.two .no (.two .no (.two .no (.join (Yaa) (znx x) ⟨[(4,.any),(5,.any)],[]⟩ .no (.two .no (.two (.two .no (.two (.loop (Yaa) (znv n x) false ⟨[(4,.any),(5,.any),(6,.any),(7,.any)],[]⟩) .no)) (.two .no (.join (Yaa) (zny x) ⟨[(5,.any),(8,.any)],[]⟩ .no .no))))))))))) [.any] [] [] ⟨[(2,.any)],[]⟩ [] true (fun x=>[I_ x]) (fun x=>[]) (fun y=>([(2,I_ y)],[])) (fun y=>I_ y) (fun y=>[]) (zkn n)
noncomputable def y63 (n:Nat):Cx P_ Ty_:=⟨[k69 n],[],[],[]⟩
abbrev y64:List (List Nat):=[[0],[0,5],[2],[2]]
noncomputable def zkp (n:Nat) (x:Int):Pt P_ Ty_ [] Int:=.call (k69 n) x fun (y1:Yah)=>.ite y1.2.2.2.2 (.leaf (2143289344:Int)) (.leaf (IntKind.i64.wrap (BitVec.ofInt IntKind.i64.bits x ^^^ BitVec.ofInt IntKind.i64.bits (2147483648:Int)).toNat))
noncomputable def k181 (n:Nat):Con P_ Ty_:=ze (X:=Int) (R:=Int) (pro:=[]) (y63 n) 98 y64 (fun x=>.no) [.any] [] [] ⟨[(2,.any)],[]⟩ [] true (fun x=>[I_ x]) (fun x=>[]) (fun y=>([(2,I_ y)],[])) (fun y=>I_ y) (fun y=>[]) (zkp n)
noncomputable def y65 (n:Nat):Cx P_ Ty_:=⟨[k69 n],[],[],[]⟩
abbrev y66:List (List Nat):=[[0],[0,5],[2],[2]]
noncomputable def zkq (n:Nat) (x:Int):Pt P_ Ty_ [] Int:=.call (k69 n) x fun (y1:Yah)=>.ite y1.2.2.2.2 (.leaf (2143289344:Int)) (.leaf (IntKind.i64.wrap (BitVec.ofInt IntKind.i64.bits x &&& ~~~BitVec.ofInt IntKind.i64.bits (2147483648:Int)).toNat))
noncomputable def k182 (n:Nat):Con P_ Ty_:=ze (X:=Int) (R:=Int) (pro:=[]) (y65 n) 99 y66 (fun x=>.no) [.any] [] [] ⟨[(2,.any)],[]⟩ [] true (fun x=>[I_ x]) (fun x=>[]) (fun y=>([(2,I_ y)],[])) (fun y=>I_ y) (fun y=>[]) (zkq n)
noncomputable def y67 (n:Nat):Cx P_ Ty_:=⟨[],[],[],[]⟩
abbrev y68:List (List Nat):=[[0],[2]]
noncomputable def zkr (n:Nat) (x:Int):Pt P_ Ty_ [] Bool:=.leaf (decide ((x.tmod (2147483648:Int))<(2139095040:Int)))
noncomputable def k183 (n:Nat):Con P_ Ty_:=ze (X:=Int) (R:=Bool) (pro:=[]) (y67 n) 101 y68 (fun x=>.no) [.any] [] [] ⟨[(2,.any)],[]⟩ [] true (fun x=>[I_ x]) (fun x=>[]) (fun y=>([(2,B_ y)],[])) (fun y=>B_ y) (fun y=>[]) (zkr n)
noncomputable def y69 (n:Nat):Cx P_ Ty_:=⟨[],[],[],[]⟩
abbrev y6a:List (List Nat):=[[0],[3],[2],[2]]
noncomputable def zks (n:Nat) (x:Bool):Pt P_ Ty_ [] Int:=.ite x (.leaf (1065353216:Int)) (.leaf (0:Int))
noncomputable def k184 (n:Nat):Con P_ Ty_:=ze (X:=Bool) (R:=Int) (pro:=[]) (y69 n) 100 y6a (fun x=>.no) [.any] [] [] ⟨[(2,.any)],[]⟩ [] true (fun x=>[B_ x]) (fun x=>[]) (fun y=>([(2,I_ y)],[])) (fun y=>I_ y) (fun y=>[]) (zks n)
noncomputable def y54 (n:Nat):Cx P_ Ty_:=⟨[],[],[],[]⟩
abbrev y55:List (List Nat):=[[2,3],[4]]
noncomputable def zk4 (n:Nat) (x:Ybf):Pt P_ Ty_ [] Bool:=.ite x.1.Nan_ (.leaf true) (.leaf x.2.Nan_)
noncomputable def k159 (n:Nat):Con P_ Ty_:=ze (X:=Ybf) (R:=Bool) (pro:=[]) (y54 n) 88 y55 (fun x=>.no) [.ag [.any,.any,.any,.any,.any],.ag [.any,.any,.any,.any,.any]] [] [] ⟨[(4,.any)],[]⟩ [] true (fun x=>[.ag [B_ x.1.Minus_,.sc (.int .u64 x.1.M_),I_ x.1.E_,B_ x.1.Inf_,B_ x.1.Nan_],.ag [B_ x.2.Minus_,.sc (.int .u64 x.2.M_),I_ x.2.E_,B_ x.2.Inf_,B_ x.2.Nan_]]) (fun x=>[]) (fun y=>([(4,B_ y)],[])) (fun y=>B_ y) (fun y=>[]) (zk4 n)
noncomputable def y5m (n:Nat):Cx P_ Ty_:=⟨[k163 n,k162 n],[],[],[]⟩
abbrev y5n:List (List Nat):=[[2,3],[2,3,5],[2,3,5],[2,3,5,7],[2,3,5,7,16],[2,3,6,7],[2,3,6],[2,3,6,7],[2,3,6,7],[3,6,7,32],[3,6,7],[3,6,7,36],[6,7],[6,7],[6,7,48],[4],[6,7,51],[4],[4]]
noncomputable def znn (x:Ybf) (p:Yal):EH Ty_:=([(2,.pt 2 [] 0 0),(3,.pt 3 [] 0 0),(6,I_ p.1),(7,I_ p.2.1)],[(2,.lit 5 [[B_ x.1.Minus_,.sc (.int .u64 x.1.M_),I_ x.1.E_,B_ x.1.Inf_,B_ x.1.Nan_]]),(3,.lit 5 [[B_ x.2.Minus_,.sc (.int .u64 p.2.2),I_ x.2.E_,B_ x.2.Inf_,B_ x.2.Nan_]])])
noncomputable def zno (x:Ybf) (p:Yal):EH Ty_:=([(3,.pt 3 [] 0 0),(6,I_ p.1),(7,I_ p.2.1)],[(3,.lit 5 [[B_ x.2.Minus_,.sc (.int .u64 p.2.2),I_ x.2.E_,B_ x.2.Inf_,B_ x.2.Nan_]])])
noncomputable def znp (x:Ybf) (p:Yaa):EH Ty_:=([(6,I_ p.1),(7,I_ p.2)],[])
noncomputable def zke (n:Nat) (x:Ybf):Pt P_ Ty_ [] Int:=.join (S:=Yal) (znn x) (.ite (decide ((IntKind.i64.wrap (x.1.E_ - x.2.E_))≤(36:Int))) (.need (0≤(IntKind.u64.wrap (IntKind.i64.wrap (x.1.E_ - x.2.E_)))) (.leaf (.inl ((IntKind.i64.wrap (IntKind.u64.wrap (x.1.M_ * 2 ^ min (IntKind.u64.wrap (IntKind.i64.wrap (x.1.E_ - x.2.E_))).toNat IntKind.u64.bits))),x.2.E_,x.2.M_)))) (.leaf (.inl ((IntKind.i64.wrap (IntKind.u64.wrap (x.1.M_ * 2 ^ min (36:Int).toNat IntKind.u64.bits))),(IntKind.i64.wrap (x.1.E_ - (36:Int))),(1:Int))))) fun s1=>.join (S:=Yal) (zno x) (.ite x.1.Minus_ (.leaf (.inl ((IntKind.i64.wrap (0 - s1.1)),s1.2.1,s1.2.2))) (.leaf (.inl (s1.1,s1.2.1,s1.2.2)))) fun s2=>.join (S:=Yaa) (znp x) (.ite x.2.Minus_ (.leaf (.inl ((IntKind.i64.wrap (s2.1 - (IntKind.i64.wrap s2.2.2))),s2.2.1))) (.leaf (.inl ((IntKind.i64.wrap (s2.1+(IntKind.i64.wrap s2.2.2))),s2.2.1)))) fun s3=>.ite (s3.1==0) (.call (k163 n) false fun (y1:Int)=>.leaf y1) (.ite (decide (s3.1<(0:Int))) (.call (k162 n) (true,(IntKind.u64.wrap (IntKind.i64.wrap (0 - s3.1))),s3.2) fun (y2:Int)=>.leaf y2) (.call (k162 n) (false,(IntKind.u64.wrap s3.1),s3.2) fun (y3:Int)=>.leaf y3))
noncomputable def k169 (n:Nat):Con P_ Ty_:=ze (X:=Ybf) (R:=Int) (pro:=[]) (y5m n) 93 y5n (fun x=>.two .no (.two .no (.two .no (.two .no (.join (Yal) (znn x) ⟨[(2,.ref 2),(3,.ref 3),(6,.any),(7,.any)],[(2,.any),(3,.any)]⟩ .no (.join (Yal) (zno x) ⟨[(3,.ref 3),(6,.any),(7,.any)],[(3,.any)]⟩ .no (.join (Yaa) (znp x) ⟨[(6,.any),(7,.any)],[]⟩ .no .no))))))) [.ag [.any,.any,.any,.any,.any],.ag [.any,.any,.any,.any,.any]] [] [] ⟨[(4,.any)],[]⟩ [] true (fun x=>[.ag [B_ x.1.Minus_,.sc (.int .u64 x.1.M_),I_ x.1.E_,B_ x.1.Inf_,B_ x.1.Nan_],.ag [B_ x.2.Minus_,.sc (.int .u64 x.2.M_),I_ x.2.E_,B_ x.2.Inf_,B_ x.2.Nan_]]) (fun x=>[]) (fun y=>([(4,I_ y)],[])) (fun y=>I_ y) (fun y=>[]) (zke n)
noncomputable def y5k (n:Nat):Cx P_ Ty_:=⟨[k69 n,k159 n,k160 n,k163 n,k162 n,k169 n],[],[],[]⟩
abbrev y5l:List (List Nat):=[[0,1],[1,5],[5,6],[5,6,11],[4],[5,6,30],[4],[5,6,36],[4],[5,6,42],[4],[5,6,58],[4],[5,6,69],[4],[5,6,84],[5,6],[4]]
noncomputable def znk (x:Yaa) (p:Ybl):EH Ty_:=([(5,.pt 5 [] 0 0),(6,.pt 6 [] 0 0),(11,B_ p.1)],[(5,.lit 5 [[B_ p.2.1,.sc (.int .u64 p.2.2.1),I_ p.2.2.2.1,B_ p.2.2.2.2.1,B_ p.2.2.2.2.2.1]]),(6,.lit 5 [[B_ p.2.2.2.2.2.2.1,.sc (.int .u64 p.2.2.2.2.2.2.2.1),I_ p.2.2.2.2.2.2.2.2.1,B_ p.2.2.2.2.2.2.2.2.2.1,B_ p.2.2.2.2.2.2.2.2.2.2]])])
noncomputable def znl (x:Yaa) (p:Ybl):EH Ty_:=([(5,.pt 5 [] 0 0),(6,.pt 6 [] 0 0),(42,B_ p.1)],[(5,.lit 5 [[B_ p.2.1,.sc (.int .u64 p.2.2.1),I_ p.2.2.2.1,B_ p.2.2.2.2.1,B_ p.2.2.2.2.2.1]]),(6,.lit 5 [[B_ p.2.2.2.2.2.2.1,.sc (.int .u64 p.2.2.2.2.2.2.2.1),I_ p.2.2.2.2.2.2.2.2.1,B_ p.2.2.2.2.2.2.2.2.2.1,B_ p.2.2.2.2.2.2.2.2.2.2]])])
noncomputable def znm (x:Yaa) (p:Ycm):EH Ty_:=([(5,.pt 5 [] 0 0),(6,.pt 6 [] 0 0)],[(5,.lit 5 [[B_ p.1,.sc (.int .u64 p.2.1),I_ p.2.2.1,B_ p.2.2.2.1,B_ p.2.2.2.2.1]]),(6,.lit 5 [[B_ p.2.2.2.2.2.1,.sc (.int .u64 p.2.2.2.2.2.2.1),I_ p.2.2.2.2.2.2.2.1,B_ p.2.2.2.2.2.2.2.2.1,B_ p.2.2.2.2.2.2.2.2.2]])])
noncomputable def zkd (n:Nat) (x:Yaa):Pt P_ Ty_ [] Int:=.call (k69 n) x.1 fun (y1:Yah)=>.call (k69 n) x.2 fun (y2:Yah)=>.join (S:=Ybl) (znk x) (.call (k159 n) ((⟨y1.1,y1.2.1,y1.2.2.1,y1.2.2.2.1,y1.2.2.2.2⟩:Xk),(⟨y2.1,y2.2.1,y2.2.2.1,y2.2.2.2.1,y2.2.2.2.2⟩:Xk)) fun (y3:Bool)=>.ite y3 (.leaf (.inl (true,y1.1,y1.2.1,y1.2.2.1,y1.2.2.2.1,y1.2.2.2.2,y2.1,y2.2.1,y2.2.2.1,y2.2.2.2.1,y2.2.2.2.2))) (.ite y1.2.2.2.1 (.ite y2.2.2.2.1 (.leaf (.inl ((y1.1 != y2.1),y1.1,y1.2.1,y1.2.2.1,y1.2.2.2.1,y1.2.2.2.2,y2.1,y2.2.1,y2.2.2.1,y2.2.2.2.1,y2.2.2.2.2))) (.leaf (.inl (false,y1.1,y1.2.1,y1.2.2.1,y1.2.2.2.1,y1.2.2.2.2,y2.1,y2.2.1,y2.2.2.1,y2.2.2.2.1,y2.2.2.2.2)))) (.leaf (.inl (false,y1.1,y1.2.1,y1.2.2.1,y1.2.2.2.1,y1.2.2.2.2,y2.1,y2.2.1,y2.2.2.1,y2.2.2.2.1,y2.2.2.2.2))))) fun s1=>.ite s1.1 (.leaf (2143289344:Int)) (.ite s1.2.2.2.2.1 (.call (k160 n) s1.2.1 fun (y4:Int)=>.leaf y4) (.ite s1.2.2.2.2.2.2.2.2.2.1 (.call (k160 n) s1.2.2.2.2.2.2.1 fun (y5:Int)=>.leaf y5) (.join (S:=Ybl) (znl x) (.ite (s1.2.2.1==0) (.leaf (.inl ((s1.2.2.2.2.2.2.2.1==0),s1.2.1,s1.2.2.1,s1.2.2.2.1,s1.2.2.2.2.1,s1.2.2.2.2.2.1,s1.2.2.2.2.2.2.1,s1.2.2.2.2.2.2.2.1,s1.2.2.2.2.2.2.2.2.1,s1.2.2.2.2.2.2.2.2.2.1,s1.2.2.2.2.2.2.2.2.2.2))) (.leaf (.inl (false,s1.2.1,s1.2.2.1,s1.2.2.2.1,s1.2.2.2.2.1,s1.2.2.2.2.2.1,s1.2.2.2.2.2.2.1,s1.2.2.2.2.2.2.2.1,s1.2.2.2.2.2.2.2.2.1,s1.2.2.2.2.2.2.2.2.2.1,s1.2.2.2.2.2.2.2.2.2.2)))) fun s2=>.ite s2.1 (.ite s2.2.1 (.call (k163 n) s2.2.2.2.2.2.2.1 fun (y6:Int)=>.leaf y6) (.call (k163 n) false fun (y7:Int)=>.leaf y7)) (.ite (s2.2.2.1==0) (.call (k162 n) (s2.2.2.2.2.2.2.1,s2.2.2.2.2.2.2.2.1,s2.2.2.2.2.2.2.2.2.1) fun (y8:Int)=>.leaf y8) (.ite (s2.2.2.2.2.2.2.2.1==0) (.call (k162 n) (s2.2.1,s2.2.2.1,s2.2.2.2.1) fun (y9:Int)=>.leaf y9) (.join (S:=Ycm) (znm x) (.ite (decide (s2.2.2.2.1<s2.2.2.2.2.2.2.2.2.1)) (.leaf (.inl (s2.2.2.2.2.2.2.1,s2.2.2.2.2.2.2.2.1,s2.2.2.2.2.2.2.2.2.1,s2.2.2.2.2.2.2.2.2.2.1,s2.2.2.2.2.2.2.2.2.2.2,s2.2.1,s2.2.2.1,s2.2.2.2.1,s2.2.2.2.2.1,s2.2.2.2.2.2.1))) (.leaf (.inl (s2.2.1,s2.2.2.1,s2.2.2.2.1,s2.2.2.2.2.1,s2.2.2.2.2.2.1,s2.2.2.2.2.2.2.1,s2.2.2.2.2.2.2.2.1,s2.2.2.2.2.2.2.2.2.1,s2.2.2.2.2.2.2.2.2.2.1,s2.2.2.2.2.2.2.2.2.2.2)))) fun s3=>.call (k169 n) ((⟨s3.1,s3.2.1,s3.2.2.1,s3.2.2.2.1,s3.2.2.2.2.1⟩:Xk),(⟨s3.2.2.2.2.2.1,s3.2.2.2.2.2.2.1,s3.2.2.2.2.2.2.2.1,s3.2.2.2.2.2.2.2.2.1,s3.2.2.2.2.2.2.2.2.2⟩:Xk)) fun (y10:Int)=>.leaf y10))))))
noncomputable def k168 (n:Nat):Con P_ Ty_:=ze (X:=Yaa) (R:=Int) (pro:=[]) (y5k n) 77 y5l (fun x=>.two .no (.two .no (.two .no (.two (.two (.join (Ybl) (znk x) ⟨[(5,.ref 5),(6,.ref 6),(11,.any)],[(5,.any),(6,.any)]⟩ .no (.two .no (.two .no (.two .no (.two .no (.two .no (.join (Ybl) (znl x) ⟨[(5,.ref 5),(6,.ref 6),(42,.any)],[(5,.any),(6,.any)]⟩ .no .no))))))) .no) (.join (Ycm) (znm x) ⟨[(5,.ref 5),(6,.ref 6)],[(5,.any),(6,.any)]⟩ .no .no))))) [.any,.any] [] [] ⟨[(4,.any)],[]⟩ [] true (fun x=>[I_ x.1,I_ x.2]) (fun x=>[]) (fun y=>([(4,I_ y)],[])) (fun y=>I_ y) (fun y=>[]) (zkd n)
noncomputable def y6b (n:Nat):Cx P_ Ty_:=⟨[k181 n,k168 n],[],[],[]⟩
abbrev y6c:List (List Nat):=[[0,1],[4]]
noncomputable def zkt (n:Nat) (x:Yaa):Pt P_ Ty_ [] Int:=.call (k181 n) x.2 fun (y1:Int)=>.call (k168 n) (x.1,y1) fun (y2:Int)=>.leaf y2
noncomputable def k185 (n:Nat):Con P_ Ty_:=ze (X:=Yaa) (R:=Int) (pro:=[]) (y6b n) 102 y6c (fun x=>.no) [.any,.any] [] [] ⟨[(4,.any)],[]⟩ [] true (fun x=>[I_ x.1,I_ x.2]) (fun x=>[]) (fun y=>([(4,I_ y)],[])) (fun y=>I_ y) (fun y=>[]) (zkt n)
noncomputable def y52 (n:Nat):Cx P_ Ty_:=⟨[k69 n,k159 n,k160 n,k162 n],[],[],[]⟩
abbrev y53:List (List Nat):=[[0,1],[1,5],[5,6],[5,6,7],[5,6,7,17],[4],[5,6,7,49],[4],[4]]
noncomputable def znd (x:Yaa) (p:Yap):EH Ty_:=([(5,.pt 5 [] 0 0),(6,.pt 6 [] 0 0),(7,B_ p.1),(17,B_ p.2.1)],[(5,.lit 5 [[B_ p.2.2.1,.sc (.int .u64 p.2.2.2.1),I_ p.2.2.2.2.1,B_ p.2.2.2.2.2.1,B_ p.2.2.2.2.2.2.1]]),(6,.lit 5 [[B_ p.2.2.2.2.2.2.2.1,.sc (.int .u64 p.2.2.2.2.2.2.2.2.1),I_ p.2.2.2.2.2.2.2.2.2.1,B_ p.2.2.2.2.2.2.2.2.2.2.1,B_ p.2.2.2.2.2.2.2.2.2.2.2]])])
noncomputable def zne (x:Yaa) (p:Yap):EH Ty_:=([(5,.pt 5 [] 0 0),(6,.pt 6 [] 0 0),(7,B_ p.1),(49,B_ p.2.1)],[(5,.lit 5 [[B_ p.2.2.1,.sc (.int .u64 p.2.2.2.1),I_ p.2.2.2.2.1,B_ p.2.2.2.2.2.1,B_ p.2.2.2.2.2.2.1]]),(6,.lit 5 [[B_ p.2.2.2.2.2.2.2.1,.sc (.int .u64 p.2.2.2.2.2.2.2.2.1),I_ p.2.2.2.2.2.2.2.2.2.1,B_ p.2.2.2.2.2.2.2.2.2.2.1,B_ p.2.2.2.2.2.2.2.2.2.2.2]])])
noncomputable def zk3 (n:Nat) (x:Yaa):Pt P_ Ty_ [] Int:=.call (k69 n) x.1 fun (y1:Yah)=>.call (k69 n) x.2 fun (y2:Yah)=>.join (S:=Yap) (znd x) (.call (k159 n) ((⟨y1.1,y1.2.1,y1.2.2.1,y1.2.2.2.1,y1.2.2.2.2⟩:Xk),(⟨y2.1,y2.2.1,y2.2.2.1,y2.2.2.2.1,y2.2.2.2.2⟩:Xk)) fun (y3:Bool)=>.ite y3 (.leaf (.inl ((y1.1 != y2.1),true,y1.1,y1.2.1,y1.2.2.1,y1.2.2.2.1,y1.2.2.2.2,y2.1,y2.2.1,y2.2.2.1,y2.2.2.2.1,y2.2.2.2.2))) (.ite y1.2.2.2.1 (.ite (!y2.2.2.2.1) (.ite (y2.2.1==0) (.leaf (.inl ((y1.1 != y2.1),true,y1.1,y1.2.1,y1.2.2.1,y1.2.2.2.1,y1.2.2.2.2,y2.1,y2.2.1,y2.2.2.1,y2.2.2.2.1,y2.2.2.2.2))) (.ite y2.2.2.2.1 (.ite (!y1.2.2.2.1) (.leaf (.inl ((y1.1 != y2.1),(y1.2.1==0),y1.1,y1.2.1,y1.2.2.1,y1.2.2.2.1,y1.2.2.2.2,y2.1,y2.2.1,y2.2.2.1,y2.2.2.2.1,y2.2.2.2.2))) (.leaf (.inl ((y1.1 != y2.1),false,y1.1,y1.2.1,y1.2.2.1,y1.2.2.2.1,y1.2.2.2.2,y2.1,y2.2.1,y2.2.2.1,y2.2.2.2.1,y2.2.2.2.2)))) (.leaf (.inl ((y1.1 != y2.1),false,y1.1,y1.2.1,y1.2.2.1,y1.2.2.2.1,y1.2.2.2.2,y2.1,y2.2.1,y2.2.2.1,y2.2.2.2.1,y2.2.2.2.2))))) (.ite y2.2.2.2.1 (.ite (!y1.2.2.2.1) (.leaf (.inl ((y1.1 != y2.1),(y1.2.1==0),y1.1,y1.2.1,y1.2.2.1,y1.2.2.2.1,y1.2.2.2.2,y2.1,y2.2.1,y2.2.2.1,y2.2.2.2.1,y2.2.2.2.2))) (.leaf (.inl ((y1.1 != y2.1),false,y1.1,y1.2.1,y1.2.2.1,y1.2.2.2.1,y1.2.2.2.2,y2.1,y2.2.1,y2.2.2.1,y2.2.2.2.1,y2.2.2.2.2)))) (.leaf (.inl ((y1.1 != y2.1),false,y1.1,y1.2.1,y1.2.2.1,y1.2.2.2.1,y1.2.2.2.2,y2.1,y2.2.1,y2.2.2.1,y2.2.2.2.1,y2.2.2.2.2))))) (.ite y2.2.2.2.1 (.ite (!y1.2.2.2.1) (.leaf (.inl ((y1.1 != y2.1),(y1.2.1==0),y1.1,y1.2.1,y1.2.2.1,y1.2.2.2.1,y1.2.2.2.2,y2.1,y2.2.1,y2.2.2.1,y2.2.2.2.1,y2.2.2.2.2))) (.leaf (.inl ((y1.1 != y2.1),false,y1.1,y1.2.1,y1.2.2.1,y1.2.2.2.1,y1.2.2.2.2,y2.1,y2.2.1,y2.2.2.1,y2.2.2.2.1,y2.2.2.2.2)))) (.leaf (.inl ((y1.1 != y2.1),false,y1.1,y1.2.1,y1.2.2.1,y1.2.2.2.1,y1.2.2.2.2,y2.1,y2.2.1,y2.2.2.1,y2.2.2.2.1,y2.2.2.2.2)))))) fun s1=>.ite s1.2.1 (.leaf (2143289344:Int)) (.join (S:=Yap) (zne x) (.ite s1.2.2.2.2.2.1 (.leaf (.inl (s1.1,true,s1.2.2.1,s1.2.2.2.1,s1.2.2.2.2.1,s1.2.2.2.2.2.1,s1.2.2.2.2.2.2.1,s1.2.2.2.2.2.2.2.1,s1.2.2.2.2.2.2.2.2.1,s1.2.2.2.2.2.2.2.2.2.1,s1.2.2.2.2.2.2.2.2.2.2.1,s1.2.2.2.2.2.2.2.2.2.2.2))) (.leaf (.inl (s1.1,s1.2.2.2.2.2.2.2.2.2.2.1,s1.2.2.1,s1.2.2.2.1,s1.2.2.2.2.1,s1.2.2.2.2.2.1,s1.2.2.2.2.2.2.1,s1.2.2.2.2.2.2.2.1,s1.2.2.2.2.2.2.2.2.1,s1.2.2.2.2.2.2.2.2.2.1,s1.2.2.2.2.2.2.2.2.2.2.1,s1.2.2.2.2.2.2.2.2.2.2.2)))) fun s2=>.ite s2.2.1 (.call (k160 n) s2.1 fun (y4:Int)=>.leaf y4) (.call (k162 n) (s2.1,(IntKind.u64.wrap (s2.2.2.2.1 * s2.2.2.2.2.2.2.2.2.1)),(IntKind.i64.wrap (s2.2.2.2.2.1+s2.2.2.2.2.2.2.2.2.2.1))) fun (y5:Int)=>.leaf y5))
noncomputable def k158 (n:Nat):Con P_ Ty_:=ze (X:=Yaa) (R:=Int) (pro:=[]) (y52 n) 75 y53 (fun x=>.two .no (.two .no (.two .no (.two .no (.two (.two (.join (Yap) (znd x) ⟨[(5,.ref 5),(6,.ref 6),(7,.any),(17,.any)],[(5,.any),(6,.any)]⟩ .no (.two .no (.join (Yap) (zne x) ⟨[(5,.ref 5),(6,.ref 6),(7,.any),(49,.any)],[(5,.any),(6,.any)]⟩ .no .no))) .no) .no))))) [.any,.any] [] [] ⟨[(4,.any)],[]⟩ [] true (fun x=>[I_ x.1,I_ x.2]) (fun x=>[]) (fun y=>([(4,I_ y)],[])) (fun y=>I_ y) (fun y=>[]) (zk3 n)
noncomputable def y6d (n:Nat):Cx P_ Ty_:=⟨[k69 n,k159 n,k160 n,k163 n,k180 n,k162 n],[],[],[]⟩
abbrev y6e:List (List Nat):=[[0,1],[1,5],[5,6],[5,6,7],[5,6,7,20],[4],[5,6,7,52],[4],[5,6,7,67],[4],[5,6,7],[5,6,7],[5,6,7,8],[5,6,7,8,9],[5,6,7,9,10],[5,6,7,9,10],[5,6,7,9,95],[5,6,7,9],[4]]
noncomputable def zo0 (x:Yaa) (p:Yap):EH Ty_:=([(5,.pt 5 [] 0 0),(6,.pt 6 [] 0 0),(7,B_ p.1),(20,B_ p.2.1)],[(5,.lit 5 [[B_ p.2.2.1,.sc (.int .u64 p.2.2.2.1),I_ p.2.2.2.2.1,B_ p.2.2.2.2.2.1,B_ p.2.2.2.2.2.2.1]]),(6,.lit 5 [[B_ p.2.2.2.2.2.2.2.1,.sc (.int .u64 p.2.2.2.2.2.2.2.2.1),I_ p.2.2.2.2.2.2.2.2.2.1,B_ p.2.2.2.2.2.2.2.2.2.2.1,B_ p.2.2.2.2.2.2.2.2.2.2.2]])])
noncomputable def zo1 (x:Yaa) (p:Yap):EH Ty_:=([(5,.pt 5 [] 0 0),(6,.pt 6 [] 0 0),(7,B_ p.1),(52,B_ p.2.1)],[(5,.lit 5 [[B_ p.2.2.1,.sc (.int .u64 p.2.2.2.1),I_ p.2.2.2.2.1,B_ p.2.2.2.2.2.1,B_ p.2.2.2.2.2.2.1]]),(6,.lit 5 [[B_ p.2.2.2.2.2.2.2.1,.sc (.int .u64 p.2.2.2.2.2.2.2.2.1),I_ p.2.2.2.2.2.2.2.2.2.1,B_ p.2.2.2.2.2.2.2.2.2.2.1,B_ p.2.2.2.2.2.2.2.2.2.2.2]])])
noncomputable def zo2 (x:Yaa) (p:Yap):EH Ty_:=([(5,.pt 5 [] 0 0),(6,.pt 6 [] 0 0),(7,B_ p.1),(67,B_ p.2.1)],[(5,.lit 5 [[B_ p.2.2.1,.sc (.int .u64 p.2.2.2.1),I_ p.2.2.2.2.1,B_ p.2.2.2.2.2.1,B_ p.2.2.2.2.2.2.1]]),(6,.lit 5 [[B_ p.2.2.2.2.2.2.2.1,.sc (.int .u64 p.2.2.2.2.2.2.2.2.1),I_ p.2.2.2.2.2.2.2.2.2.1,B_ p.2.2.2.2.2.2.2.2.2.2.1,B_ p.2.2.2.2.2.2.2.2.2.2.2]])])
noncomputable def zo3 (x:Yaa) (p:Ycf):EH Ty_:=([(5,.pt 5 [] 0 0),(6,.pt 6 [] 0 0),(7,B_ p.1),(9,.sc (.int .u64 p.2.1))],[(5,.lit 5 [[B_ p.2.2.1,.sc (.int .u64 p.2.2.2.1),I_ p.2.2.2.2.1,B_ p.2.2.2.2.2.1,B_ p.2.2.2.2.2.2.1]]),(6,.lit 5 [[B_ p.2.2.2.2.2.2.2.1,.sc (.int .u64 p.2.2.2.2.2.2.2.2.1),I_ p.2.2.2.2.2.2.2.2.2.1,B_ p.2.2.2.2.2.2.2.2.2.2.1,B_ p.2.2.2.2.2.2.2.2.2.2.2]])])
noncomputable def zku (n:Nat) (x:Yaa):Pt P_ Ty_ [] Int:=.call (k69 n) x.1 fun (y1:Yah)=>.call (k69 n) x.2 fun (y2:Yah)=>.join (S:=Yap) (zo0 x) (.call (k159 n) ((⟨y1.1,y1.2.1,y1.2.2.1,y1.2.2.2.1,y1.2.2.2.2⟩:Xk),(⟨y2.1,y2.2.1,y2.2.2.1,y2.2.2.2.1,y2.2.2.2.2⟩:Xk)) fun (y3:Bool)=>.ite y3 (.leaf (.inl ((y1.1 != y2.1),true,y1.1,y1.2.1,y1.2.2.1,y1.2.2.2.1,y1.2.2.2.2,y2.1,y2.2.1,y2.2.2.1,y2.2.2.2.1,y2.2.2.2.2))) (.ite y1.2.2.2.1 (.ite y2.2.2.2.1 (.leaf (.inl ((y1.1 != y2.1),true,y1.1,y1.2.1,y1.2.2.1,y1.2.2.2.1,y1.2.2.2.2,y2.1,y2.2.1,y2.2.2.1,y2.2.2.2.1,y2.2.2.2.2))) (.ite (!y1.2.2.2.1) (.ite (!y2.2.2.2.1) (.ite (y1.2.1==0) (.leaf (.inl ((y1.1 != y2.1),(y2.2.1==0),y1.1,y1.2.1,y1.2.2.1,y1.2.2.2.1,y1.2.2.2.2,y2.1,y2.2.1,y2.2.2.1,y2.2.2.2.1,y2.2.2.2.2))) (.leaf (.inl ((y1.1 != y2.1),false,y1.1,y1.2.1,y1.2.2.1,y1.2.2.2.1,y1.2.2.2.2,y2.1,y2.2.1,y2.2.2.1,y2.2.2.2.1,y2.2.2.2.2)))) (.leaf (.inl ((y1.1 != y2.1),false,y1.1,y1.2.1,y1.2.2.1,y1.2.2.2.1,y1.2.2.2.2,y2.1,y2.2.1,y2.2.2.1,y2.2.2.2.1,y2.2.2.2.2)))) (.leaf (.inl ((y1.1 != y2.1),false,y1.1,y1.2.1,y1.2.2.1,y1.2.2.2.1,y1.2.2.2.2,y2.1,y2.2.1,y2.2.2.1,y2.2.2.2.1,y2.2.2.2.2))))) (.ite (!y1.2.2.2.1) (.ite (!y2.2.2.2.1) (.ite (y1.2.1==0) (.leaf (.inl ((y1.1 != y2.1),(y2.2.1==0),y1.1,y1.2.1,y1.2.2.1,y1.2.2.2.1,y1.2.2.2.2,y2.1,y2.2.1,y2.2.2.1,y2.2.2.2.1,y2.2.2.2.2))) (.leaf (.inl ((y1.1 != y2.1),false,y1.1,y1.2.1,y1.2.2.1,y1.2.2.2.1,y1.2.2.2.2,y2.1,y2.2.1,y2.2.2.1,y2.2.2.2.1,y2.2.2.2.2)))) (.leaf (.inl ((y1.1 != y2.1),false,y1.1,y1.2.1,y1.2.2.1,y1.2.2.2.1,y1.2.2.2.2,y2.1,y2.2.1,y2.2.2.1,y2.2.2.2.1,y2.2.2.2.2)))) (.leaf (.inl ((y1.1 != y2.1),false,y1.1,y1.2.1,y1.2.2.1,y1.2.2.2.1,y1.2.2.2.2,y2.1,y2.2.1,y2.2.2.1,y2.2.2.2.1,y2.2.2.2.2)))))) fun s1=>.ite s1.2.1 (.leaf (2143289344:Int)) (.join (S:=Yap) (zo1 x) (.ite s1.2.2.2.2.2.1 (.leaf (.inl (s1.1,true,s1.2.2.1,s1.2.2.2.1,s1.2.2.2.2.1,s1.2.2.2.2.2.1,s1.2.2.2.2.2.2.1,s1.2.2.2.2.2.2.2.1,s1.2.2.2.2.2.2.2.2.1,s1.2.2.2.2.2.2.2.2.2.1,s1.2.2.2.2.2.2.2.2.2.2.1,s1.2.2.2.2.2.2.2.2.2.2.2))) (.ite (!s1.2.2.2.2.2.2.2.2.2.2.1) (.leaf (.inl (s1.1,(s1.2.2.2.2.2.2.2.2.1==0),s1.2.2.1,s1.2.2.2.1,s1.2.2.2.2.1,s1.2.2.2.2.2.1,s1.2.2.2.2.2.2.1,s1.2.2.2.2.2.2.2.1,s1.2.2.2.2.2.2.2.2.1,s1.2.2.2.2.2.2.2.2.2.1,s1.2.2.2.2.2.2.2.2.2.2.1,s1.2.2.2.2.2.2.2.2.2.2.2))) (.leaf (.inl (s1.1,false,s1.2.2.1,s1.2.2.2.1,s1.2.2.2.2.1,s1.2.2.2.2.2.1,s1.2.2.2.2.2.2.1,s1.2.2.2.2.2.2.2.1,s1.2.2.2.2.2.2.2.2.1,s1.2.2.2.2.2.2.2.2.2.1,s1.2.2.2.2.2.2.2.2.2.2.1,s1.2.2.2.2.2.2.2.2.2.2.2))))) fun s2=>.ite s2.2.1 (.call (k160 n) s2.1 fun (y4:Int)=>.leaf y4) (.join (S:=Yap) (zo2 x) (.ite s2.2.2.2.2.2.2.2.2.2.2.1 (.leaf (.inl (s2.1,true,s2.2.2.1,s2.2.2.2.1,s2.2.2.2.2.1,s2.2.2.2.2.2.1,s2.2.2.2.2.2.2.1,s2.2.2.2.2.2.2.2.1,s2.2.2.2.2.2.2.2.2.1,s2.2.2.2.2.2.2.2.2.2.1,s2.2.2.2.2.2.2.2.2.2.2.1,s2.2.2.2.2.2.2.2.2.2.2.2))) (.leaf (.inl (s2.1,(s2.2.2.2.1==0),s2.2.2.1,s2.2.2.2.1,s2.2.2.2.2.1,s2.2.2.2.2.2.1,s2.2.2.2.2.2.2.1,s2.2.2.2.2.2.2.2.1,s2.2.2.2.2.2.2.2.2.1,s2.2.2.2.2.2.2.2.2.2.1,s2.2.2.2.2.2.2.2.2.2.2.1,s2.2.2.2.2.2.2.2.2.2.2.2)))) fun s3=>.ite s3.2.1 (.call (k163 n) s3.1 fun (y5:Int)=>.leaf y5) (.call (k180 n) (⟨s3.2.2.1,s3.2.2.2.1,s3.2.2.2.2.1,s3.2.2.2.2.2.1,s3.2.2.2.2.2.2.1⟩:Xk) fun (y6:Yah)=>.call (k180 n) (⟨s3.2.2.2.2.2.2.2.1,s3.2.2.2.2.2.2.2.2.1,s3.2.2.2.2.2.2.2.2.2.1,s3.2.2.2.2.2.2.2.2.2.2.1,s3.2.2.2.2.2.2.2.2.2.2.2⟩:Xk) fun (y7:Yah)=>.need (y7.2.1 ≠ 0) (.need (y7.2.1 ≠ 0) (.join (S:=Ycf) (zo3 x) (.ite (decide (((IntKind.u64.wrap (y6.2.1 * 2 ^ min (38:Int).toNat IntKind.u64.bits)).tmod y7.2.1) > (0:Int))) (.leaf (.inl (s3.1,(IntKind.u64.wrap ((IntKind.u64.wrap ((IntKind.u64.wrap ((IntKind.u64.wrap (y6.2.1 * 2 ^ min (38:Int).toNat IntKind.u64.bits)).tdiv y7.2.1)) * (2:Int)))+(1:Int))),y6.1,y6.2.1,y6.2.2.1,y6.2.2.2.1,y6.2.2.2.2,y7.1,y7.2.1,y7.2.2.1,y7.2.2.2.1,y7.2.2.2.2))) (.leaf (.inl (s3.1,(IntKind.u64.wrap ((IntKind.u64.wrap ((IntKind.u64.wrap (y6.2.1 * 2 ^ min (38:Int).toNat IntKind.u64.bits)).tdiv y7.2.1)) * (2:Int))),y6.1,y6.2.1,y6.2.2.1,y6.2.2.2.1,y6.2.2.2.2,y7.1,y7.2.1,y7.2.2.1,y7.2.2.2.1,y7.2.2.2.2)))) fun s4=>.call (k162 n) (s4.1,s4.2.1,(IntKind.i64.wrap ((IntKind.i64.wrap (s4.2.2.2.2.1 - s4.2.2.2.2.2.2.2.2.2.1)) - (39:Int)))) fun (y8:Int)=>.leaf y8)))))
noncomputable def k186 (n:Nat):Con P_ Ty_:=ze (X:=Yaa) (R:=Int) (pro:=[]) (y6d n) 103 y6e (fun x=>.two .no (.two .no (.two .no (.two .no (.two (.two (.join (Yap) (zo0 x) ⟨[(5,.ref 5),(6,.ref 6),(7,.any),(20,.any)],[(5,.any),(6,.any)]⟩ .no (.two .no (.join (Yap) (zo1 x) ⟨[(5,.ref 5),(6,.ref 6),(7,.any),(52,.any)],[(5,.any),(6,.any)]⟩ .no (.two .no (.join (Yap) (zo2 x) ⟨[(5,.ref 5),(6,.ref 6),(7,.any),(67,.any)],[(5,.any),(6,.any)]⟩ .no .no))))) .no) (.two .no (.two .no (.two .no (.two .no (.two .no (.two .no (.join (Ycf) (zo3 x) ⟨[(5,.ref 5),(6,.ref 6),(7,.any),(9,.any)],[(5,.any),(6,.any)]⟩ .no .no)))))))))))) [.any,.any] [] [] ⟨[(4,.any)],[]⟩ [] true (fun x=>[I_ x.1,I_ x.2]) (fun x=>[]) (fun y=>([(4,I_ y)],[])) (fun y=>I_ y) (fun y=>[]) (zku n)
noncomputable def y5q (n:Nat):Cx P_ Ty_:=⟨[],[],[],[]⟩
abbrev y5r:List (List Nat):=[[0],[0,3],[3,8],[2],[2]]
noncomputable def zkh (n:Nat) (x:Int):Pt P_ Ty_ [] Int:=.ite ((x.fdiv (2 ^ min (31:Int).toNat IntKind.i64.bits))==1) (.leaf (IntKind.i64.wrap ((IntKind.i64.wrap (0 - (IntKind.i64.wrap (BitVec.ofInt IntKind.i64.bits x &&& ~~~BitVec.ofInt IntKind.i64.bits (2147483648:Int)).toNat))) - (1:Int)))) (.leaf (IntKind.i64.wrap (BitVec.ofInt IntKind.i64.bits x &&& ~~~BitVec.ofInt IntKind.i64.bits (2147483648:Int)).toNat))
noncomputable def k172 (n:Nat):Con P_ Ty_:=ze (X:=Int) (R:=Int) (pro:=[]) (y5q n) 94 y5r (fun x=>.no) [.any] [] [] ⟨[(2,.any)],[]⟩ [] true (fun x=>[I_ x]) (fun x=>[]) (fun y=>([(2,I_ y)],[])) (fun y=>I_ y) (fun y=>[]) (zkh n)
noncomputable def y5o (n:Nat):Cx P_ Ty_:=⟨[k69 n,k159 n,k172 n],[],[],[]⟩
abbrev y5p:List (List Nat):=[[0,1],[0,1,9],[4],[0,1,14],[4],[4]]
noncomputable def zkg (n:Nat) (x:Yaa):Pt P_ Ty_ [] Int:=.call (k69 n) x.1 fun (y1:Yah)=>.call (k69 n) x.2 fun (y2:Yah)=>.call (k159 n) ((⟨y1.1,y1.2.1,y1.2.2.1,y1.2.2.2.1,y1.2.2.2.2⟩:Xk),(⟨y2.1,y2.2.1,y2.2.2.1,y2.2.2.2.1,y2.2.2.2.2⟩:Xk)) fun (y3:Bool)=>.ite y3 (.leaf (2143289344:Int)) (.call (k172 n) x.2 fun (y4:Int)=>.call (k172 n) x.1 fun (y5:Int)=>.ite (decide (y4<y5)) (.leaf x.2) (.leaf x.1))
noncomputable def k171 (n:Nat):Con P_ Ty_:=ze (X:=Yaa) (R:=Int) (pro:=[]) (y5o n) 78 y5p (fun x=>.no) [.any,.any] [] [] ⟨[(4,.any)],[]⟩ [] true (fun x=>[I_ x.1,I_ x.2]) (fun x=>[]) (fun y=>([(4,I_ y)],[])) (fun y=>I_ y) (fun y=>[]) (zkg n)
noncomputable def y6f (n:Nat):Cx P_ Ty_:=⟨[k69 n,k159 n,k172 n],[],[],[]⟩
abbrev y6g:List (List Nat):=[[0,1],[0,1,9],[4],[0,1,14],[4],[4]]
noncomputable def zkv (n:Nat) (x:Yaa):Pt P_ Ty_ [] Int:=.call (k69 n) x.1 fun (y1:Yah)=>.call (k69 n) x.2 fun (y2:Yah)=>.call (k159 n) ((⟨y1.1,y1.2.1,y1.2.2.1,y1.2.2.2.1,y1.2.2.2.2⟩:Xk),(⟨y2.1,y2.2.1,y2.2.2.1,y2.2.2.2.1,y2.2.2.2.2⟩:Xk)) fun (y3:Bool)=>.ite y3 (.leaf (2143289344:Int)) (.call (k172 n) x.2 fun (y4:Int)=>.call (k172 n) x.1 fun (y5:Int)=>.ite (decide (y4 > y5)) (.leaf x.2) (.leaf x.1))
noncomputable def k187 (n:Nat):Con P_ Ty_:=ze (X:=Yaa) (R:=Int) (pro:=[]) (y6f n) 104 y6g (fun x=>.no) [.any,.any] [] [] ⟨[(4,.any)],[]⟩ [] true (fun x=>[I_ x.1,I_ x.2]) (fun x=>[]) (fun y=>([(4,I_ y)],[])) (fun y=>I_ y) (fun y=>[]) (zkv n)
noncomputable def y6j (n:Nat):Cx P_ Ty_:=⟨[],[],[],[]⟩
abbrev y6k:List (List Nat):=[[0],[2]]
noncomputable def zkx (n:Nat) (x:Int):Pt P_ Ty_ [] Bool:=.leaf ((IntKind.i64.wrap (BitVec.ofInt IntKind.i64.bits x &&& ~~~BitVec.ofInt IntKind.i64.bits (2147483648:Int)).toNat)==0)
noncomputable def k189 (n:Nat):Con P_ Ty_:=ze (X:=Int) (R:=Bool) (pro:=[]) (y6j n) 109 y6k (fun x=>.no) [.any] [] [] ⟨[(2,.any)],[]⟩ [] true (fun x=>[I_ x]) (fun x=>[]) (fun y=>([(2,B_ y)],[])) (fun y=>B_ y) (fun y=>[]) (zkx n)
noncomputable def y6h (n:Nat):Cx P_ Ty_:=⟨[k69 n,k159 n,k189 n,k172 n],[],[],[]⟩
abbrev y6i:List (List Nat):=[[0,1],[0,1,17],[4],[4]]
noncomputable def zo4 (x:Yaa) (p:Bool):EH Ty_:=([(0,I_ x.1),(1,I_ x.2),(17,B_ p)],[])
noncomputable def zkw (n:Nat) (x:Yaa):Pt P_ Ty_ [] Bool:=.join (S:=Bool) (zo4 x) (.call (k69 n) x.1 fun (y1:Yah)=>.call (k69 n) x.2 fun (y2:Yah)=>.call (k159 n) ((⟨y1.1,y1.2.1,y1.2.2.1,y1.2.2.2.1,y1.2.2.2.2⟩:Xk),(⟨y2.1,y2.2.1,y2.2.2.1,y2.2.2.2.1,y2.2.2.2.2⟩:Xk)) fun (y3:Bool)=>.ite y3 (.leaf (.inl true)) (.call (k189 n) x.1 fun (y4:Bool)=>.ite y4 (.call (k189 n) x.2 fun (y5:Bool)=>.leaf (.inl y5)) (.leaf (.inl false)))) fun s1=>.ite s1 (.leaf false) (.call (k172 n) x.1 fun (y6:Int)=>.call (k172 n) x.2 fun (y7:Int)=>.leaf (decide (y6<y7)))
noncomputable def k188 (n:Nat):Con P_ Ty_:=ze (X:=Yaa) (R:=Bool) (pro:=[]) (y6h n) 105 y6i (fun x=>.two .no (.two (.join Bool (zo4 x) ⟨[(0,.any),(1,.any),(17,.any)],[]⟩ .no .no) .no)) [.any,.any] [] [] ⟨[(4,.any)],[]⟩ [] true (fun x=>[I_ x.1,I_ x.2]) (fun x=>[]) (fun y=>([(4,B_ y)],[])) (fun y=>B_ y) (fun y=>[]) (zkw n)
noncomputable def y6l (n:Nat):Cx P_ Ty_:=⟨[k69 n,k189 n,k65 n],[],[],[]⟩
abbrev y6m:List (List Nat):=[[0,1,2],[1,2,13],[6],[6]]
noncomputable def zo5 (x:Yal) (p:Bool):EH Ty_:=([(1,I_ x.2.1),(2,I_ x.2.2),(13,B_ p)],[])
noncomputable def zky (n:Nat) (x:Yal):Pt P_ Ty_ [] Int:=.join (S:=Bool) (zo5 x) (.call (k69 n) x.1 fun (y1:Yah)=>.ite y1.2.2.2.2 (.leaf (.inl true)) (.call (k189 n) x.1 fun (y2:Bool)=>.leaf (.inl y2))) fun s1=>.ite s1 (.call (k65 n) x.2.2 fun (y3:Int)=>.leaf y3) (.call (k65 n) x.2.1 fun (y4:Int)=>.leaf y4)
noncomputable def k190 (n:Nat):Con P_ Ty_:=ze (X:=Yal) (R:=Int) (pro:=[]) (y6l n) 106 y6m (fun x=>.two .no (.two (.join Bool (zo5 x) ⟨[(1,.any),(2,.any),(13,.any)],[]⟩ .no .no) .no)) [.any,.any,.any] [] [] ⟨[(6,.any)],[]⟩ [] true (fun x=>[I_ x.1,I_ x.2.1,I_ x.2.2]) (fun x=>[]) (fun y=>([(6,I_ y)],[])) (fun y=>I_ y) (fun y=>[]) (zky n)
noncomputable def y61 (n:Nat):Cx P_ Ty_:=⟨[k136 n,k179 n,k181 n,k182 n,k183 n,k184 n,k168 n,k185 n,k158 n,k186 n,k171 n,k187 n,k188 n,k190 n],[],[],[]⟩
abbrev y62:List (List Nat):=[[0,1,2,3],[1,2,3,9],[1,2,3,9,10],[8],[1,2,3,9,14],[8],[1,2,3,9,18],[8],[1,2,3,9,22],[8],[1,2,3,9,26],[8],[1,2,3,9,31],[8],[1,2,3,9,36],[8],[1,2,3,9,41],[8],[1,2,3,9,46],[8],[1,2,3,9,51],[8],[1,2,3,9,56],[8],[1,2,3,61],[8],[8]]
noncomputable def zkm (n:Nat) (x:Yan):Pt P_ Ty_ [] Int:=.ite (x.1==3) (.call (k136 n) x.2.1 fun (y1:Int)=>.leaf y1) (.ite (x.1==11) (.call (k179 n) x.2.1 fun (y2:Int)=>.leaf y2) (.ite (x.1==12) (.call (k181 n) x.2.1 fun (y3:Int)=>.leaf y3) (.ite (x.1==13) (.call (k182 n) x.2.1 fun (y4:Int)=>.leaf y4) (.ite (x.1==14) (.call (k183 n) x.2.1 fun (y5:Bool)=>.call (k184 n) y5 fun (y6:Int)=>.leaf y6) (.ite (x.1==4) (.call (k168 n) (x.2.1,x.2.2.1) fun (y7:Int)=>.leaf y7) (.ite (x.1==5) (.call (k185 n) (x.2.1,x.2.2.1) fun (y8:Int)=>.leaf y8) (.ite (x.1==6) (.call (k158 n) (x.2.1,x.2.2.1) fun (y9:Int)=>.leaf y9) (.ite (x.1==7) (.call (k186 n) (x.2.1,x.2.2.1) fun (y10:Int)=>.leaf y10) (.ite (x.1==8) (.call (k171 n) (x.2.1,x.2.2.1) fun (y11:Int)=>.leaf y11) (.ite (x.1==9) (.call (k187 n) (x.2.1,x.2.2.1) fun (y12:Int)=>.leaf y12) (.ite (x.1==10) (.call (k188 n) (x.2.1,x.2.2.1) fun (y13:Bool)=>.call (k184 n) y13 fun (y14:Int)=>.leaf y14) (.call (k190 n) (x.2.1,x.2.2.1,x.2.2.2) fun (y15:Int)=>.leaf y15))))))))))))
noncomputable def k178 (n:Nat):Con P_ Ty_:=ze (X:=Yan) (R:=Int) (pro:=[]) (y61 n) 86 y62 (fun x=>.no) [.any,.any,.any,.any] [] [] ⟨[(8,.any)],[]⟩ [] true (fun x=>[I_ x.1,I_ x.2.1,I_ x.2.2.1,I_ x.2.2.2]) (fun x=>[]) (fun y=>([(8,I_ y)],[])) (fun y=>I_ y) (fun y=>[]) (zkm n)
noncomputable def zc8 (n:Nat):Cx P_ Ty_:=⟨[k176 n,k177 n,k178 n],[(100,false,9),(101,false,9)],[],[]⟩
abbrev zc9:List (List Nat):=[[0,1],[0,1,6],[0,1,6,23],[4,5],[0,1,6,7],[0,1,6,7,8],[0,1,6,7,8,30],[0,1,6,7,8,42],[0,1,6,7,8],[0,1,6,7,8],[0,1,6,7,9],[0,1,6,7,9,50],[0,1,6,7,9,71],[4,5],[0,1,6,7,9],[0,1,6,7,10],[0,1,6,7,10,11],[0,1,6,7,10,11,74],[0,1,6,7,10,11,12],[0,1,6,7,10,11,12,13],[0,1,6,7,10,11,12,13,80],[0,1,6,7,10,11,12,13],[0,1,6,7,10,11,12,13],[0,1,6,7,10,11],[0,1,6,7,10,11],[4,5]]
noncomputable def zob (x:Yaf) (p:Yag):EH Ty_:=([(0,I_ x.1),(1,.im 10 x.2),(6,I_ p.1),(23,B_ p.2)],[])
noncomputable def zoc (x:Yaf) (v1:Int) (q1:Yaa) (p:Bool):EH Ty_:=([(0,I_ x.1),(1,.im 10 x.2),(6,I_ v1),(7,I_ q1.1),(8,I_ q1.2),(42,B_ p)],[])
noncomputable def zod (x:Yaf) (v2:Yaa) (q2:Int) (p:Bool):EH Ty_:=([(0,I_ x.1),(1,.im 10 x.2),(6,I_ v2.1),(7,I_ v2.2),(9,I_ q2),(71,B_ p)],[])
noncomputable def z9y (n:Nat) (x:Yaf) (v1:Int) (q1:Yaa):Pt P_ Ty_ [] (Bo (Yaa) (Yaa) Empty):=.ite (decide (q1.2<v1)) (.join (S:=Bool) (zoc x v1 q1) (.ite (q1.1==1) (.leaf (.inl true)) (.bnd (idx x.2 q1.2) fun y3=>.leaf (.inl ((y3.length:Int)==0)))) fun s2=>.ite s2 (.bnd (idx x.2 q1.2) fun y4=>.leaf (.go ((y4.length:Int),(IntKind.i64.wrap (q1.2+(1:Int)))))) (.leaf (.go (q1.1,(IntKind.i64.wrap (q1.2+(1:Int))))))) (.leaf (.out (q1.1,q1.2)))
noncomputable def zo7 (n:Nat) (x:Yaf) (v1:Int):LCon P_ Ty_ []:=lcon (X:=Yaa) (Y:=Yaa) (Z:=Empty) (zc8 n) (subC [1,1,1,1,0,1,0,0] (fnC P_ 71 zc9)) (fun q1=>.two .no (.two (.two (.join Bool (zoc x v1 q1) ⟨[(0,.any),(1,.im 10),(6,.any),(7,.any),(8,.any),(42,.any)],[]⟩ .no .no) .no) .no)) 0 false ⟨[(0,.any),(1,.im 10),(6,.any),(7,.any),(8,.any)],[]⟩ ⟨[(0,.any),(1,.im 10),(6,.any),(7,.any),(8,.any),(30,.any)],[]⟩ ⟨[],[]⟩ (fun q1=>([(0,I_ x.1),(1,.im 10 x.2),(6,I_ v1),(7,I_ q1.1),(8,I_ q1.2)],[])) (fun p=>([(0,I_ x.1),(1,.im 10 x.2),(6,I_ v1),(7,I_ p.1),(8,I_ p.2),(30,B_ false)],[])) (fun p=>nomatch p) n (z9y n x v1)
noncomputable def z9z (n:Nat) (x:Yaf) (v2:Yaa) (q2:Int):Pt P_ Ty_ [] (Bo Int Int Unit):=.ite (decide (q2<v2.1)) (.join (S:=Bool) (zod x v2 q2) (.bnd (idx x.2 q2) fun y6=>.ite ((y6.length:Int) != v2.2) (.ite (v2.2==0) (.leaf (.inl true)) (.bnd (idx x.2 q2) fun y7=>.leaf (.inl ((y7.length:Int) != (1:Int))))) (.leaf (.inl false))) fun s3=>.ite s3 (.leaf (.ret ())) (.leaf (.go (IntKind.i64.wrap (q2+(1:Int)))))) (.leaf (.out q2))
noncomputable def zo8 (n:Nat) (x:Yaf) (v2:Yaa):LCon P_ Ty_ []:=lcon (X:=Int) (Y:=Int) (Z:=Unit) (zc8 n) (subC [1,1,1,1,1,0,1,0,0] (fnC P_ 71 zc9)) (fun q2=>.two .no (.two (.two (.join Bool (zod x v2 q2) ⟨[(0,.any),(1,.im 10),(6,.any),(7,.any),(9,.any),(71,.any)],[]⟩ .no .no) .no) .no)) 2 true ⟨[(0,.any),(1,.im 10),(6,.any),(7,.any),(9,.any)],[]⟩ ⟨[(0,.any),(1,.im 10),(6,.any),(7,.any),(9,.any),(50,.any)],[]⟩ ⟨[(4,.any),(5,.any)],[]⟩ (fun q2=>([(0,I_ x.1),(1,.im 10 x.2),(6,I_ v2.1),(7,I_ v2.2),(9,I_ q2)],[])) (fun p=>([(0,I_ x.1),(1,.im 10 x.2),(6,I_ v2.1),(7,I_ v2.2),(9,I_ p),(50,B_ false)],[])) (fun p=>([(4,.zs),(5,I_ (50:Int))],[])) n (z9z n x v2)
noncomputable def za1 (n:Nat) (x:Yaf) (v3:Yaa) (q3:Yab) (v4:Unit) (q4:Yan):Pt P_ Ty_ [] (Bo (Yan) (Yan) Empty):=.ite (decide (q4.1<v3.1)) (.bnd (idx x.2 q4.1) fun y9=>.call (k177 n) (y9,q3.1) fun (y10:Int)=>.ite (q4.1==(0:Nat)) (.leaf (.go ((IntKind.i64.wrap (q4.1+(1:Int))),y10,q4.2.2.1,q4.2.2.2))) (.ite (q4.1==(1:Nat)) (.leaf (.go ((IntKind.i64.wrap (q4.1+(1:Int))),q4.2.1,y10,q4.2.2.2))) (.ite (q4.1==(2:Nat)) (.leaf (.go ((IntKind.i64.wrap (q4.1+(1:Int))),q4.2.1,q4.2.2.1,y10))) .no))) (.leaf (.out (q4.1,q4.2.1,q4.2.2.1,q4.2.2.2)))
noncomputable def zoa (n:Nat) (x:Yaf) (v3:Yaa) (q3:Yab) (v4:Unit):LCon P_ Ty_ []:=lcon (X:=Yan) (Y:=Yan) (Z:=Empty) (zc8 n) (subC [1,1,1,1,1,1,1,0,1,0,0,1,0,0,1,0,1,0,0] (fnC P_ 71 zc9)) (fun q4=>.no) 6 false ⟨[(0,.any),(1,.im 10),(6,.any),(7,.any),(10,.ref 600001),(11,.any),(12,.ref 12),(13,.any)],[(600001,.any),(12,.any)]⟩ ⟨[(0,.any),(1,.im 10),(6,.any),(7,.any),(10,.ref 600001),(11,.any),(12,.ref 12),(13,.any),(80,.any)],[(600001,.any),(12,.any)]⟩ ⟨[],[]⟩ (fun q4=>([(0,I_ x.1),(1,.im 10 x.2),(6,I_ v3.1),(7,I_ v3.2),(10,.sw 600001 []),(11,I_ q3.1),(12,.pt 12 [] 0 0),(13,I_ q4.1)],[(600001,.typ false 9 q3.2),(12,.lit 3 [[I_ q4.2.1,I_ q4.2.2.1,I_ q4.2.2.2]])])) (fun p=>([(0,I_ x.1),(1,.im 10 x.2),(6,I_ v3.1),(7,I_ v3.2),(10,.sw 600001 []),(11,I_ q3.1),(12,.pt 12 [] 0 0),(13,I_ p.1),(80,B_ false)],[(600001,.typ false 9 q3.2),(12,.lit 3 [[I_ p.2.1,I_ p.2.2.1,I_ p.2.2.2]])])) (fun p=>nomatch p) n (za1 n x v3 q3 v4)
noncomputable def za0 (n:Nat) (x:Yaf) (v3:Yaa) (q3:Yab):Pt P_ Ty_ [] (Bo (Yab) (Yab) Empty):=.ite (decide (q3.1<v3.2)) (.loop (V:=Unit) (zoa n x v3 q3) () ((0:Int),(0:Int),(0:Int),(0:Int)) fun (v4:Unit) (y11:Yan)=>.call (k178 n) (x.1,y11.2.1,y11.2.2.1,y11.2.2.2) fun (y12:Int)=>.need ((q3.2.length+([y12]:List Int).length) * 8≤140737488355328) (.leaf (.go ((IntKind.i64.wrap (q3.1+(1:Int))),(q3.2++([y12]:List Int)))))) (.leaf (.out (q3.1,q3.2)))
noncomputable def zo9 (n:Nat) (x:Yaf) (v3:Yaa):LCon P_ Ty_ []:=lcon (X:=Yab) (Y:=Yab) (Z:=Empty) (zc8 n) (subC [1,1,1,1,1,1,1,0,1,0,0] (fnC P_ 71 zc9)) (fun q3=>.two .no (.two (.two (.two .no (.two (.two .no (.two (.loop Unit (zoa n x v3 q3) false ⟨[(0,.any),(1,.im 10),(6,.any),(7,.any),(10,.ref 600001),(11,.any),(12,.ref 12),(13,.any)],[(600001,.any),(12,.any)]⟩) .no)) .no)) .no) .no)) 4 false ⟨[(0,.any),(1,.im 10),(6,.any),(7,.any),(10,.own 600001 false 9),(11,.any)],[(600001,.any)]⟩ ⟨[(0,.any),(1,.im 10),(6,.any),(7,.any),(10,.ref 600001),(11,.any),(74,.any)],[(600001,.any)]⟩ ⟨[],[]⟩ (fun q3=>([(0,I_ x.1),(1,.im 10 x.2),(6,I_ v3.1),(7,I_ v3.2),(10,.sw 600001 []),(11,I_ q3.1)],[(600001,.typ false 9 q3.2)])) (fun p=>([(0,I_ x.1),(1,.im 10 x.2),(6,I_ v3.1),(7,I_ v3.2),(10,.sw 600001 []),(11,I_ p.1),(74,B_ false)],[(600001,.typ false 9 p.2)])) (fun p=>nomatch p) n (za0 n x v3)
noncomputable def zl0 (n:Nat) (x:Yaf):Pt P_ Ty_ [] (Yab):=.call (k176 n) x.1 fun (y1:Int)=>.join (S:=Yag) (zob x) (.ite (y1==0) (.leaf (.inl (y1,true))) (.leaf (.inl (y1,((x.2.length:Int) != y1))))) fun s1=>.ite s1.2 (.leaf ((1:Int),([]:List Int))) (.bnd (idx x.2 (0:Int)) fun y2=>.loop (V:=Int) (zo7 n x) s1.1 ((y2.length:Int),(0:Int)) fun (v1:Int) (y5:Yaa)=>.loopR (V:=Yaa) (zo8 n x) (v1,y5.1) (0:Int) (fun (v2:Yaa) (y8:Int)=>.loop (V:=Yaa) (zo9 n x) (v2.1,v2.2) ((0:Int),([]:List Int)) fun (v3:Yaa) (y13:Yab)=>.leaf ((0:Int),y13.2)) fun (v2:Yaa) (z1:Unit)=>.leaf ((50:Int),([]:List Int)))
noncomputable def k192 (n:Nat):Con P_ Ty_:=ze (X:=Yaf) (R:=Yab) (pro:=[]) (zc8 n) 71 zc9 (fun x=>.two .no (.two .no (.two (.join (Yag) (zob x) ⟨[(0,.any),(1,.im 10),(6,.any),(23,.any)],[]⟩ .no .no) (.two .no (.two (.two .no (.two (.loop Int (zo7 n x) false ⟨[(0,.any),(1,.im 10),(6,.any),(7,.any),(8,.any)],[]⟩) .no)) (.two (.two .no (.two (.loop (Yaa) (zo8 n x) true ⟨[(0,.any),(1,.im 10),(6,.any),(7,.any),(9,.any)],[]⟩) .no)) (.two .no (.two (.two .no (.two (.loop (Yaa) (zo9 n x) false ⟨[(0,.any),(1,.im 10),(6,.any),(7,.any),(10,.own 600001 false 9),(11,.any)],[(600001,.any)]⟩) .no)) .no)))))))) [.any,.im 10] [] [100000] ⟨[(4,.own 100000 false 9),(5,.any)],[(100000,.any)]⟩ [100000] true (fun x=>[I_ x.1,.im 10 x.2]) (fun x=>[]) (fun y=>([(4,.sw 100000 []),(5,I_ y.1)],[(100000,.typ false 9 y.2)])) (fun y=>.tu [.sw 100000 [],I_ y.1]) (fun y=>[(100000,.typ false 9 y.2)]) (zl0 n)
noncomputable def y6n (n:Nat):Cx P_ Ty_:=⟨[k176 n,k192 n,k134 n,k135 n],[(46,false,10)],[],[]⟩
abbrev y6o:List (List Nat):=[[2,3,4],[2,3,4,5],[2,3,4,5,18],[4],[2,3,4,5,6],[2,4,5,7],[2,4,5,7,60],[4,7],[4]]
noncomputable def zo6 (x:Ybj) (p:(List Int)):EH Ty_:=([(4,.pt 4 [] 0 0),(7,.sw 600001 [])],[(4,.lit 2 [[.zs,I_ (0:Int)]]),(600001,.typ false 9 p)])
noncomputable def zkz (n:Nat) (x:Ybj):Pt P_ Ty_ [] (Yas):=.bnd (idx x.1.C_.Regs_ x.2.D_) fun y1=>.ite (y1.Kind_==2) (.bnd (idx x.1.Regs_ x.2.A_) fun y2=>.leaf (y2.Nums_,y2.Int_)) (.bnd (idx x.1.Regs_ x.2.A_) fun y3=>.bnd (idx x.1.Regs_ x.2.B_) fun y4=>.bnd (idx x.1.Regs_ x.2.C_) fun y5=>.call (k176 n) x.2.Op_ fun (y6:Int)=>.need (0≤y6∧y6≤(([y3.Nums_,y4.Nums_,y5.Nums_]:List (List Int)).length:Int)) (.need (0+y6.toNat≤([y3.Nums_,y4.Nums_,y5.Nums_]:List (List Int)).length) (.call (k192 n) (x.2.Op_,((([y3.Nums_,y4.Nums_,y5.Nums_]:List (List Int)).drop 0).take y6.toNat)) fun (y7:Yab)=>.join (S:=(List Int)) (zo6 x) (.ite ((y7.2.length:Int)==1) (.call (k134 n) (x.1.C_,y1) fun (y8:Int)=>.need (0≤(0:Int)∧(0:Int)<(y7.2.length:Int)) (.bnd (y7.2[(0:Int).toNat]?) fun y9=>.call (k135 n) (y8,y9) fun (y10:Yab)=>.leaf (.inl y10.2))) (.leaf (.inl y7.2))) fun s1=>.leaf (s1,(0:Int)))))
noncomputable def k191 (n:Nat):Con P_ Ty_:=ze (X:=Ybj) (R:=Yas) (pro:=[]) (y6n n) 43 y6o (fun x=>.two .no (.two .no (.two .no (.two .no (.two .no (.join (List Int) (zo6 x) ⟨[(4,.ref 4),(7,.ref 600001)],[(4,.any),(600001,.any)]⟩ .no .no)))))) [.ag [.im 1,.im 2,.im 3,.im 4,.im 12,.im 12,.im 10,.im 6,.im 6,.any],.ag [.any,.any,.any,.any,.any,.any,.any]] [] [] ⟨[(4,.ref 100000)],[(100000,.fix [.im 9,.no])]⟩ [] false (fun x=>[.ag [.im 1 x.1.C_.Sign_,.im 2 x.1.C_.Regs_,.im 3 x.1.C_.Slots_,.im 4 x.1.C_.List_,.im 12 x.1.Regs_,.im 12 x.1.Slots_,.im 10 x.1.Out_,.im 6 x.1.Grads_,.im 6 x.1.Params_,I_ x.1.Cost_],.ag [I_ x.2.Op_,I_ x.2.D_,I_ x.2.A_,I_ x.2.B_,I_ x.2.C_,I_ x.2.N_,.sc (.int .u32 x.2.Bits_)]]) (fun x=>[]) (fun y=>([(4,.pt 100000 [] 0 0)],[(100000,.lit 2 [[.im 9 y.1,I_ y.2]])])) (fun y=>.ag [.im 9 y.1,I_ y.2]) (fun y=>[]) (zkz n)
noncomputable def zru (n:Nat):Cx P_ Ty_:=⟨[k65 n,k157 n,k158 n],[],[],[]⟩
abbrev zrv:List (List Nat):=[[0,1],[0,1,8],[4],[0,1,5],[0,1,5,6],[0,1,5,6,16],[0,1,5,6],[0,1,5,6,27],[0,1,5,6],[0,1,5,6],[4]]
noncomputable def zgc (n:Nat) (x:Yaa) (v1:Unit) (q1:Yaa):Pt P_ Ty_ [] (Bo (Yaa) (Yaa) Empty):=.ite (decide (q1.2≥(0:Int))) (.call (k158 n) (q1.1,q1.1) fun (y3:Int)=>.need (0≤(IntKind.u64.wrap q1.2)) (.ite ((IntKind.i64.wrap (BitVec.ofInt IntKind.i64.bits (x.2.fdiv (2 ^ min (IntKind.u64.wrap q1.2).toNat IntKind.i64.bits)) &&& BitVec.ofInt IntKind.i64.bits (1:Int)).toNat)==1) (.call (k158 n) (y3,x.1) fun (y4:Int)=>.leaf (.go (y4,(IntKind.i64.wrap (q1.2 - (1:Int)))))) (.leaf (.go (y3,(IntKind.i64.wrap (q1.2 - (1:Int)))))))) (.leaf (.out (q1.1,q1.2)))
noncomputable def znb (n:Nat) (x:Yaa) (v1:Unit):LCon P_ Ty_ []:=lcon (X:=Yaa) (Y:=Yaa) (Z:=Empty) (zru n) (subC [1,1,1,0,1,0,0] (fnC P_ 44 zrv)) (fun q1=>.no) 0 false ⟨[(0,.any),(1,.any),(5,.any),(6,.any)],[]⟩ ⟨[(0,.any),(1,.any),(5,.any),(6,.any),(16,.any)],[]⟩ ⟨[],[]⟩ (fun q1=>([(0,I_ x.1),(1,I_ x.2),(5,I_ q1.1),(6,I_ q1.2)],[])) (fun p=>([(0,I_ x.1),(1,I_ x.2),(5,I_ p.1),(6,I_ p.2),(16,B_ false)],[])) (fun p=>nomatch p) n (zgc n x v1)
noncomputable def zk1 (n:Nat) (x:Yaa):Pt P_ Ty_ [] Int:=.ite (decide (x.2<(1:Int))) (.leaf (1065353216:Int)) (.call (k65 n) x.1 fun (y1:Int)=>.call (k157 n) (IntKind.u64.wrap x.2) fun (y2:Int)=>.loop (V:=Unit) (znb n x) () (y1,(IntKind.i64.wrap (y2 - (2:Int)))) fun (v1:Unit) (y5:Yaa)=>.leaf y5.1)
noncomputable def k156 (n:Nat):Con P_ Ty_:=ze (X:=Yaa) (R:=Int) (pro:=[]) (zru n) 44 zrv (fun x=>.two .no (.two .no (.two .no (.two (.two .no (.two (.loop Unit (znb n x) false ⟨[(0,.any),(1,.any),(5,.any),(6,.any)],[]⟩) .no)) .no)))) [.any,.any] [] [] ⟨[(4,.any)],[]⟩ [] true (fun x=>[I_ x.1,I_ x.2]) (fun x=>[]) (fun y=>([(4,I_ y)],[])) (fun y=>I_ y) (fun y=>[]) (zk1 n)
noncomputable def y5g (n:Nat):Cx P_ Ty_:=⟨[k162 n],[],[],[]⟩
abbrev y5h:List (List Nat):=[[0],[0,4],[2],[2]]
noncomputable def zka (n:Nat) (x:Int):Pt P_ Ty_ [] Int:=.ite (decide (x<(0:Int))) (.call (k162 n) (true,(IntKind.u64.wrap ((IntKind.u64.wrap (IntKind.i64.wrap (0 - (IntKind.i64.wrap (x+(1:Int))))))+(1:Int))),(0:Int)) fun (y1:Int)=>.leaf y1) (.call (k162 n) (false,(IntKind.u64.wrap x),(0:Int)) fun (y2:Int)=>.leaf y2)
noncomputable def k165 (n:Nat):Con P_ Ty_:=ze (X:=Int) (R:=Int) (pro:=[]) (y5g n) 45 y5h (fun x=>.no) [.any] [] [] ⟨[(2,.any)],[]⟩ [] true (fun x=>[I_ x]) (fun x=>[]) (fun y=>([(2,I_ y)],[])) (fun y=>I_ y) (fun y=>[]) (zka n)
noncomputable def y5i (n:Nat):Cx P_ Ty_:=⟨[],[],[],[]⟩
abbrev y5j:List (List Nat):=[[0],[3],[2],[2]]
noncomputable def zkb (n:Nat) (x:Bool):Pt P_ Ty_ [] Int:=.ite x (.leaf (1:Int)) (.leaf (0:Int))
noncomputable def k166 (n:Nat):Con P_ Ty_:=ze (X:=Bool) (R:=Int) (pro:=[]) (y5i n) 46 y5j (fun x=>.no) [.any] [] [] ⟨[(2,.any)],[]⟩ [] true (fun x=>[B_ x]) (fun x=>[]) (fun y=>([(2,I_ y)],[])) (fun y=>I_ y) (fun y=>[]) (zkb n)
noncomputable def zry (n:Nat):Cx P_ Ty_:=⟨[k168 n],[],[],[]⟩
abbrev zrz:List (List Nat):=[[0],[0,3],[0,3,4],[0,3,4,8],[0,3,4],[0,3,4],[2]]
noncomputable def z9v (n:Nat) (x:(List Int)) (v1:Unit) (q1:Yaa):Pt P_ Ty_ [] (Bo (Yaa) (Yaa) Empty):=.ite (decide (q1.2<(x.length:Int))) (.bnd (idx x q1.2) fun y1=>.call (k168 n) (q1.1,y1) fun (y2:Int)=>.leaf (.go (y2,(IntKind.i64.wrap (q1.2+(1:Int)))))) (.leaf (.out (q1.1,q1.2)))
noncomputable def znj (n:Nat) (x:(List Int)) (v1:Unit):LCon P_ Ty_ []:=lcon (X:=Yaa) (Y:=Yaa) (Z:=Empty) (zry n) (subC [1,1,0,1,0,0] (fnC P_ 47 zrz)) (fun q1=>.no) 0 false ⟨[(0,.im 9),(3,.any),(4,.any)],[]⟩ ⟨[(0,.im 9),(3,.any),(4,.any),(8,.any)],[]⟩ ⟨[],[]⟩ (fun q1=>([(0,.im 9 x),(3,I_ q1.1),(4,I_ q1.2)],[])) (fun p=>([(0,.im 9 x),(3,I_ p.1),(4,I_ p.2),(8,B_ false)],[])) (fun p=>nomatch p) n (z9v n x v1)
noncomputable def zkc (n:Nat) (x:(List Int)):Pt P_ Ty_ [] Int:=.loop (V:=Unit) (znj n x) () ((0:Int),(0:Int)) fun (v1:Unit) (y3:Yaa)=>.leaf y3.1
noncomputable def k167 (n:Nat):Con P_ Ty_:=ze (X:=(List Int)) (R:=Int) (pro:=[]) (zry n) 47 zrz (fun x=>.two .no (.two .no (.two (.two .no (.two (.loop Unit (znj n x) false ⟨[(0,.im 9),(3,.any),(4,.any)],[]⟩) .no)) .no))) [.im 9] [] [] ⟨[(2,.any)],[]⟩ [] true (fun x=>[.im 9 x]) (fun x=>[]) (fun y=>([(2,I_ y)],[])) (fun y=>I_ y) (fun y=>[]) (zkc n)
noncomputable def zs5 (n:Nat):Cx P_ Ty_:=⟨[k171 n],[],[],[]⟩
abbrev zs6:List (List Nat):=[[0],[0,3],[0,3,4],[0,3,4,8],[0,3,4],[0,3,4],[2]]
noncomputable def z9w (n:Nat) (x:(List Int)) (v1:Unit) (q1:Yaa):Pt P_ Ty_ [] (Bo (Yaa) (Yaa) Empty):=.ite (decide (q1.2<(x.length:Int))) (.bnd (idx x q1.2) fun y1=>.call (k171 n) (q1.1,y1) fun (y2:Int)=>.leaf (.go (y2,(IntKind.i64.wrap (q1.2+(1:Int)))))) (.leaf (.out (q1.1,q1.2)))
noncomputable def znq (n:Nat) (x:(List Int)) (v1:Unit):LCon P_ Ty_ []:=lcon (X:=Yaa) (Y:=Yaa) (Z:=Empty) (zs5 n) (subC [1,1,0,1,0,0] (fnC P_ 48 zs6)) (fun q1=>.no) 0 false ⟨[(0,.im 9),(3,.any),(4,.any)],[]⟩ ⟨[(0,.im 9),(3,.any),(4,.any),(8,.any)],[]⟩ ⟨[],[]⟩ (fun q1=>([(0,.im 9 x),(3,I_ q1.1),(4,I_ q1.2)],[])) (fun p=>([(0,.im 9 x),(3,I_ p.1),(4,I_ p.2),(8,B_ false)],[])) (fun p=>nomatch p) n (z9w n x v1)
noncomputable def zkf (n:Nat) (x:(List Int)):Pt P_ Ty_ [] Int:=.loop (V:=Unit) (znq n x) () ((2139095040:Int),(0:Int)) fun (v1:Unit) (y3:Yaa)=>.leaf y3.1
noncomputable def k170 (n:Nat):Con P_ Ty_:=ze (X:=(List Int)) (R:=Int) (pro:=[]) (zs5 n) 48 zs6 (fun x=>.two .no (.two .no (.two (.two .no (.two (.loop Unit (znq n x) false ⟨[(0,.im 9),(3,.any),(4,.any)],[]⟩) .no)) .no))) [.im 9] [] [] ⟨[(2,.any)],[]⟩ [] true (fun x=>[.im 9 x]) (fun x=>[]) (fun y=>([(2,I_ y)],[])) (fun y=>I_ y) (fun y=>[]) (zkf n)
noncomputable def y5s (n:Nat):Cx P_ Ty_:=⟨[k166 n],[],[],[]⟩
abbrev y5t:List (List Nat):=[[0,1,2,3],[1,2,3,9],[1,2,3,9,10],[8],[1,2,3,9,15],[8],[1,2,3,9,21],[8],[1,2,3,9,27],[8],[1,2,3,9,36],[8],[1,2,3,9,41],[2,3,44],[8],[8],[1,2,47],[8],[1,2,54],[8],[8]]
noncomputable def zki (n:Nat) (x:Yan):Pt P_ Ty_ [] Int:=.ite (x.1==21) (.leaf (if (2147483647:Int)<(IntKind.i64.wrap (x.2.1+(1:Int))) then (2147483647:Int) else (IntKind.i64.wrap (x.2.1+(1:Int))))) (.ite (x.1==22) (.call (k166 n) (decide (x.2.1<x.2.2.1)) fun (y1:Int)=>.leaf y1) (.ite (x.1==23) (.call (k166 n) (x.2.1==x.2.2.1) fun (y2:Int)=>.leaf y2) (.ite (x.1==24) (.ite (x.2.1 != (0:Int)) (.call (k166 n) (x.2.2.1 != (0:Int)) fun (y3:Int)=>.leaf y3) (.call (k166 n) false fun (y4:Int)=>.leaf y4)) (.ite (x.1==25) (.call (k166 n) (x.2.1==0) fun (y5:Int)=>.leaf y5) (.ite (x.1==26) (.ite (x.2.1 != (0:Int)) (.leaf x.2.2.1) (.leaf x.2.2.2)) (.ite (x.1==27) (.leaf (if (0:Int) > (IntKind.i64.wrap (x.2.1 - x.2.2.1)) then (0:Int) else (IntKind.i64.wrap (x.2.1 - x.2.2.1)))) (.ite (x.2.2.1==0) (.leaf (0:Int)) (.need (x.2.2.1 ≠ 0) (.leaf (IntKind.i64.wrap (x.2.1.tdiv x.2.2.1)))))))))))
noncomputable def k173 (n:Nat):Con P_ Ty_:=ze (X:=Yan) (R:=Int) (pro:=[]) (y5s n) 49 y5t (fun x=>.no) [.any,.any,.any,.any] [] [] ⟨[(8,.any)],[]⟩ [] true (fun x=>[I_ x.1,I_ x.2.1,I_ x.2.2.1,I_ x.2.2.2]) (fun x=>[]) (fun y=>([(8,I_ y)],[])) (fun y=>I_ y) (fun y=>[]) (zki n)
noncomputable def zs7 (n:Nat):Cx P_ Ty_:=⟨[k136 n],[(30,false,9),(31,false,9)],[],[]⟩
abbrev zs8:List (List Nat):=[[1,2,3],[1,2,3,7],[1,2,3,7,12],[1,2,3,7],[1,2,3,7,8],[1,2,3,7,8,9],[1,2,3,7,8,9,16],[1,2,3,7,8,9],[1,2,3,7,8,9],[6]]
noncomputable def zns (x:Ybt) (p:Int):EH Ty_:=([(1,.im 5 x.2.1),(2,I_ x.2.2),(3,.pt 3 [] 0 0),(7,I_ p)],[(3,.lit 3 [[.sc (.string x.1.Name_),I_ x.1.Kind_,I_ x.1.Len_]])])
noncomputable def z9x (n:Nat) (x:Ybt) (v1:Int) (q1:Yab):Pt P_ Ty_ [] (Bo (Yab) (Yab) Empty):=.ite (decide (q1.1<x.1.Len_)) (.bnd (idx x.2.1 (IntKind.i64.wrap ((IntKind.i64.wrap (v1 * q1.1))+x.2.2))) fun y1=>.call (k136 n) (IntKind.i64.wrap y1) fun (y2:Int)=>.need ((q1.2.length+([y2]:List Int).length) * 8≤140737488355328) (.leaf (.go ((IntKind.i64.wrap (q1.1+(1:Int))),(q1.2++([y2]:List Int)))))) (.leaf (.out (q1.1,q1.2)))
noncomputable def znr (n:Nat) (x:Ybt) (v1:Int):LCon P_ Ty_ []:=lcon (X:=Yab) (Y:=Yab) (Z:=Empty) (zs7 n) (subC [1,1,1,1,0,1,0,0] (fnC P_ 50 zs8)) (fun q1=>.no) 0 false ⟨[(1,.im 5),(2,.any),(3,.ref 3),(7,.any),(8,.own 600001 false 9),(9,.any)],[(3,.any),(600001,.any)]⟩ ⟨[(1,.im 5),(2,.any),(3,.ref 3),(7,.any),(8,.ref 600001),(9,.any),(16,.any)],[(3,.any),(600001,.any)]⟩ ⟨[],[]⟩ (fun q1=>([(1,.im 5 x.2.1),(2,I_ x.2.2),(3,.pt 3 [] 0 0),(7,I_ v1),(8,.sw 600001 []),(9,I_ q1.1)],[(3,.lit 3 [[.sc (.string x.1.Name_),I_ x.1.Kind_,I_ x.1.Len_]]),(600001,.typ false 9 q1.2)])) (fun p=>([(1,.im 5 x.2.1),(2,I_ x.2.2),(3,.pt 3 [] 0 0),(7,I_ v1),(8,.sw 600001 []),(9,I_ p.1),(16,B_ false)],[(3,.lit 3 [[.sc (.string x.1.Name_),I_ x.1.Kind_,I_ x.1.Len_]]),(600001,.typ false 9 p.2)])) (fun p=>nomatch p) n (z9x n x v1)
noncomputable def zkj (n:Nat) (x:Ybt):Pt P_ Ty_ [] (List Int):=.join (S:=Int) (zns x) (.ite (x.1.Kind_==2) (.leaf (.inl (2:Int))) (.leaf (.inl (1:Int)))) fun s1=>.loop (V:=Int) (znr n x) s1 ((0:Int),([]:List Int)) fun (v1:Int) (y3:Yab)=>.leaf y3.2
noncomputable def k174 (n:Nat):Con P_ Ty_:=ze (X:=Ybt) (R:=(List Int)) (pro:=[]) (zs7 n) 50 zs8 (fun x=>.two .no (.two .no (.join Int (zns x) ⟨[(1,.im 5),(2,.any),(3,.ref 3),(7,.any)],[(3,.any)]⟩ .no (.two .no (.two (.two .no (.two (.loop Int (znr n x) false ⟨[(1,.im 5),(2,.any),(3,.ref 3),(7,.any),(8,.own 600001 false 9),(9,.any)],[(3,.any),(600001,.any)]⟩) .no)) .no))))) [.ag [.any,.any,.any],.im 5,.any] [] [100000] ⟨[(6,.ref 100000)],[(100000,.any)]⟩ [100000] true (fun x=>[.ag [.sc (.string x.1.Name_),I_ x.1.Kind_,I_ x.1.Len_],.im 5 x.2.1,I_ x.2.2]) (fun x=>[]) (fun y=>([(6,.sw 100000 [])],[(100000,.typ false 9 y)])) (fun y=>.sw 100000 []) (fun y=>[(100000,.typ false 9 y)]) (zkj n)
noncomputable def y5u (n:Nat):Cx P_ Ty_:=⟨[],[(10,false,12)],[],[]⟩
abbrev y5v:List (List Nat):=[[0,1,5],[0,1,5,7],[1,5,7],[7],[6]]
noncomputable def zkk (n:Nat) (x:(List Xh)×Int×Xh):Pt P_ Ty_ [] (List Xh):=.need (x.1.length * 32≤140737488355328) (.need (0≤x.2.1∧x.2.1<(x.1.length:Int)) (.bnd (x.1[x.2.1.toNat]?) fun y1=>.leaf (x.1.set x.2.1.toNat x.2.2)))
noncomputable def k175 (n:Nat):Con P_ Ty_:=ze (X:=(List Xh)×Int×Xh) (R:=(List Xh)) (pro:=[]) (y5u n) 51 y5v (fun x=>.no) [.im 12,.any,.ag [.im 9,.any]] [] [] ⟨[(6,.im 12)],[]⟩ [] false (fun x=>[.im 12 x.1,I_ x.2.1,.ag [.im 9 x.2.2.Nums_,I_ x.2.2.Int_]]) (fun x=>[]) (fun y=>([(6,.im 12 y)],[])) (fun y=>.im 12 y) (fun y=>[]) (zkk n)
noncomputable def y50 (n:Nat):Cx P_ Ty_:=⟨[k191 n,k156 n,k165 n,k166 n,k167 n,k170 n,k173 n,k174 n,k175 n],[(18,false,9),(60,false,9),(74,false,9),(110,false,9),(124,false,9),(248,false,10)],[],[]⟩
abbrev y51:List (List Nat):=[[2,3,4],[2,3,4,5],[2,3,4,5,11],[2,3,4,5],[2,3,4,5,20],[2,3,4,5],[2,3,4,5,27],[2,3,4,5],[2,3,4,5,39],[2,3,4,5],[2,3,4,5,62],[2,3,4,5],[2,3,4,5,76],[2,3,4,5,6],[2,3,4,5],[2,3,4,5,98],[2,3,4,5],[2,3,4,5,112],[2,3,4,5],[2,3,4,5,126],[2,3,4,5],[2,3,4,5,160],[2,3,4,5,7],[2,3,4,5],[2,3,4,5,187],[2,3,4,5,8],[2,3,4,5],[2,3,4,5,214],[2,3,4,5],[2,3,4,224],[2,4],[4],[2,3,4,241],[2,3,4,9],[2,3,4,9],[2,4,9],[2,4],[4],[4],[2,4],[4]]
noncomputable def zn6 (x:Ybj) (p:Bool):EH Ty_:=([(2,.pt 2 [] 0 0),(3,.pt 3 [] 0 0),(4,.pt 4 [] 0 0),(5,.pt 5 [] 0 0),(27,B_ p)],[(2,.lit 10 [[.im 1 x.1.C_.Sign_,.im 2 x.1.C_.Regs_,.im 3 x.1.C_.Slots_,.im 4 x.1.C_.List_,.im 12 x.1.Regs_,.im 12 x.1.Slots_,.im 10 x.1.Out_,.im 6 x.1.Grads_,.im 6 x.1.Params_,I_ x.1.Cost_]]),(3,.lit 7 [[I_ x.2.Op_,I_ x.2.D_,I_ x.2.A_,I_ x.2.B_,I_ x.2.C_,I_ x.2.N_,.sc (.int .u32 x.2.Bits_)]]),(4,.lit 10 [[.zs,.zs,.zs,.zs,.zs,.zs,.zs,.zs,.zs,I_ (0:Int)]]),(5,.lit 2 [[.zs,I_ (0:Int)]])])
noncomputable def zn7 (x:Ybj) (p:Bool):EH Ty_:=([(2,.pt 2 [] 0 0),(3,.pt 3 [] 0 0),(4,.pt 4 [] 0 0),(5,.pt 5 [] 0 0),(126,B_ p)],[(2,.lit 10 [[.im 1 x.1.C_.Sign_,.im 2 x.1.C_.Regs_,.im 3 x.1.C_.Slots_,.im 4 x.1.C_.List_,.im 12 x.1.Regs_,.im 12 x.1.Slots_,.im 10 x.1.Out_,.im 6 x.1.Grads_,.im 6 x.1.Params_,I_ x.1.Cost_]]),(3,.lit 7 [[I_ x.2.Op_,I_ x.2.D_,I_ x.2.A_,I_ x.2.B_,I_ x.2.C_,I_ x.2.N_,.sc (.int .u32 x.2.Bits_)]]),(4,.lit 10 [[.zs,.zs,.zs,.zs,.zs,.zs,.zs,.zs,.zs,I_ (0:Int)]]),(5,.lit 2 [[.zs,I_ (0:Int)]])])
noncomputable def zn8 (x:Ybj) (p:Yas):EH Ty_:=([(2,.pt 2 [] 0 0),(3,.pt 3 [] 0 0),(4,.pt 4 [] 0 0),(5,.pt 5 [] 0 0)],[(2,.lit 10 [[.im 1 x.1.C_.Sign_,.im 2 x.1.C_.Regs_,.im 3 x.1.C_.Slots_,.im 4 x.1.C_.List_,.im 12 x.1.Regs_,.im 12 x.1.Slots_,.im 10 x.1.Out_,.im 6 x.1.Grads_,.im 6 x.1.Params_,I_ x.1.Cost_]]),(3,.lit 7 [[I_ x.2.Op_,I_ x.2.D_,I_ x.2.A_,I_ x.2.B_,I_ x.2.C_,I_ x.2.N_,.sc (.int .u32 x.2.Bits_)]]),(4,.lit 10 [[.zs,.zs,.zs,.zs,.zs,.zs,.zs,.zs,.zs,I_ (0:Int)]]),(5,.lit 2 [[.im 9 p.1,I_ p.2]])])
noncomputable def z6w (n:Nat) (x:Ybj):Pt P_ Ty_ [] (Ycn):=.join (S:=Yas) (zn8 x) (.ite (x.2.Op_==1) (.leaf (.inl (([(IntKind.i64.wrap x.2.Bits_)]:List Int),(0:Int)))) (.ite (x.2.Op_==2) (.leaf (.inl (([]:List Int),x.2.N_))) (.join (S:=Bool) (zn6 x) (.ite (decide (x.2.Op_≥(3:Int))) (.leaf (.inl (decide (x.2.Op_≤(15:Int))))) (.leaf (.inl false))) fun s1=>.ite s1 (.call (k191 n) (x.1,x.2) fun (y1:Yas)=>.leaf (.inl (y1.1,y1.2))) (.ite (x.2.Op_==16) (.bnd (idx x.1.Regs_ x.2.A_) fun y2=>.bnd (idx y2.Nums_ (0:Int)) fun y3=>.bnd (idx x.1.Regs_ x.2.B_) fun y4=>.call (k156 n) (y3,y4.Int_) fun (y5:Int)=>.leaf (.inl (([y5]:List Int),(0:Int)))) (.ite (x.2.Op_==17) (.bnd (idx x.1.Regs_ x.2.A_) fun y6=>.call (k165 n) y6.Int_ fun (y7:Int)=>.leaf (.inl (([y7]:List Int),(0:Int)))) (.ite (x.2.Op_==18) (.bnd (idx x.1.Regs_ x.2.A_) fun y8=>.bnd (idx y8.Nums_ (0:Int)) fun y9=>.ite ((y9.tmod (2147483648:Int)) != (0:Int)) (.call (k166 n) (decide ((y9.tmod (2147483648:Int))≤(2139095040:Int))) fun (y10:Int)=>.leaf (.inl (([]:List Int),y10))) (.call (k166 n) false fun (y11:Int)=>.leaf (.inl (([]:List Int),y11)))) (.ite (x.2.Op_==19) (.bnd (idx x.1.Regs_ x.2.A_) fun y12=>.call (k167 n) y12.Nums_ fun (y13:Int)=>.leaf (.inl (([y13]:List Int),(0:Int)))) (.ite (x.2.Op_==20) (.bnd (idx x.1.Regs_ x.2.A_) fun y14=>.call (k170 n) y14.Nums_ fun (y15:Int)=>.leaf (.inl (([y15]:List Int),(0:Int)))) (.join (S:=Bool) (zn7 x) (.ite (decide (x.2.Op_≥(21:Int))) (.leaf (.inl (decide (x.2.Op_≤(28:Int))))) (.leaf (.inl false))) fun s2=>.ite s2 (.bnd (idx x.1.Regs_ x.2.A_) fun y16=>.bnd (idx x.1.Regs_ x.2.B_) fun y17=>.bnd (idx x.1.Regs_ x.2.C_) fun y18=>.call (k173 n) (x.2.Op_,y16.Int_,y17.Int_,y18.Int_) fun (y19:Int)=>.leaf (.inl (([]:List Int),y19))) (.ite (x.2.Op_==29) (.bnd (idx x.1.C_.Regs_ x.2.D_) fun y20=>.bnd (idx x.1.C_.Sign_ y20.Param_) fun y21=>.bnd (idx x.1.Grads_ y20.Param_) fun y22=>.call (k174 n) (y21,y22,x.2.N_) fun (y23:(List Int))=>.leaf (.inl (y23,(0:Int)))) (.ite (x.2.Op_==30) (.bnd (idx x.1.C_.Regs_ x.2.D_) fun y24=>.bnd (idx x.1.C_.Sign_ y24.Param_) fun y25=>.bnd (idx x.1.Params_ y24.Param_) fun y26=>.call (k174 n) (y25,y26,x.2.N_) fun (y27:(List Int))=>.leaf (.inl (y27,(0:Int)))) (.ite (x.2.Op_==32) (.bnd (idx x.1.Slots_ x.2.N_) fun y28=>.leaf (.inl (y28.Nums_,y28.Int_))) (.ite (x.2.Op_==33) (.bnd (idx x.1.Regs_ x.2.A_) fun y29=>.call (k175 n) (x.1.Slots_,x.2.N_,y29) fun (y30:(List Xh))=>.leaf (.inr (x.1.C_.Sign_,x.1.C_.Regs_,x.1.C_.Slots_,x.1.C_.List_,x.1.Regs_,y30,x.1.Out_,x.1.Grads_,x.1.Params_,x.1.Cost_))) (.ite (x.2.Op_==31) (.need (x.1.Out_.length * 24≤140737488355328) (.bnd (idx x.1.C_.Regs_ x.2.A_) fun y31=>.bnd (idx x.1.Regs_ x.2.A_) fun y32=>.need (0≤(IntKind.i64.wrap ((IntKind.i64.wrap ((2:Int) * y31.Param_))+x.2.N_))∧(IntKind.i64.wrap ((IntKind.i64.wrap ((2:Int) * y31.Param_))+x.2.N_))<(x.1.Out_.length:Int)) (.bnd (x.1.Out_[(IntKind.i64.wrap ((IntKind.i64.wrap ((2:Int) * y31.Param_))+x.2.N_)).toNat]?) fun y33=>.leaf (.inr (x.1.C_.Sign_,x.1.C_.Regs_,x.1.C_.Slots_,x.1.C_.List_,x.1.Regs_,x.1.Slots_,(x.1.Out_.set ((IntKind.i64.wrap ((IntKind.i64.wrap ((2:Int) * y31.Param_))+x.2.N_)).toNat) y32.Nums_),x.1.Grads_,x.1.Params_,x.1.Cost_))))) (.leaf (.inr (x.1.C_.Sign_,x.1.C_.Regs_,x.1.C_.Slots_,x.1.C_.List_,x.1.Regs_,x.1.Slots_,x.1.Out_,x.1.Grads_,x.1.Params_,x.1.Cost_))))))))))))))))) fun s3=>.call (k175 n) (x.1.Regs_,x.2.D_,(⟨s3.1,s3.2⟩:Xh)) fun (y34:(List Xh))=>.leaf (x.1.C_.Sign_,x.1.C_.Regs_,x.1.C_.Slots_,x.1.C_.List_,y34,x.1.Slots_,x.1.Out_,x.1.Grads_,x.1.Params_,x.1.Cost_)
noncomputable def k154 (n:Nat):Con P_ Ty_:=ze (X:=Ybj) (R:=Ycn) (pro:=[]) (y50 n) 20 y51 (fun x=>.two .no (.two .no (.join (Yas) (zn8 x) ⟨[(2,.ref 2),(3,.ref 3),(4,.ref 4),(5,.ref 5)],[(2,.any),(3,.any),(4,.any),(5,.fix [.im 9,.no])]⟩ (.two (.two .no (.two .no (.two .no (.two .no (.join Bool (zn6 x) ⟨[(2,.ref 2),(3,.ref 3),(4,.ref 4),(5,.ref 5),(27,.any)],[(2,.any),(3,.any),(4,.any),(5,.any)]⟩ .no (.two .no (.two .no (.two .no (.two .no (.two .no (.two .no (.two .no (.two .no (.two .no (.two .no (.two .no (.join Bool (zn7 x) ⟨[(2,.ref 2),(3,.ref 3),(4,.ref 4),(5,.ref 5),(126,.any)],[(2,.any),(3,.any),(4,.any),(5,.any)]⟩ .no .no))))))))))))))))) .no) .no))) [.ag [.im 1,.im 2,.im 3,.im 4,.im 12,.im 12,.im 10,.im 6,.im 6,.any],.ag [.any,.any,.any,.any,.any,.any,.any]] [] [] ⟨[(4,.ref 100000)],[(100000,.fix [.no,.no,.no,.no,.no,.no,.im 10,.no,.no,.no])]⟩ [] false (fun x=>[.ag [.im 1 x.1.C_.Sign_,.im 2 x.1.C_.Regs_,.im 3 x.1.C_.Slots_,.im 4 x.1.C_.List_,.im 12 x.1.Regs_,.im 12 x.1.Slots_,.im 10 x.1.Out_,.im 6 x.1.Grads_,.im 6 x.1.Params_,I_ x.1.Cost_],.ag [I_ x.2.Op_,I_ x.2.D_,I_ x.2.A_,I_ x.2.B_,I_ x.2.C_,I_ x.2.N_,.sc (.int .u32 x.2.Bits_)]]) (fun x=>[]) (fun y=>([(4,.pt 100000 [] 0 0)],[(100000,.lit 10 [[.im 1 y.1,.im 2 y.2.1,.im 3 y.2.2.1,.im 4 y.2.2.2.1,.im 12 y.2.2.2.2.1,.im 12 y.2.2.2.2.2.1,.im 10 y.2.2.2.2.2.2.1,.im 6 y.2.2.2.2.2.2.2.1,.im 6 y.2.2.2.2.2.2.2.2.1,I_ y.2.2.2.2.2.2.2.2.2]])])) (fun y=>.ag [.im 1 y.1,.im 2 y.2.1,.im 3 y.2.2.1,.im 4 y.2.2.2.1,.im 12 y.2.2.2.2.1,.im 12 y.2.2.2.2.2.1,.im 10 y.2.2.2.2.2.2.1,.im 6 y.2.2.2.2.2.2.2.1,.im 6 y.2.2.2.2.2.2.2.2.1,I_ y.2.2.2.2.2.2.2.2.2]) (fun y=>[]) (z6w n)
noncomputable def zjy (n:Nat):Cx P_ Ty_:=⟨[],[(39,false,5),(40,false,5),(56,false,5),(60,false,6),(61,false,6)],[],[(60,[.row 600002])]⟩
abbrev zjz:List (List Nat):=[[1],[1,3],[1,3,4],[1,3,4,13],[1,3,4,5],[1,3,4,5,6],[1,3,4,5,6,7],[1,3,4,5,6,7,25],[1,3,4,5,6,7],[1,3,4,5,6,7,43],[1,3,4,5,6,7],[1,3,4,5,6,7],[1,3,4],[1,3,4],[2]]
noncomputable def z9u (n:Nat) (x:Xj) (v1:Unit) (q1:Yaf) (v2:Yax) (q2:Yab):Pt P_ Ty_ [] (Bo (Yab) (Yab) Empty):=.ite (decide (q2.1<v2.2.2)) (.bnd (idx x.Out_ (IntKind.i64.wrap ((2:Int) * q1.1))) fun y2=>.bnd (idx y2 q2.1) fun y3=>.need ((q2.2.length+([(IntKind.u32.wrap y3)]:List Int).length) * 4≤140737488355328) (.ite (v2.2.1==2) (.bnd (idx x.Out_ (IntKind.i64.wrap ((IntKind.i64.wrap ((2:Int) * q1.1))+(1:Int)))) fun y4=>.bnd (idx y4 q2.1) fun y5=>.need (((q2.2++([(IntKind.u32.wrap y3)]:List Int)).length+([(IntKind.u32.wrap y5)]:List Int).length) * 4≤140737488355328) (.leaf (.go ((IntKind.i64.wrap (q2.1+(1:Int))),((q2.2++([(IntKind.u32.wrap y3)]:List Int))++([(IntKind.u32.wrap y5)]:List Int)))))) (.leaf (.go ((IntKind.i64.wrap (q2.1+(1:Int))),(q2.2++([(IntKind.u32.wrap y3)]:List Int))))))) (.leaf (.out (q2.1,q2.2)))
noncomputable def zna (n:Nat) (x:Xj) (v1:Unit) (q1:Yaf) (v2:Yax):LCon P_ Ty_ []:=lcon (X:=Yab) (Y:=Yab) (Z:=Empty) (zjy n) (subC [1,1,0,1,0,0,1,0,0,1,1,0,1,0,0] (fnC P_ 21 zjz)) (fun q2=>.no) 2 false ⟨[(1,.ref 1),(3,.ref 600001),(4,.any),(5,.ref 5),(6,.own 600002 false 5),(7,.any)],[(1,.any),(600001,.any),(5,.any),(600002,.any)]⟩ ⟨[(1,.ref 1),(3,.ref 600001),(4,.any),(5,.ref 5),(6,.ref 600002),(7,.any),(25,.any)],[(1,.any),(600001,.any),(5,.any),(600002,.any)]⟩ ⟨[],[]⟩ (fun q2=>([(1,.pt 1 [] 0 0),(3,.sw 600001 []),(4,I_ q1.1),(5,.pt 5 [] 0 0),(6,.sw 600002 []),(7,I_ q2.1)],[(1,.lit 10 [[.im 1 x.C_.Sign_,.im 2 x.C_.Regs_,.im 3 x.C_.Slots_,.im 4 x.C_.List_,.im 12 x.Regs_,.im 12 x.Slots_,.im 10 x.Out_,.im 6 x.Grads_,.im 6 x.Params_,I_ x.Cost_]]),(600001,.typ false 6 q1.2),(5,.lit 3 [[.sc (.string v2.1),I_ v2.2.1,I_ v2.2.2]]),(600002,.typ false 5 q2.2)])) (fun p=>([(1,.pt 1 [] 0 0),(3,.sw 600001 []),(4,I_ q1.1),(5,.pt 5 [] 0 0),(6,.sw 600002 []),(7,I_ p.1),(25,B_ false)],[(1,.lit 10 [[.im 1 x.C_.Sign_,.im 2 x.C_.Regs_,.im 3 x.C_.Slots_,.im 4 x.C_.List_,.im 12 x.Regs_,.im 12 x.Slots_,.im 10 x.Out_,.im 6 x.Grads_,.im 6 x.Params_,I_ x.Cost_]]),(600001,.typ false 6 q1.2),(5,.lit 3 [[.sc (.string v2.1),I_ v2.2.1,I_ v2.2.2]]),(600002,.typ false 5 p.2)])) (fun p=>nomatch p) n (z9u n x v1 q1 v2)
noncomputable def z9t (n:Nat) (x:Xj) (v1:Unit) (q1:Yaf):Pt P_ Ty_ [] (Bo (Yaf) (Yaf) Empty):=.ite (decide (q1.1<(x.C_.Sign_.length:Int))) (.bnd (idx x.C_.Sign_ q1.1) fun y1=>.loop (V:=Yax) (zna n x v1 q1) (y1.Name_,y1.Kind_,y1.Len_) ((0:Int),([]:List Int)) fun (v2:Yax) (y6:Yab)=>.need ((q1.2.length+([y6.2]:List (List Int)).length) * 24≤140737488355328) (.leaf (.go ((IntKind.i64.wrap (q1.1+(1:Int))),(q1.2++([y6.2]:List (List Int))))))) (.leaf (.out (q1.1,q1.2)))
noncomputable def zn9 (n:Nat) (x:Xj) (v1:Unit):LCon P_ Ty_ []:=lcon (X:=Yaf) (Y:=Yaf) (Z:=Empty) (zjy n) (subC [1,1,0,1,0,0] (fnC P_ 21 zjz)) (fun q1=>.two .no (.two (.two (.two .no (.two .no (.two (.two .no (.two (.loop (Yax) (zna n x v1 q1) false ⟨[(1,.ref 1),(3,.ref 600001),(4,.any),(5,.ref 5),(6,.own 600002 false 5),(7,.any)],[(1,.any),(600001,.any),(5,.any),(600002,.any)]⟩) .no)) .no))) .no) .no)) 0 false ⟨[(1,.ref 1),(3,.own 600001 false 6),(4,.any)],[(1,.any),(600001,.any)]⟩ ⟨[(1,.ref 1),(3,.ref 600001),(4,.any),(13,.any)],[(1,.any),(600001,.any)]⟩ ⟨[],[]⟩ (fun q1=>([(1,.pt 1 [] 0 0),(3,.sw 600001 []),(4,I_ q1.1)],[(1,.lit 10 [[.im 1 x.C_.Sign_,.im 2 x.C_.Regs_,.im 3 x.C_.Slots_,.im 4 x.C_.List_,.im 12 x.Regs_,.im 12 x.Slots_,.im 10 x.Out_,.im 6 x.Grads_,.im 6 x.Params_,I_ x.Cost_]]),(600001,.typ false 6 q1.2)])) (fun p=>([(1,.pt 1 [] 0 0),(3,.sw 600001 []),(4,I_ p.1),(13,B_ false)],[(1,.lit 10 [[.im 1 x.C_.Sign_,.im 2 x.C_.Regs_,.im 3 x.C_.Slots_,.im 4 x.C_.List_,.im 12 x.Regs_,.im 12 x.Slots_,.im 10 x.Out_,.im 6 x.Grads_,.im 6 x.Params_,I_ x.Cost_]]),(600001,.typ false 6 p.2)])) (fun p=>nomatch p) n (z9t n x v1)
noncomputable def zk0 (n:Nat) (x:Xj):Pt P_ Ty_ [] (List (List Int)):=.loop (V:=Unit) (zn9 n x) () ((0:Int),([]:List (List Int))) fun (v1:Unit) (y7:Yaf)=>.leaf y7.2
noncomputable def k155 (n:Nat):Con P_ Ty_:=ze (X:=Xj) (R:=(List (List Int))) (pro:=[]) (zjy n) 21 zjz (fun x=>.two .no (.two .no (.two (.two .no (.two (.loop Unit (zn9 n x) false ⟨[(1,.ref 1),(3,.own 600001 false 6),(4,.any)],[(1,.any),(600001,.any)]⟩) .no)) .no))) [.ag [.im 1,.im 2,.im 3,.im 4,.im 12,.im 12,.im 10,.im 6,.im 6,.any]] [] [] ⟨[(2,.im 6)],[]⟩ [] false (fun x=>[.ag [.im 1 x.C_.Sign_,.im 2 x.C_.Regs_,.im 3 x.C_.Slots_,.im 4 x.C_.List_,.im 12 x.Regs_,.im 12 x.Slots_,.im 10 x.Out_,.im 6 x.Grads_,.im 6 x.Params_,I_ x.Cost_]]) (fun x=>[]) (fun y=>([(2,.im 6 y)],[])) (fun y=>.im 6 y) (fun y=>[]) (zk0 n)
end Loom
