/- What the functions that FuseMeans reaches answer,and that they do (part 1 of 2). -/
import Derived.Test.YtkdodmdcmakdgaaGreatLoomC
import Derived.Test.YtkdodmdcmakdgaaGreatChecked
import Derived.KernelRfl
import Derived.WalkKit
import Derived.WalkSpells
import Derived.WalkLawsBesides
import Derived.Lib.Bytealg
set_option linter.unusedVariables false
set_option linter.unusedSimpArgs false
namespace Loom
open Go Go.RowKit
set_option maxRecDepth 100000
noncomputable abbrev P_:=Go.Proofs.Tryz.prog
abbrev I_ {E} (x:Int):TV E:=.sc (.int .i64 x)
abbrev B_ {E} (x:Bool):TV E:=.sc (.bool x)
structure Xa where
 Name_:ByteArray
 Kind_:Int
 Len_:Int
structure Xb where
 Kind_:Int
 Param_:Int
structure Xc where
 Type_:Xb
 Keep_:Bool
 Bits_:Int
 Int_:Int
structure Xd where
 Op_:Int
 D_:Int
 A_:Int
 B_:Int
 C_:Int
 N_:Int
 Bits_:Int
structure Xe where
 Sign_:(List Xa)
 Regs_:(List Xb)
 Slots_:(List Xc)
 List_:(List Xd)
structure Xf where
 Grads_:(List (List Int))
 Params_:(List (List Int))
structure Xg where
 Op_:Int
 Param_:Int
 Set_:(List Bool)
structure Xh where
 Nums_:(List Int)
 Int_:Int
structure Xi where
 C_:Xe
 Slots_:(List Xh)
structure Xj where
 C_:Xe
 Regs_:(List Xh)
 Slots_:(List Xh)
 Out_:(List (List Int))
 Grads_:(List (List Int))
 Params_:(List (List Int))
 Cost_:Int
structure Xk where
 Minus_:Bool
 M_:Int
 E_:Int
 Inf_:Bool
 Nan_:Bool
def El_:Nat→Type
 | 0=>Int
 | 1=>Xa
 | 2=>Xb
 | 3=>Xc
 | 4=>Xd
 | 5=>Int
 | 6=>(List Int)
 | 7=>Xf
 | 8=>Bool
 | 9=>Int
 | 10=>(List Int)
 | 11=>Xg
 | 12=>Xh
 | 13=>Xe
 | _+14=>Empty
def c0 (_:Bool) (x:Int):List AV:=[.sc (.int .u8 x)]
def d0 (_:Bool) (x:Int):List (TV El_):=[.sc (.int .u8 x)]
def c1 (_:Bool) (x:Xa):List AV:=[.sc (.string x.Name_),.sc (.int .i64 x.Kind_),.sc (.int .i64 x.Len_)]
def d1 (_:Bool) (x:Xa):List (TV El_):=[.sc (.string x.Name_),.sc (.int .i64 x.Kind_),.sc (.int .i64 x.Len_)]
def c2 (_:Bool) (x:Xb):List AV:=[.sc (.int .i64 x.Kind_),.sc (.int .i64 x.Param_)]
def d2 (_:Bool) (x:Xb):List (TV El_):=[.sc (.int .i64 x.Kind_),.sc (.int .i64 x.Param_)]
def c3 (_:Bool) (x:Xc):List AV:=[.sc (.int .i64 x.Type_.Kind_),.sc (.int .i64 x.Type_.Param_),.sc (.bool x.Keep_),.sc (.int .u32 x.Bits_),.sc (.int .i64 x.Int_)]
def d3 (_:Bool) (x:Xc):List (TV El_):=[.sc (.int .i64 x.Type_.Kind_),.sc (.int .i64 x.Type_.Param_),.sc (.bool x.Keep_),.sc (.int .u32 x.Bits_),.sc (.int .i64 x.Int_)]
def c4 (_:Bool) (x:Xd):List AV:=[.sc (.int .i64 x.Op_),.sc (.int .i64 x.D_),.sc (.int .i64 x.A_),.sc (.int .i64 x.B_),.sc (.int .i64 x.C_),.sc (.int .i64 x.N_),.sc (.int .u32 x.Bits_)]
def d4 (_:Bool) (x:Xd):List (TV El_):=[.sc (.int .i64 x.Op_),.sc (.int .i64 x.D_),.sc (.int .i64 x.A_),.sc (.int .i64 x.B_),.sc (.int .i64 x.C_),.sc (.int .i64 x.N_),.sc (.int .u32 x.Bits_)]
def c5 (_:Bool) (x:Int):List AV:=[.sc (.int .u32 x)]
def d5 (_:Bool) (x:Int):List (TV El_):=[.sc (.int .u32 x)]
def c6:Bool→(List Int)→List AV
 | true,x=>[.ow 1 (x.map (c5 false))]
 | false,x=>[.im 1 (x.map (c5 false))]
def d6:Bool→(List Int)→List (TV El_)
 | true,x=>[.ow false 5 x]
 | false,x=>[.im 5 x]
def c7:Bool→Xf→List AV
 | true,x=>[.ow 1 (x.Grads_.map (c6 true)),.ow 1 (x.Params_.map (c6 true))]
 | false,x=>[.im 1 (x.Grads_.map (c6 false)),.im 1 (x.Params_.map (c6 false))]
def d7:Bool→Xf→List (TV El_)
 | true,x=>[.ow true 6 x.Grads_,.ow true 6 x.Params_]
 | false,x=>[.im 6 x.Grads_,.im 6 x.Params_]
def c8 (_:Bool) (x:Bool):List AV:=[.sc (.bool x)]
def d8 (_:Bool) (x:Bool):List (TV El_):=[.sc (.bool x)]
def c9 (_:Bool) (x:Int):List AV:=[.sc (.int .i64 x)]
def d9 (_:Bool) (x:Int):List (TV El_):=[.sc (.int .i64 x)]
def c10:Bool→(List Int)→List AV
 | true,x=>[.ow 1 (x.map (c9 false))]
 | false,x=>[.im 1 (x.map (c9 false))]
def d10:Bool→(List Int)→List (TV El_)
 | true,x=>[.ow false 9 x]
 | false,x=>[.im 9 x]
def c11:Bool→Xg→List AV
 | true,x=>[.sc (.int .i64 x.Op_),.sc (.int .i64 x.Param_),.ow 1 (x.Set_.map (c8 false))]
 | false,x=>[.sc (.int .i64 x.Op_),.sc (.int .i64 x.Param_),.im 1 (x.Set_.map (c8 false))]
def d11:Bool→Xg→List (TV El_)
 | true,x=>[.sc (.int .i64 x.Op_),.sc (.int .i64 x.Param_),.ow false 8 x.Set_]
 | false,x=>[.sc (.int .i64 x.Op_),.sc (.int .i64 x.Param_),.im 8 x.Set_]
def c12:Bool→Xh→List AV
 | true,x=>[.ow 1 (x.Nums_.map (c9 false)),.sc (.int .i64 x.Int_)]
 | false,x=>[.im 1 (x.Nums_.map (c9 false)),.sc (.int .i64 x.Int_)]
def d12:Bool→Xh→List (TV El_)
 | true,x=>[.ow false 9 x.Nums_,.sc (.int .i64 x.Int_)]
 | false,x=>[.im 9 x.Nums_,.sc (.int .i64 x.Int_)]
def c13:Bool→Xe→List AV
 | true,x=>[.ow 3 (x.Sign_.map (c1 false)),.ow 2 (x.Regs_.map (c2 false)),.ow 5 (x.Slots_.map (c3 false)),.ow 7 (x.List_.map (c4 false))]
 | false,x=>[.im 3 (x.Sign_.map (c1 false)),.im 2 (x.Regs_.map (c2 false)),.im 5 (x.Slots_.map (c3 false)),.im 7 (x.List_.map (c4 false))]
def d13:Bool→Xe→List (TV El_)
 | true,x=>[.ow false 1 x.Sign_,.ow false 2 x.Regs_,.ow false 3 x.Slots_,.ow false 4 x.List_]
 | false,x=>[.im 1 x.Sign_,.im 2 x.Regs_,.im 3 x.Slots_,.im 4 x.List_]
def ca_ (m:Bool):(t:Nat)→El_ t→List AV
 | 0=>c0 m
 | 1=>c1 m
 | 2=>c2 m
 | 3=>c3 m
 | 4=>c4 m
 | 5=>c5 m
 | 6=>c6 m
 | 7=>c7 m
 | 8=>c8 m
 | 9=>c9 m
 | 10=>c10 m
 | 11=>c11 m
 | 12=>c12 m
 | 13=>c13 m
 | _+14=>fun _=>[]
def ct_ (m:Bool):(t:Nat)→El_ t→List (TV El_)
 | 0=>d0 m
 | 1=>d1 m
 | 2=>d2 m
 | 3=>d3 m
 | 4=>d4 m
 | 5=>d5 m
 | 6=>d6 m
 | 7=>d7 m
 | 8=>d8 m
 | 9=>d9 m
 | 10=>d10 m
 | 11=>d11 m
 | 12=>d12 m
 | 13=>d13 m
 | _+14=>fun _=>[]
def sz_:Nat→Nat
 | 0=>1
 | 1=>3
 | 2=>2
 | 3=>5
 | 4=>7
 | 5=>1
 | 6=>1
 | 7=>2
 | 8=>1
 | 9=>1
 | 10=>1
 | 11=>3
 | 12=>2
 | 13=>4
 | _+14=>0
def ks_ (m:Bool):Nat→List Kd
 | 0=>[]
 | 1=>[]
 | 2=>[]
 | 3=>[]
 | 4=>[]
 | 5=>[]
 | 6=>bif m then [.ow false 5] else [.im 5]
 | 7=>bif m then [.ow true 6,.ow true 6] else [.im 6,.im 6]
 | 8=>[]
 | 9=>[]
 | 10=>bif m then [.ow false 9] else [.im 9]
 | 11=>bif m then [.no,.no,.ow false 8] else [.no,.no,.im 8]
 | 12=>bif m then [.ow false 9,.no] else [.im 9,.no]
 | 13=>bif m then [.ow false 1,.ow false 2,.ow false 3,.ow false 4] else [.im 1,.im 2,.im 3,.im 4]
 | _+14=>[]
abbrev T0_:TT0:=⟨El_,sz_,ca_⟩
def u0 (m:Bool):List (TV El_)→Option Int
 | [v0]=>((gI .u8 v0).bind fun a0=>some a0)
 | _=>none
def u1 (m:Bool):List (TV El_)→Option Xa
 | [v0,v1,v2]=>((gS v0).bind fun a0=>(gI .i64 v1).bind fun a1=>(gI .i64 v2).bind fun a2=>some ⟨a0,a1,a2⟩)
 | _=>none
def u2 (m:Bool):List (TV El_)→Option Xb
 | [v0,v1]=>((gI .i64 v0).bind fun a0=>(gI .i64 v1).bind fun a1=>some ⟨a0,a1⟩)
 | _=>none
def u3 (m:Bool):List (TV El_)→Option Xc
 | [v0,v1,v2,v3,v4]=>((gI .i64 v0).bind fun a0=>(gI .i64 v1).bind fun a1=>(gB v2).bind fun a2=>(gI .u32 v3).bind fun a3=>(gI .i64 v4).bind fun a4=>some ⟨⟨a0,a1⟩,a2,a3,a4⟩)
 | _=>none
def u4 (m:Bool):List (TV El_)→Option Xd
 | [v0,v1,v2,v3,v4,v5,v6]=>((gI .i64 v0).bind fun a0=>(gI .i64 v1).bind fun a1=>(gI .i64 v2).bind fun a2=>(gI .i64 v3).bind fun a3=>(gI .i64 v4).bind fun a4=>(gI .i64 v5).bind fun a5=>(gI .u32 v6).bind fun a6=>some ⟨a0,a1,a2,a3,a4,a5,a6⟩)
 | _=>none
def u5 (m:Bool):List (TV El_)→Option Int
 | [v0]=>((gI .u32 v0).bind fun a0=>some a0)
 | _=>none
def u6 (m:Bool):List (TV El_)→Option (List Int)
 | [v0]=>bif m then ((gO false 5 v0).bind fun a0=>some a0) else ((gM 5 v0).bind fun a0=>some a0)
 | _=>none
def u7 (m:Bool):List (TV El_)→Option Xf
 | [v0,v1]=>bif m then ((gO true 6 v0).bind fun a0=>(gO true 6 v1).bind fun a1=>some ⟨a0,a1⟩) else ((gM 6 v0).bind fun a0=>(gM 6 v1).bind fun a1=>some ⟨a0,a1⟩)
 | _=>none
def u8 (m:Bool):List (TV El_)→Option Bool
 | [v0]=>((gB v0).bind fun a0=>some a0)
 | _=>none
def u9 (m:Bool):List (TV El_)→Option Int
 | [v0]=>((gI .i64 v0).bind fun a0=>some a0)
 | _=>none
def u10 (m:Bool):List (TV El_)→Option (List Int)
 | [v0]=>bif m then ((gO false 9 v0).bind fun a0=>some a0) else ((gM 9 v0).bind fun a0=>some a0)
 | _=>none
def u11 (m:Bool):List (TV El_)→Option Xg
 | [v0,v1,v2]=>bif m then ((gI .i64 v0).bind fun a0=>(gI .i64 v1).bind fun a1=>(gO false 8 v2).bind fun a2=>some ⟨a0,a1,a2⟩) else ((gI .i64 v0).bind fun a0=>(gI .i64 v1).bind fun a1=>(gM 8 v2).bind fun a2=>some ⟨a0,a1,a2⟩)
 | _=>none
def u12 (m:Bool):List (TV El_)→Option Xh
 | [v0,v1]=>bif m then ((gO false 9 v0).bind fun a0=>(gI .i64 v1).bind fun a1=>some ⟨a0,a1⟩) else ((gM 9 v0).bind fun a0=>(gI .i64 v1).bind fun a1=>some ⟨a0,a1⟩)
 | _=>none
def u13 (m:Bool):List (TV El_)→Option Xe
 | [v0,v1,v2,v3]=>bif m then ((gO false 1 v0).bind fun a0=>(gO false 2 v1).bind fun a1=>(gO false 3 v2).bind fun a2=>(gO false 4 v3).bind fun a3=>some ⟨a0,a1,a2,a3⟩) else ((gM 1 v0).bind fun a0=>(gM 2 v1).bind fun a1=>(gM 3 v2).bind fun a2=>(gM 4 v3).bind fun a3=>some ⟨a0,a1,a2,a3⟩)
 | _=>none
def un_ (m:Bool):(t:Nat)→List (TV El_)→Option (El_ t)
 | 0=>u0 m
 | 1=>u1 m
 | 2=>u2 m
 | 3=>u3 m
 | 4=>u4 m
 | 5=>u5 m
 | 6=>u6 m
 | 7=>u7 m
 | 8=>u8 m
 | 9=>u9 m
 | 10=>u10 m
 | 11=>u11 m
 | 12=>u12 m
 | 13=>u13 m
 | _+14=>fun _=>none
theorem yba (m:Bool) (l:List (TV El_)) (x:Int) (h:u0 m l=some x):denL T0_ [] l=c0 m x:=by
 unfold u0 at h
 split at h
 ·skip
  obtain ⟨a0,h0,h⟩:=zc h
  cases h
  simp only [denL,z23 (T:=T0_) h0]
  rfl
 ·cases h
theorem ybb (m:Bool) (l:List (TV El_)) (x:Xa) (h:u1 m l=some x):denL T0_ [] l=c1 m x:=by
 unfold u1 at h
 split at h
 ·skip
  obtain ⟨a0,h0,h⟩:=zc h
  obtain ⟨a1,h1,h⟩:=zc h
  obtain ⟨a2,h2,h⟩:=zc h
  cases h
  simp only [denL,yb3 (T:=T0_) h0,z23 (T:=T0_) h1,z23 (T:=T0_) h2]
  rfl
 ·cases h
theorem ybc (m:Bool) (l:List (TV El_)) (x:Xb) (h:u2 m l=some x):denL T0_ [] l=c2 m x:=by
 unfold u2 at h
 split at h
 ·skip
  obtain ⟨a0,h0,h⟩:=zc h
  obtain ⟨a1,h1,h⟩:=zc h
  cases h
  simp only [denL,z23 (T:=T0_) h0,z23 (T:=T0_) h1]
  rfl
 ·cases h
theorem ybd (m:Bool) (l:List (TV El_)) (x:Xc) (h:u3 m l=some x):denL T0_ [] l=c3 m x:=by
 unfold u3 at h
 split at h
 ·skip
  obtain ⟨a0,h0,h⟩:=zc h
  obtain ⟨a1,h1,h⟩:=zc h
  obtain ⟨a2,h2,h⟩:=zc h
  obtain ⟨a3,h3,h⟩:=zc h
  obtain ⟨a4,h4,h⟩:=zc h
  cases h
  simp only [denL,z23 (T:=T0_) h0,z23 (T:=T0_) h1,y1h (T:=T0_) h2,z23 (T:=T0_) h3,z23 (T:=T0_) h4]
  rfl
 ·cases h
theorem ybe (m:Bool) (l:List (TV El_)) (x:Xd) (h:u4 m l=some x):denL T0_ [] l=c4 m x:=by
 unfold u4 at h
 split at h
 ·skip
  obtain ⟨a0,h0,h⟩:=zc h
  obtain ⟨a1,h1,h⟩:=zc h
  obtain ⟨a2,h2,h⟩:=zc h
  obtain ⟨a3,h3,h⟩:=zc h
  obtain ⟨a4,h4,h⟩:=zc h
  obtain ⟨a5,h5,h⟩:=zc h
  obtain ⟨a6,h6,h⟩:=zc h
  cases h
  simp only [denL,z23 (T:=T0_) h0,z23 (T:=T0_) h1,z23 (T:=T0_) h2,z23 (T:=T0_) h3,z23 (T:=T0_) h4,z23 (T:=T0_) h5,z23 (T:=T0_) h6]
  rfl
 ·cases h
theorem ybf (m:Bool) (l:List (TV El_)) (x:Int) (h:u5 m l=some x):denL T0_ [] l=c5 m x:=by
 unfold u5 at h
 split at h
 ·skip
  obtain ⟨a0,h0,h⟩:=zc h
  cases h
  simp only [denL,z23 (T:=T0_) h0]
  rfl
 ·cases h
theorem ybg (m:Bool) (l:List (TV El_)) (x:(List Int)) (h:u6 m l=some x):denL T0_ [] l=c6 m x:=by
 unfold u6 at h
 split at h
 ·cases m
  ·simp only [cond_false] at h
   obtain ⟨a0,h0,h⟩:=zc h
   cases h
   simp only [denL,z6c (T:=T0_) h0]
   rfl
  ·simp only [cond_true] at h
   obtain ⟨a0,h0,h⟩:=zc h
   cases h
   simp only [denL,z6d (T:=T0_) h0]
   rfl
 ·cases h
theorem ybh (m:Bool) (l:List (TV El_)) (x:Xf) (h:u7 m l=some x):denL T0_ [] l=c7 m x:=by
 unfold u7 at h
 split at h
 ·cases m
  ·simp only [cond_false] at h
   obtain ⟨a0,h0,h⟩:=zc h
   obtain ⟨a1,h1,h⟩:=zc h
   cases h
   simp only [denL,z6c (T:=T0_) h0,z6c (T:=T0_) h1]
   rfl
  ·simp only [cond_true] at h
   obtain ⟨a0,h0,h⟩:=zc h
   obtain ⟨a1,h1,h⟩:=zc h
   cases h
   simp only [denL,z6d (T:=T0_) h0,z6d (T:=T0_) h1]
   rfl
 ·cases h
theorem ybi (m:Bool) (l:List (TV El_)) (x:Bool) (h:u8 m l=some x):denL T0_ [] l=c8 m x:=by
 unfold u8 at h
 split at h
 ·skip
  obtain ⟨a0,h0,h⟩:=zc h
  cases h
  simp only [denL,y1h (T:=T0_) h0]
  rfl
 ·cases h
theorem ybj (m:Bool) (l:List (TV El_)) (x:Int) (h:u9 m l=some x):denL T0_ [] l=c9 m x:=by
 unfold u9 at h
 split at h
 ·skip
  obtain ⟨a0,h0,h⟩:=zc h
  cases h
  simp only [denL,z23 (T:=T0_) h0]
  rfl
 ·cases h
theorem y8y (m:Bool) (l:List (TV El_)) (x:(List Int)) (h:u10 m l=some x):denL T0_ [] l=c10 m x:=by
 unfold u10 at h
 split at h
 ·cases m
  ·simp only [cond_false] at h
   obtain ⟨a0,h0,h⟩:=zc h
   cases h
   simp only [denL,z6c (T:=T0_) h0]
   rfl
  ·simp only [cond_true] at h
   obtain ⟨a0,h0,h⟩:=zc h
   cases h
   simp only [denL,z6d (T:=T0_) h0]
   rfl
 ·cases h
theorem y8z (m:Bool) (l:List (TV El_)) (x:Xg) (h:u11 m l=some x):denL T0_ [] l=c11 m x:=by
 unfold u11 at h
 split at h
 ·cases m
  ·simp only [cond_false] at h
   obtain ⟨a0,h0,h⟩:=zc h
   obtain ⟨a1,h1,h⟩:=zc h
   obtain ⟨a2,h2,h⟩:=zc h
   cases h
   simp only [denL,z23 (T:=T0_) h0,z23 (T:=T0_) h1,z6c (T:=T0_) h2]
   rfl
  ·simp only [cond_true] at h
   obtain ⟨a0,h0,h⟩:=zc h
   obtain ⟨a1,h1,h⟩:=zc h
   obtain ⟨a2,h2,h⟩:=zc h
   cases h
   simp only [denL,z23 (T:=T0_) h0,z23 (T:=T0_) h1,z6d (T:=T0_) h2]
   rfl
 ·cases h
theorem y90 (m:Bool) (l:List (TV El_)) (x:Xh) (h:u12 m l=some x):denL T0_ [] l=c12 m x:=by
 unfold u12 at h
 split at h
 ·cases m
  ·simp only [cond_false] at h
   obtain ⟨a0,h0,h⟩:=zc h
   obtain ⟨a1,h1,h⟩:=zc h
   cases h
   simp only [denL,z6c (T:=T0_) h0,z23 (T:=T0_) h1]
   rfl
  ·simp only [cond_true] at h
   obtain ⟨a0,h0,h⟩:=zc h
   obtain ⟨a1,h1,h⟩:=zc h
   cases h
   simp only [denL,z6d (T:=T0_) h0,z23 (T:=T0_) h1]
   rfl
 ·cases h
theorem y91 (m:Bool) (l:List (TV El_)) (x:Xe) (h:u13 m l=some x):denL T0_ [] l=c13 m x:=by
 unfold u13 at h
 split at h
 ·cases m
  ·simp only [cond_false] at h
   obtain ⟨a0,h0,h⟩:=zc h
   obtain ⟨a1,h1,h⟩:=zc h
   obtain ⟨a2,h2,h⟩:=zc h
   obtain ⟨a3,h3,h⟩:=zc h
   cases h
   simp only [denL,z6c (T:=T0_) h0,z6c (T:=T0_) h1,z6c (T:=T0_) h2,z6c (T:=T0_) h3]
   rfl
  ·simp only [cond_true] at h
   obtain ⟨a0,h0,h⟩:=zc h
   obtain ⟨a1,h1,h⟩:=zc h
   obtain ⟨a2,h2,h⟩:=zc h
   obtain ⟨a3,h3,h⟩:=zc h
   cases h
   simp only [denL,z6d (T:=T0_) h0,z6d (T:=T0_) h1,z6d (T:=T0_) h2,z6d (T:=T0_) h3]
   rfl
 ·cases h
theorem im6:∀ (m:Bool) (x:(List Int)),z2b (c6 m x)=c6 false x
 | true,x=>by simp only [c6,z2b,toIm,z2m (o:=c5 false) (c:=c5 false) (fun _=>rfl)]
 | false,_=>rfl
theorem ow6 (x:(List Int)):z1o (c6 true x)=true:=by simp [c6,z1o,noIm,z2f (o:=c5 false) (fun _=>rfl)]
theorem im7:∀ (m:Bool) (x:Xf),z2b (c7 m x)=c7 false x
 | true,x=>by simp only [c7,z2b,toIm,z2m (o:=c6 true) (c:=c6 false) (fun _=>im6 true _)]
 | false,_=>rfl
theorem ow7 (x:Xf):z1o (c7 true x)=true:=by simp [c7,z1o,noIm,z2f (o:=c6 true) (fun _=>ow6 _)]
theorem im10:∀ (m:Bool) (x:(List Int)),z2b (c10 m x)=c10 false x
 | true,x=>by simp only [c10,z2b,toIm,z2m (o:=c9 false) (c:=c9 false) (fun _=>rfl)]
 | false,_=>rfl
theorem ow10 (x:(List Int)):z1o (c10 true x)=true:=by simp [c10,z1o,noIm,z2f (o:=c9 false) (fun _=>rfl)]
theorem im11:∀ (m:Bool) (x:Xg),z2b (c11 m x)=c11 false x
 | true,x=>by simp only [c11,z2b,toIm,z2m (o:=c8 false) (c:=c8 false) (fun _=>rfl)]
 | false,_=>rfl
theorem ow11 (x:Xg):z1o (c11 true x)=true:=by simp [c11,z1o,noIm,z2f (o:=c8 false) (fun _=>rfl)]
theorem im12:∀ (m:Bool) (x:Xh),z2b (c12 m x)=c12 false x
 | true,x=>by simp only [c12,z2b,toIm,z2m (o:=c9 false) (c:=c9 false) (fun _=>rfl)]
 | false,_=>rfl
theorem ow12 (x:Xh):z1o (c12 true x)=true:=by simp [c12,z1o,noIm,z2f (o:=c9 false) (fun _=>rfl)]
theorem im13:∀ (m:Bool) (x:Xe),z2b (c13 m x)=c13 false x
 | true,x=>by simp only [c13,z2b,toIm,z2m (o:=c1 false) (c:=c1 false) (fun _=>rfl),z2m (o:=c2 false) (c:=c2 false) (fun _=>rfl),z2m (o:=c3 false) (c:=c3 false) (fun _=>rfl),z2m (o:=c4 false) (c:=c4 false) (fun _=>rfl)]
 | false,_=>rfl
theorem ow13 (x:Xe):z1o (c13 true x)=true:=by simp [c13,z1o,noIm,z2f (o:=c1 false) (fun _=>rfl),z2f (o:=c2 false) (fun _=>rfl),z2f (o:=c3 false) (fun _=>rfl),z2f (o:=c4 false) (fun _=>rfl)]
theorem y3t:∀ (m:Bool) (t:Nat) (x:El_ t),denL T0_ [] (ct_ m t x)=ca_ m t x
 | m,0,x=>rfl
 | m,1,x=>rfl
 | m,2,x=>rfl
 | m,3,x=>rfl
 | m,4,x=>rfl
 | m,5,x=>rfl
 | m,6,x=>by cases m <;> rfl
 | m,7,x=>by cases m <;> rfl
 | m,8,x=>rfl
 | m,9,x=>rfl
 | m,10,x=>by cases m <;> rfl
 | m,11,x=>by cases m <;> rfl
 | m,12,x=>by cases m <;> rfl
 | m,13,x=>by cases m <;> rfl
 | _,_+14,x=>rfl
theorem y3s:∀ (m:Bool) (t:Nat) (x:El_ t),inRL (T:=T0_) (ct_ m t x)=true
 | m,0,x=>rfl
 | m,1,x=>rfl
 | m,2,x=>rfl
 | m,3,x=>rfl
 | m,4,x=>rfl
 | m,5,x=>rfl
 | m,6,x=>by cases m <;> rfl
 | m,7,x=>by cases m <;> rfl
 | m,8,x=>rfl
 | m,9,x=>rfl
 | m,10,x=>by cases m <;> rfl
 | m,11,x=>by cases m <;> rfl
 | m,12,x=>by cases m <;> rfl
 | m,13,x=>by cases m <;> rfl
 | _,_+14,x=>rfl
theorem y92:∀ (m:Bool) (t:Nat) (cs:List (TV El_)) (x:El_ t),un_ m t cs=some x→denL T0_ [] cs=ca_ m t x
 | m,0,cs,x=>yba m cs x
 | m,1,cs,x=>ybb m cs x
 | m,2,cs,x=>ybc m cs x
 | m,3,cs,x=>ybd m cs x
 | m,4,cs,x=>ybe m cs x
 | m,5,cs,x=>ybf m cs x
 | m,6,cs,x=>ybg m cs x
 | m,7,cs,x=>ybh m cs x
 | m,8,cs,x=>ybi m cs x
 | m,9,cs,x=>ybj m cs x
 | m,10,cs,x=>y8y m cs x
 | m,11,cs,x=>y8z m cs x
 | m,12,cs,x=>y90 m cs x
 | m,13,cs,x=>y91 m cs x
 | _,_+14,_,x=>fun _=>nomatch x
theorem y8k:∀ (m:Bool) (t:Nat) (x:El_ t),z2b (ca_ m t x)=ca_ false t x
 | m,0,x=>rfl
 | m,1,x=>rfl
 | m,2,x=>rfl
 | m,3,x=>rfl
 | m,4,x=>rfl
 | m,5,x=>rfl
 | m,6,x=>im6 m x
 | m,7,x=>im7 m x
 | m,8,x=>rfl
 | m,9,x=>rfl
 | m,10,x=>im10 m x
 | m,11,x=>im11 m x
 | m,12,x=>im12 m x
 | m,13,x=>im13 m x
 | _,_+14,x=>rfl
def po_:Nat→Bool
 | 0=>true
 | 1=>true
 | 2=>true
 | 3=>true
 | 4=>true
 | 5=>true
 | 6=>true
 | 7=>true
 | 8=>true
 | 9=>true
 | 10=>true
 | 11=>true
 | 12=>true
 | 13=>true
 | _+14=>true
theorem y8r:∀ (t:Nat) (x:El_ t),po_ t=true→z1o (ca_ true t x)=true
 | 0,x=>fun _=>rfl
 | 1,x=>fun _=>rfl
 | 2,x=>fun _=>rfl
 | 3,x=>fun _=>rfl
 | 4,x=>fun _=>rfl
 | 5,x=>fun _=>rfl
 | 6,x=>fun _=>ow6 x
 | 7,x=>fun _=>ow7 x
 | 8,x=>fun _=>rfl
 | 9,x=>fun _=>rfl
 | 10,x=>fun _=>ow10 x
 | 11,x=>fun _=>ow11 x
 | 12,x=>fun _=>ow12 x
 | 13,x=>fun _=>ow13 x
 | _+14,x=>fun _=>rfl
def pl_:Nat→Bool
 | 0=>true
 | 1=>true
 | 2=>true
 | 3=>true
 | 4=>true
 | 5=>true
 | 6=>false
 | 7=>false
 | 8=>true
 | 9=>true
 | 10=>false
 | 11=>false
 | 12=>false
 | 13=>false
 | _+14=>true
theorem y8s:∀ (t:Nat) (x:El_ t),pl_ t=true→z1o (ca_ false t x)=true
 | 0,x=>fun _=>rfl
 | 1,x=>fun _=>rfl
 | 2,x=>fun _=>rfl
 | 3,x=>fun _=>rfl
 | 4,x=>fun _=>rfl
 | 5,x=>fun _=>rfl
 | 6,x=>fun h=>nomatch h
 | 7,x=>fun h=>nomatch h
 | 8,x=>fun _=>rfl
 | 9,x=>fun _=>rfl
 | 10,x=>fun h=>nomatch h
 | 11,x=>fun h=>nomatch h
 | 12,x=>fun h=>nomatch h
 | 13,x=>fun h=>nomatch h
 | _+14,x=>fun _=>rfl
theorem y5x:∀ (t:Nat) (x:El_ t),(ca_ false t x).all zcq=true
 | 0,x=>rfl
 | 1,x=>rfl
 | 2,x=>rfl
 | 3,x=>rfl
 | 4,x=>rfl
 | 5,x=>rfl
 | 6,x=>rfl
 | 7,x=>rfl
 | 8,x=>rfl
 | 9,x=>rfl
 | 10,x=>rfl
 | 11,x=>rfl
 | 12,x=>rfl
 | 13,x=>rfl
 | _+14,x=>rfl
theorem y8q:∀ (m:Bool) (t:Nat) (x:El_ t),∀ a ∈ ca_ m t x,isZ a=false
 | m,0,x=>z2u rfl
 | m,1,x=>z2u rfl
 | m,2,x=>z2u rfl
 | m,3,x=>z2u rfl
 | m,4,x=>z2u rfl
 | m,5,x=>z2u rfl
 | m,6,x=>by cases m <;> exact z2u rfl
 | m,7,x=>by cases m <;> exact z2u rfl
 | m,8,x=>z2u rfl
 | m,9,x=>z2u rfl
 | m,10,x=>by cases m <;> exact z2u rfl
 | m,11,x=>by cases m <;> exact z2u rfl
 | m,12,x=>by cases m <;> exact z2u rfl
 | m,13,x=>by cases m <;> exact z2u rfl
 | _,_+14,x=>z2u rfl
abbrev Ty_:TT where
 El:=El_
 sz:=sz_
 ca:=ca_
 ks:=ks_
 ct:=ct_
 un:=un_
 ct_ok:=y3t
 ct_in:=y3s
 un_ok:=y92
 im_ok:=y8k
 po:=po_
 ow_ok:=y8r
 nz_ok:=y8q
 fl_ok:=y5x
 pl:=pl_
 pl_ok:=y8s
 u8:=0
 bs:=fun l=>l
 bs_ok:=fun _=>rfl
 bs_sz:=rfl
abbrev Yaa:=Int×Int
abbrev Yab:=Int×(List Int)
abbrev Yac:=Int×(List Xa)×(List Xb)×(List Xc)×(List Xd)
abbrev Yad:=Int×(List Bool)
abbrev Yae:=(List Xa)×(List Xb)×(List Xc)×(List Xd)×(List Bool)×(List (List Int))×(List Int)×Xd
abbrev Yaf:=Int×(List (List Int))
abbrev Yag:=Int×Bool
abbrev Yah:=Xe×Xd
abbrev Yai:=Bool×Int×Int×Bool×Bool
abbrev Yaj:=Bool×(List Xa)×(List Xb)×(List Xc)×(List Xd)
abbrev Yak:=Int×Int×(List Xa)×(List Xb)×(List Xc)×(List Xd)×Int
abbrev Yal:=Int×Int×Int
abbrev Yam:=ByteArray×Bool
abbrev Yan:=Int×Int×Int×Int
abbrev Yao:=(List Xa)×(List Xb)×(List Xc)×(List Xd)
abbrev Yap:=Bool×(List Xa)×(List Xb)×(List Xc)×(List Xd)×(List Bool)×(List (List Int))×(List Int)
abbrev Yaq:=Bool×Bool×Bool×Int×Int×Bool×Bool×Bool×Int×Int×Bool×Bool
abbrev Yar:=(List Xb)×(List Xa)×(List Xb)×(List Xc)×(List Xd)
abbrev Yas:=(List Xc)×(List Xa)×(List Xb)×(List Xc)×(List Xd)
abbrev Yat:=(List Int)×Int
abbrev Yau:=Int×(List Xh)
abbrev Yav:=Xi×(List (List Int))×(List (List Int))
abbrev Yaw:=Int×(List Xa)×(List Xb)×(List Xc)×(List Xd)×(List Bool)×(List (List Int))×(List Int)×Int×Int×Int×Int
abbrev Yax:=Int×(List Xa)×(List Xb)×(List Xc)×(List Xd)×(List Bool)×(List (List Int))×(List Int)
abbrev Yay:=ByteArray×Int×Int
abbrev Yaz:=Xe×Xd×(List Bool)×(List Xg)
abbrev Yba:=Int×(List Bool)×(List Xg)
abbrev Ybb:=Int×Int×Int×Int×Int
abbrev Ybc:=(List Xd)×Int×(List Xa)×(List Xb)×(List Xc)
abbrev Ybd:=Xk×Xk
abbrev Ybe:=Xi×Int
abbrev Ybf:=(List Xa)×ByteArray
abbrev Ybg:=Bool×Int×Int
abbrev Ybh:=Bool×(List Int)
abbrev Ybi:=Int×(List Xa)×(List Xb)×(List Xc)×(List Xd)×(List Xh)
abbrev Ybj:=Xj×Xd
abbrev Ybk:=Xe×Xe×(List Xf)×Int
abbrev Ybl:=Bool×(List Xa)×(List Xb)×(List Xc)×(List Xd)×(List Xh)×(List Xa)×(List Xb)×(List Xc)×(List Xd)×(List Xh)
abbrev Ybm:=Int×(List Xa)×(List Xb)×(List Xc)×(List Xd)×(List Xh)×(List Xa)×(List Xb)×(List Xc)×(List Xd)×(List Xh)
abbrev Ybn:=Bool×(List Xa)×(List Xb)×(List Xc)×(List Xd)×(List Bool)×(List (List Int))×(List Int)×Int×Int
abbrev Ybo:=Bool×Bool×Int×Int×Bool×Bool×Bool×Int×Int×Bool×Bool
abbrev Ybp:=Int×Int×(List Xa)×(List Xb)×(List Xc)×(List Xd)×(List Xh)×(List Xh)×(List (List Int))×(List (List Int))×(List (List Int))×Int
abbrev Ybq:=Bool×Int×Int×Int×Int×Int
abbrev Ybr:=Bool×Int
abbrev Ybs:=Bool×Int×Int×Int×Int×Int×Int×Int
abbrev Ybt:=Int×Bool×(List Xa)×(List Xb)×(List Xc)×(List Xd)×Int×Int×Int×Int×Int×Int×Int×Int
abbrev Ybu:=ByteArray×Bool×Int×Int
abbrev Ybv:=Bool×Bool
abbrev Ybw:=(List (List Int))×(List (List Int))
abbrev Ybx:=ByteArray×Int
abbrev Yby:=(List Xa)×(List Xb)×(List Xc)×(List Xd)×(List Bool)×(List (List Int))×(List Int)×Int
abbrev Ybz:=Xa×(List Int)×Int
abbrev Yca:=Xb×(List Xa)×(List Xb)×(List Xc)×(List Xd)
abbrev Ycb:=Xc×(List Xa)×(List Xb)×(List Xc)×(List Xd)
abbrev Ycc:=Xb×Int×Xb
abbrev Ycd:=(List Xa)×(List Xb)×(List Xc)×(List Xd)×(List Bool)×(List (List Int))×(List Int)
abbrev Yce:=Int×(List Xa)×(List Xb)×(List Xc)×(List Xd)×Int×Int×Int×Int×Int×Int×Int×Int
abbrev Ycf:=Xb×(List Xa)
abbrev Ycg:=Xc×(List Xa)
abbrev Ych:=Xe×Int×Int×Xb
abbrev Yci:=Xe×Int×Int
abbrev Ycj:=(List Xa)×(List (List Int))
abbrev Yck:=Bool×Bool×Int×Int×Bool×Bool
abbrev Ycl:=Bool×Int×Bool×Int×Int×Bool×Bool×Bool×Int×Int×Bool×Bool
abbrev Ycm:=(List (List Int))×Int×(List Xa)×(List Xb)×(List Xc)×(List Xd)×(List Xh)
abbrev Ycn:=Xe×(List Xf)
abbrev Yco:=Bool×(List Xa)×(List Xb)×(List Xc)×(List Xd)×(List Bool)×(List (List Int))×(List Int)×Int×Int×Int×Int×Int×Int×Int
abbrev Ycp:=(List (List Int))×(List Int)
abbrev Ycq:=Bool×(List (List Int))×(List Int)
abbrev Ycr:=Int×Bool×Bool×Int×Int×Int×Int×Int×Int×Int
abbrev Ycs:=(List Xa)×(List Xb)×(List Xc)×(List Xd)×Int×Int×Int×Int×Int×Int×Int×Int
abbrev Yct:=Int×Int×Bool×Bool
abbrev Ycu:=Bool×Int×Int×Bool×Bool×Bool×Int×Int×Bool×Bool
abbrev Ycv:=(List Xa)×(List Xb)×(List Xc)×(List Xd)×(List Xh)×(List Xh)×(List (List Int))×(List (List Int))×(List (List Int))×Int
abbrev Ycw:=Bool×Int×Int×Int×Int×Int×Int×Int×Int
abbrev Ycx:=(List (List Int))×Int×Int×(List Xa)×(List Xb)×(List Xc)×(List Xd)×(List Xh)
abbrev Ycy:=Int×Int×(List Int)
abbrev Ycz:=Int×(List Xa)×(List Xb)×(List Xc)
noncomputable def y5y (n:Nat):Cx P_ Ty_:=⟨[],[(9,false,1),(15,false,2),(21,false,3),(27,false,4)],[],[]⟩
abbrev y5z:List (List Nat):=[[1,2],[1,2,3],[1,2,3],[1,2,3],[1,2,3],[2,3],[2]]
noncomputable def zsn (n:Nat) (x:Xe):Pt P_ Ty_ [] (Yao):=.need (x.Sign_.length * 32≤140737488355328) (.need (x.Regs_.length * 16≤140737488355328) (.need (x.Slots_.length * 32≤140737488355328) (.need (x.List_.length * 56≤140737488355328) (.leaf (x.Sign_,x.Regs_,x.Slots_,x.List_)))))
noncomputable def k101 (n:Nat):Con P_ Ty_:=zd (X:=Xe) (R:=Yao) (pro:=[]) (y5y n) 8 y5z (fun x=>.no) [.ag [.im 1,.im 2,.im 3,.im 4]] [] [100000] ⟨[(2,.ref 100000)],[(100000,.any)]⟩ [100000] true (fun x=>[.ag [.im 1 x.Sign_,.im 2 x.Regs_,.im 3 x.Slots_,.im 4 x.List_]]) (fun x=>[]) (fun y=>([(2,.pt 100000 [] 0 0)],[(100000,.lit 4 [[.ow false 1 y.1,.ow false 2 y.2.1,.ow false 3 y.2.2.1,.ow false 4 y.2.2.2]])])) (fun y=>.ag [.sw 100000 [(0,0)],.sw 100000 [(0,1)],.sw 100000 [(0,2)],.sw 100000 [(0,3)]]) (fun y=>[(100000,.lit 4 [[.ow false 1 y.1,.ow false 2 y.2.1,.ow false 3 y.2.2.1,.ow false 4 y.2.2.2]])]) (zsn n)
set_option maxHeartbeats 1000000 in
theorem y96 (s:ByteArray) (c:Int) (w:World) :
  Calls Go.Proofs.Tryz.prog 110 #[.string s,.int .u8 c] w fun e w'=>e = .returned (.int .i64 (Lib.indexByte s.data.toList c.toNat.toUInt8))∧w'=w:=by
 go_enter Go.Proofs.Tryz.func110,Go.Proofs.Tryz.ntmps110
 go_wp2
 rw [run_callFunc_extern Go.Proofs.Tryz.func120 (by kernel_rfl) (by kernel_rfl) (by kernel_rfl) (e:=Extern.BytealgIndexByte.indexByte) (by kernel_rfl),Lib.run_indexByteString]
 simp only [Result.andThen]
 rw [Oper.upon_value]
 go_wp2
 go_ret
 exact ⟨rfl,rfl⟩
noncomputable def g71 (_:Nat) (a0:ByteArray) (a1:Int):Option Int:=some (Lib.indexByte a0.data.toList a1.toNat.toUInt8)
theorem zw8 (n:Nat) (a0:ByteArray) (a1:Int) (r:Int) (hg:g71 n a0 a1=some r):z15 Go.Proofs.Tryz.prog 110 [St a0,.sc (.int .u8 a1)] [] (I64 r) []:=by
 obtain rfl:=Option.some.inj hg
 exact z15.quiet (vs:=[.string a0,.int .u8 a1]) fun w=>y96 a0 a1 w
noncomputable def k71 (n:Nat):Con Go.Proofs.Tryz.prog Ty_ where
 f:=110
 X:=ByteArray×Int
 Y:=Int
 A:=[.any,.any]
 H:=[]
 N:=[]
 encA:=fun x=>[.sc (.string x.1),.sc (.int .u8 x.2)]
 encH:=fun _=>[]
 G:=fun x=>g71 n x.1 x.2
 encR:=fun y=>.sc (.int .i64 y)
 encO:=fun _=>[]
 strong:=true
 ok:=fun x y h=>⟨fun _=>zw8 n x.1 x.2 y h,z15.toG (zw8 n x.1 x.2 y h)⟩
noncomputable def yax (n:Nat):Cx P_ Ty_:=⟨[k71 n],[],[],[]⟩
abbrev yay:List (List Nat):=[[0,1],[4]]
noncomputable def y1d (n:Nat) (x:Ybx):Pt P_ Ty_ [] Int:=.call (k71 n) (x.1,x.2) fun (y1:Int)=>.leaf y1
noncomputable def k68 (n:Nat):Con P_ Ty_:=zd (X:=Ybx) (R:=Int) (pro:=[]) (yax n) 99 yay (fun x=>.no) [.any,.any] [] [] ⟨[(4,.any)],[]⟩ [] true (fun x=>[.sc (.string x.1),.sc (.int .u8 x.2)]) (fun x=>[]) (fun y=>([(4,I_ y)],[])) (fun y=>I_ y) (fun y=>[]) (y1d n)
noncomputable def y0t (n:Nat):Cx P_ Ty_:=⟨[k68 n],[],[],[]⟩
abbrev y0u:List (List Nat):=[[0],[0,11],[2],[13,14,15],[13,14,15,16],[4,13,14,15],[4,13,14,15,19],[4,13,14,15,19],[4,13,14,15,19],[13,14,15,19],[2],[13,14,15],[2]]
noncomputable def zvw (x:ByteArray) (p:Bool):EH Ty_:=([(0,.sc (.string x)),(11,B_ p)],[])
noncomputable def zvx (x:ByteArray) (v1:Unit) (q1:Int) (p:Yag):EH Ty_:=([(4,.sc (.int .u8 p.1)),(13,.im 0 (bytesOf x)),(14,I_ ((bytesOf x).length:Int)),(15,I_ q1),(19,B_ p.2)],[])
noncomputable def zvy (x:ByteArray) (v1:Unit) (q1:Int) (p:Yag):EH Ty_:=([(4,.sc (.int .u8 p.1)),(13,.im 0 (bytesOf x)),(14,I_ ((bytesOf x).length:Int)),(15,I_ q1),(19,B_ p.2)],[])
noncomputable def zvz (x:ByteArray) (v1:Unit) (q1:Int) (p:Yag):EH Ty_:=([(4,.sc (.int .u8 p.1)),(13,.im 0 (bytesOf x)),(14,I_ ((bytesOf x).length:Int)),(15,I_ q1),(19,B_ p.2)],[])
noncomputable def zw0 (x:ByteArray) (v1:Unit) (q1:Int) (p:Bool):EH Ty_:=([(13,.im 0 (bytesOf x)),(14,I_ ((bytesOf x).length:Int)),(15,I_ q1),(19,B_ p)],[])
noncomputable def zw1 (n:Nat) (x:ByteArray) (v1:Unit) (q1:Int):Pt P_ Ty_ [] (Bo Int Int Unit):=.ite (decide (q1<((bytesOf x).length:Int))) (.bnd (idx (bytesOf x) q1) fun y1=>.join (S:=Bool) (zw0 x v1 q1) (.join (S:=Yag) (zvx x v1 q1) (.ite (decide (y1≥(65:Int))) (.leaf (.inl (y1,(decide (y1≤(90:Int)))))) (.leaf (.inl (y1,false)))) fun s2=>.ite s2.2 (.leaf (.inl true)) (.join (S:=Yag) (zvy x v1 q1) (.ite (decide (s2.1≥(97:Int))) (.leaf (.inl (s2.1,(decide (s2.1≤(122:Int)))))) (.leaf (.inl (s2.1,false)))) fun s3=>.ite s3.2 (.leaf (.inl true)) (.join (S:=Yag) (zvz x v1 q1) (.ite (decide (s3.1≥(48:Int))) (.leaf (.inl (s3.1,(decide (s3.1≤(57:Int)))))) (.leaf (.inl (s3.1,false)))) fun s4=>.ite s4.2 (.leaf (.inl true)) (.call (k68 n) ((⟨#[95,46,47,45]⟩:ByteArray),s4.1) fun (y2:Int)=>.leaf (.inl (decide (y2≥(0:Int)))))))) fun s5=>.ite s5 (.leaf (.go (IntKind.i64.wrap (q1+(1:Int))))) (.leaf (.ret ()))) (.leaf (.out q1))
noncomputable def zvv (n:Nat) (x:ByteArray) (v1:Unit):LCon P_ Ty_ []:=lcon (X:=Int) (Y:=Int) (Z:=Unit) (y0t n) (subC [1,1,0,1,0,0] (fnC P_ 82 y0u)) (fun q1=>.two .no (.two .no (.two (.two (.two .no (.two (.join Bool (zw0 x v1 q1) ⟨[(13,.im 0),(14,.any),(15,.any),(19,.any)],[]⟩ (.join (Yag) (zvx x v1 q1) ⟨[(4,.any),(13,.im 0),(14,.any),(15,.any),(19,.any)],[]⟩ .no (.two .no (.join (Yag) (zvy x v1 q1) ⟨[(4,.any),(13,.im 0),(14,.any),(15,.any),(19,.any)],[]⟩ .no (.two .no (.join (Yag) (zvz x v1 q1) ⟨[(4,.any),(13,.im 0),(14,.any),(15,.any),(19,.any)],[]⟩ .no .no))))) .no) .no)) .no) .no))) 0 true ⟨[(13,.im 0),(14,.any),(15,.any)],[]⟩ ⟨[(13,.im 0),(14,.any),(15,.any),(16,.any)],[]⟩ ⟨[(2,.any)],[]⟩ (fun q1=>([(13,.im 0 (bytesOf x)),(14,I_ ((bytesOf x).length:Int)),(15,I_ q1)],[])) (fun p=>([(13,.im 0 (bytesOf x)),(14,I_ ((bytesOf x).length:Int)),(15,I_ p),(16,B_ false)],[])) (fun p=>([(2,B_ false)],[])) n (zw1 n x v1)
noncomputable def y0v (n:Nat) (x:ByteArray):Pt P_ Ty_ [] Bool:=.join (S:=Bool) (zvw x) (.ite (x==(⟨#[]⟩:ByteArray)) (.leaf (.inl true)) (.leaf (.inl (decide ((x.size:Int) > (64:Int)))))) fun s1=>.ite s1 (.leaf false) (.loopR (V:=Unit) (zvv n x) () (0:Int) (fun (v1:Unit) (y3:Int)=>.leaf true) fun (v1:Unit) (z1:Unit)=>.leaf false)
noncomputable def k61 (n:Nat):Con P_ Ty_:=zd (X:=ByteArray) (R:=Bool) (pro:=[]) (y0t n) 82 y0u (fun x=>.two .no (.two (.join Bool (zvw x) ⟨[(0,.any),(11,.any)],[]⟩ .no .no) (.two (.two .no (.two (.loop Unit (zvv n x) true ⟨[(13,.im 0),(14,.any),(15,.any)],[]⟩) .no)) .no))) [.any] [] [] ⟨[(2,.any)],[]⟩ [] true (fun x=>[.sc (.string x)]) (fun x=>[]) (fun y=>([(2,B_ y)],[])) (fun y=>B_ y) (fun y=>[]) (y0v n)
noncomputable def ya7 (n:Nat):Cx P_ Ty_:=⟨[k61 n],[],[],[]⟩
abbrev ya8:List (List Nat):=[[1],[2]]
noncomputable def y06 (n:Nat) (x:Xa):Pt P_ Ty_ [] Bool:=.call (k61 n) x.Name_ fun (y1:Bool)=>.ite y1 (.ite (x.Kind_==1) (.ite (decide (x.Len_≥(1:Int))) (.leaf (decide (x.Len_≤(4096:Int)))) (.leaf false)) (.ite (x.Kind_==2) (.ite (decide (x.Len_≥(1:Int))) (.leaf (decide (x.Len_≤(4096:Int)))) (.leaf false)) (.leaf false))) (.leaf false)
noncomputable def k48 (n:Nat):Con P_ Ty_:=zd (X:=Xa) (R:=Bool) (pro:=[]) (ya7 n) 60 ya8 (fun x=>.no) [.ag [.any,.any,.any]] [] [] ⟨[(2,.any)],[]⟩ [] true (fun x=>[.ag [.sc (.string x.Name_),I_ x.Kind_,I_ x.Len_]]) (fun x=>[]) (fun y=>([(2,B_ y)],[])) (fun y=>B_ y) (fun y=>[]) (y06 n)
noncomputable def yan (n:Nat):Cx P_ Ty_:=⟨[k48 n],[],[],[]⟩
abbrev yao:List (List Nat):=[[1],[1,3],[2],[1,7],[2],[2]]
noncomputable def y0w (n:Nat) (x:Xa):Pt P_ Ty_ [] Int:=.call (k48 n) x fun (y1:Bool)=>.ite (!y1) (.leaf (0:Int)) (.ite (x.Kind_==2) (.leaf (IntKind.i64.wrap ((2:Int) * x.Len_))) (.leaf x.Len_))
noncomputable def k62 (n:Nat):Con P_ Ty_:=zd (X:=Xa) (R:=Int) (pro:=[]) (yan n) 83 yao (fun x=>.no) [.ag [.any,.any,.any]] [] [] ⟨[(2,.any)],[]⟩ [] true (fun x=>[.ag [.sc (.string x.Name_),I_ x.Kind_,I_ x.Len_]]) (fun x=>[]) (fun y=>([(2,I_ y)],[])) (fun y=>I_ y) (fun y=>[]) (y0w n)
noncomputable def y07 (n:Nat):Cx P_ Ty_:=⟨[k62 n],[],[],[]⟩
abbrev y08:List (List Nat):=[[0],[0,3],[3,6,7,8],[3,6,7,8,9],[3,5,6,7,8],[3,6,7,8],[3,6,7,8],[2]]
noncomputable def zvc (n:Nat) (x:(List Xa)) (v1:Unit) (q1:Yaa):Pt P_ Ty_ [] (Bo (Yaa) (Yaa) Empty):=.ite (decide (q1.2<(x.length:Int))) (.bnd (idx x q1.2) fun y1=>.call (k62 n) y1 fun (y2:Int)=>.leaf (.go ((IntKind.i64.wrap (q1.1+y2)),(IntKind.i64.wrap (q1.2+(1:Int)))))) (.leaf (.out (q1.1,q1.2)))
noncomputable def zvb (n:Nat) (x:(List Xa)) (v1:Unit):LCon P_ Ty_ []:=lcon (X:=Yaa) (Y:=Yaa) (Z:=Empty) (y07 n) (subC [1,1,0,1,0,0] (fnC P_ 61 y08)) (fun q1=>.no) 0 false ⟨[(3,.any),(6,.im 1),(7,.any),(8,.any)],[]⟩ ⟨[(3,.any),(6,.im 1),(7,.any),(8,.any),(9,.any)],[]⟩ ⟨[],[]⟩ (fun q1=>([(3,I_ q1.1),(6,.im 1 x),(7,I_ (x.length:Int)),(8,I_ q1.2)],[])) (fun p=>([(3,I_ p.1),(6,.im 1 x),(7,I_ (x.length:Int)),(8,I_ p.2),(9,B_ false)],[])) (fun p=>nomatch p) n (zvc n x v1)
noncomputable def y09 (n:Nat) (x:(List Xa)):Pt P_ Ty_ [] Int:=.loop (V:=Unit) (zvb n x) () ((0:Int),(0:Int)) fun (v1:Unit) (y3:Yaa)=>.leaf y3.1
noncomputable def k49 (n:Nat):Con P_ Ty_:=zd (X:=(List Xa)) (R:=Int) (pro:=[]) (y07 n) 61 y08 (fun x=>.two .no (.two .no (.two (.two .no (.two (.loop Unit (zvb n x) false ⟨[(3,.any),(6,.im 1),(7,.any),(8,.any)],[]⟩) .no)) .no))) [.im 1] [] [] ⟨[(2,.any)],[]⟩ [] true (fun x=>[.im 1 x]) (fun x=>[]) (fun y=>([(2,I_ y)],[])) (fun y=>I_ y) (fun y=>[]) (y09 n)
noncomputable def zuj (n:Nat) (a0:List Xa):Option Int:=(k49 n).G a0
noncomputable def zfv (n:Nat) (a0:Xa):Option Bool:=(k48 n).G a0
theorem y8h (n:Nat) (p:Xa) (v:Bool) (hv:(k48 n).G p=some v):z15 Go.Proofs.Tryz.prog 60 [.ag [St p.Name_,I64 p.Kind_,I64 p.Len_]] [] (Bl v) []:=((k48 n).ok p v hv).1 rfl
theorem y8i (n:Nat) (p:List Xa) (v:Int) (hv:(k49 n).G p=some v):z15 Go.Proofs.Tryz.prog 61 [.im 3 (p.map (c1 false))] [] (I64 v) []:=((k49 n).ok p v hv).1 rfl
/-- sign.Check over the parameters: none: one may not be; else the names,each once. -/
noncomputable def z91 (n:Nat):List Xa→List ByteArray→Option (Option (List ByteArray))
 | [],ks=>some (some ks)
 | p::l,ks=>(zfv n p).bind fun v=>bif v then z91 n l (bif has p.Name_ ks then ks else ks++[p.Name_]) else some none
noncomputable def z7k (n:Nat) (a0:List Xa):Option (List ByteArray)→Option Int
 | none=>some 100
 | some ks=>bif decide ((ks.length:Int)<((a0.map (c1 false)).length:Int)) then some 101 else (zuj n a0).bind fun v=>bif decide (v > 65536) then some 102 else some 0
noncomputable def g28 (n:Nat) (a0:List Xa):Option Int:=bif decide (((a0.map (c1 false)).length:Int) > 64) then some 2 else (z91 n a0 []).bind (z7k n a0)

namespace F28
noncomputable abbrev P:Program:=Go.Proofs.Tryz.prog
noncomputable def b:Code:=(Go.Proofs.Tryz.f35.body).getD .skip
theorem body:Go.Proofs.Tryz.f35.body=some b:=by kernel_rfl
theorem e1:b = .seq (lf b) (.seq (lf (rt b)) (.seq (.region (rid (lf (rt (rt b)))) (rops (lf (rt (rt b)))) false) (.seq (lf (rt (rt (rt b)))) (rt (rt (rt (rt b))))))):=by kernel_rfl
noncomputable abbrev R3:Array Oper:=rops (lf (rt (rt b)))
noncomputable def z:Code:=lf (rt (rt (rt b)))
noncomputable def q:Code:=rt (rt (rt (rt b)))
noncomputable def l:Code:=lf (lf (rt z))
theorem e2:z = .seq (lf z) (.block 0 (.loop l)):=by kernel_rfl
theorem e3:l = .seq (lf l) (.seq (.cond (.tmp 13) .skip (.exit 0)) (.seq (.block 1 (.seq (lf (lf (lf (rt (rt l))))) (.seq (lf (rt (lf (lf (rt (rt l)))))) (.region (rid (rt (rt (lf (lf (rt (rt l))))))) (rops (rt (rt (lf (lf (rt (rt l))))))) false)))) (rt (rt (rt l))))):=by kernel_rfl
noncomputable abbrev R9:Array Oper:=rops (rt (rt (lf (lf (rt (rt l))))))
theorem e4:q = .seq (.block 2 (.seq (.region (rid (lf (lf (lf q)))) (rops (lf (lf (lf q)))) false) (rt (lf (lf q))))) (rt q):=by kernel_rfl
noncomputable abbrev R11:Array Oper:=rops (lf (lf (lf q)))
end F28
namespace F28
abbrev xs (a0:List Xa):Els:=a0.map (c1 false)
abbrev mp (b:Nat):AV:=.sc (.map (some b))
/-- The slots at the loop's head. -/
abbrev EL (a0:List Xa) (b:Nat) (i:Int):Env:=zw [(0,.im 3 (xs a0)),(3,mp b),(10,.im 3 (xs a0)),(11,I64 ((xs a0).length:Int)),(12,I64 i)]
abbrev EL' (a0:List Xa) (b:Nat) (i:Int):Env:=zw [(0,.im 3 (xs a0)),(3,mp b),(10,.im 3 (xs a0)),(11,I64 ((xs a0).length:Int)),(12,I64 i),(13,Bl (decide (i<((xs a0).length:Int))))]
theorem ut:P.underlying 111=some (.map 9 3):=by kernel_rfl
theorem uk:P.underlying 9=some .string:=by kernel_rfl
theorem uz (w:World):(zeroValue 3).run P w = .ok (.int .i64 0) w:=by kernel_rfl

theorem y99 {w0 w:World} {a:Act} {a0:List Xa} {bm:Nat} {ks:List ByteArray} {i:Int} {p:Xa} {Q:Exit→Act→World→Prop}
  (n:Now 35 w0 (some (bm,ks)) (zw [(0,.im 3 (xs a0)),(3,mp bm),(5,.pt 5 [] 0 0),(10,.im 3 (xs a0)),(11,I64 ((xs a0).length:Int)),(12,I64 i),(18,Bl false)]) [(5,⟨3,[[St p.Name_,I64 p.Kind_,I64 p.Len_]]⟩)] a w)
  (hK:∀ a' w',Now 35 w0 (some (bm,bif has p.Name_ ks then ks else ks++[p.Name_])) (EL a0 bm i) [] a' w'→Q .normal a' w') :
  (Code.region (rid (rt (rt (lf (lf (rt (rt l))))))) R9 false).wp P Q a w:=by
 refine wp_region ?_
 have hr:List.range R9.size=[0,1,2,3,4,5]:=by kernel_rfl
 rw [hr]
 refine n.rda (d:=19) (b:=.mov (.tmp 3)) (mp bm) (by kernel_rfl) (by kernel_rfl) fun a w n=>?_
 refine n.rda (d:=20) (b:=.fad 0 (.tmp 5)) (.pt 5 [] 0 0) (by kernel_rfl) (by kernel_rfl) fun a w n=>?_
 refine n.rda (d:=21) (b:=.load false 1 (.tmp 20)) (St p.Name_) (by kernel_rfl) (by kernel_rfl) fun a w n=>?_
 obtain ⟨o,ho,hg,hd,hop⟩:=zga (ops:=R9) (i:=3) (g:=none) (d:=some 22) (op:=.lookup 111 (.tmp 19) (.tmp 21) false) (by kernel_rfl)
 obtain ⟨c,hc⟩:=(n.km bm ks rfl).1.lookup (P:=P) ut uk (uz w) p.Name_
 have hm:a.eval (.tmp 19) = .map (some bm):=n.eval rfl
 have hk:a.eval (.tmp 21) = .string p.Name_:=n.eval rfl
 refine n.val (v:=.int .i64 c) ho hg hd (by decide) (by simp only [execOp,hop,hm,hk,Sem.run_bind,hc,Result.andThen]; rfl) fun a n=>?_
 refine n.rda (d:=23) (b:=.bin .add (.tmp 22) (.const (.int .i64 1))) (I64 (IntKind.i64.wrap (c+1))) (by kernel_rfl) (by kernel_rfl) fun a w n=>?_
 obtain ⟨o,ho,hg,hd,hop⟩:=zga (ops:=R9) (i:=5) (g:=none) (d:=none) (op:=.mapUpdate 111 (.tmp 19) (.tmp 21) (.tmp 23)) (by kernel_rfl)
 refine n.upd ho hg hd hop ut uk rfl rfl rfl fun a w n=>?_
 exact hK _ _ (n.gh (z9.norm (P:=P) (bm:=[]) (S:=[0,3,10,11,12]) (by kernel_rfl)))

theorem loop {n:Nat} {w0:World} {a0:List Xa} {bm:Nat} {r:Int} {Q:Exit→Act→World→Prop} (he:∀ ks a w,z7k n a0 (some ks)=some r→Now 35 w0 (some (bm,ks)) (EL' a0 bm a0.length) [] a w→Q (.exit 0) a w)
  (hr:∀ m e' h' a' w',z4y e' h' [.t 2]=some (I64 r)→Now 35 w0 m e' h' a' w'→Q .ret a' w'):∀ (rest pre:List Xa) (ks:List ByteArray) (a:Act) (w:World),a0=pre++rest→a0.length≤64→(z91 n rest ks).bind (z7k n a0)=some r →
  Now 35 w0 (some (bm,ks)) (EL a0 bm pre.length) [] a w→z2s P F28.l Q a w:=by
 intro rest
 induction rest with
 | nil =>
  intro pre ks a w hp hlen hg nw
  refine z2s.step (Eq.mpr (congrArg (fun X:Code=>X.wp P (Exit.then (z2s P F28.l Q) Q) a w) e3) ?_)
  focus
   refine wp_seq (nw.ex (c:=.reg [0,3,10,11,12,13] [⟨13,none,.rd (.bin .lss (.tmp 12) (.tmp 11))⟩]) (R:=fun o e h=>o = .normal∧e=EL' a0 bm pre.length∧h=[]) ⟨[[0,3,10,11,12,13]],[],by kernel_rfl⟩ (W.regG (RG.fin 1 [] _ [] (by kernel_rfl) ⟨rfl,rfl,rfl⟩)) ?_)
   rintro o e h a w ⟨rfl,rfl,rfl⟩ nw
   refine wp_seq (wp_cond (t:=false) ?_ (wp_exit ?_))
   ·rw [nw.eval (v:=.bool (decide ((pre.length:Int)<((xs a0).length:Int)))) rfl]
    simp [xs,hp]
   ·refine he ks a w ?_ ?_
    ·simpa [z91] using hg
    ·have:pre.length=a0.length:=by simp [hp]
     rw [← this]; exact nw
 | cons p rest ih =>
  intro pre ks a w hp hlen hg nw
  have hi:idx a0 (pre.length:Int)=some p:=by
   simp [idx,hp]
  have hl:pre.length<a0.length:=by simp [hp]
  refine z2s.step (Eq.mpr (congrArg (fun X:Code=>X.wp P (Exit.then (z2s P F28.l Q) Q) a w) e3) ?_)
  focus
   refine wp_seq (nw.ex (c:=.reg [0,3,10,11,12,13] [⟨13,none,.rd (.bin .lss (.tmp 12) (.tmp 11))⟩]) (R:=fun o e h=>o = .normal∧e=EL' a0 bm pre.length∧h=[]) ⟨[[0,3,10,11,12,13]],[],by kernel_rfl⟩ (W.regG (RG.fin 1 [] _ [] (by kernel_rfl) ⟨rfl,rfl,rfl⟩)) ?_)
   rintro o e h a w ⟨rfl,rfl,rfl⟩ nw
   refine wp_seq (wp_cond (t:=true) ?_ (wp_skip ?_))
   ·rw [nw.eval (v:=.bool (decide ((pre.length:Int)<((xs a0).length:Int)))) rfl]
    simp [xs,hp]
    omega
   show (Code.seq _ _).wp _ _ _ _
   refine wp_seq (wp_block (wp_seq (nw.ex (c:=.reg [0,3,5,10,11,12] [⟨14,none,.rd (.iad 3 (.tmp 10) (.tmp 12))⟩,⟨15,none,.rd (.load true 3 (.tmp 14))⟩,⟨5,none,.mk (.box 3 (.const (.agg #[(.string ⟨#[]⟩),(.int .i64 (0)),(.int .i64 (0))])))⟩,⟨35,none,.st 3 (.tmp 5) (.tmp 15)⟩])
    (R:=fun o e h=>o = .normal∧e=zw [(0,.im 3 (xs a0)),(3,mp bm),(5,.pt 5 [] 0 0),(10,.im 3 (xs a0)),(11,I64 ((xs a0).length:Int)),(12,I64 pre.length)]∧h=[(5,⟨3,[[St p.Name_,I64 p.Kind_,I64 p.Len_]]⟩)])
    ⟨[[0,3,5,10,11,12]],[],by kernel_rfl⟩ (W.regG ?_) ?_)))
   ·refine RG.iadIm (R:=Xa) (r:=p) (E:=some) (c:=(c1 false)) (xs:=a0) (i:=pre.length) (k:=.i64) (by kernel_rfl) (by kernel_rfl) (by kernel_rfl) (by rw [hi]; rfl) (fun y2 _ hg=>?_)
    cases hg
    exact RG.fin 3 [(5,5)] _ _ (by kernel_rfl) ⟨rfl,rfl,rfl⟩
   rintro o e h a w ⟨rfl,rfl,rfl⟩ nw
   obtain ⟨v,hv,hg⟩:=Option.bind_eq_some_iff.1 (show ((zfv n p).bind fun v=>(bif v then z91 n rest (bif has p.Name_ ks then ks else ks++[p.Name_]) else some none).bind (z7k n a0))=some r by rw [← Option.bind_assoc]; exact hg)
   show (Code.seq _ _).wp _ _ _ _
   refine wp_seq (nw.ex (c:=.seq (.reg [0,3,5,10,11,12,18] [⟨16,none,.rd (.load true 3 (.tmp 5))⟩,⟨17,none,.call 60 [(.tmp 16)]⟩,⟨18,none,.rd (.un1 .not (.tmp 17))⟩]) (.cond (.tmp 18) (.seq (.reg [2] [⟨2,none,.rd (.mov (.const (.int .i64 100)))⟩]) .ret) .skip))
    (R:=fun o e h=>(o = .ret∧v=false∧e=zw [(2,I64 100)])∨(o = .normal∧v=true∧e=zw [(0,.im 3 (xs a0)),(3,mp bm),(5,.pt 5 [] 0 0),(10,.im 3 (xs a0)),(11,I64 ((xs a0).length:Int)),(12,I64 pre.length),(18,Bl false)]∧h=[(5,⟨3,[[St p.Name_,I64 p.Kind_,I64 p.Len_]]⟩)]))
    ⟨[[0,3,5,10,11,12,18],[2]],[],by kernel_rfl⟩ ?_ ?_)
   ·refine W.seq (W.regG ?_)
    refine RG.cut 1 [(5,5)] [0,3,5,10,11,12,16] (zw [(0,.im 3 (xs a0)),(3,mp bm),(5,.pt 5 [] 0 0),(10,.im 3 (xs a0)),(11,I64 ((xs a0).length:Int)),(12,I64 pre.length),(16,.ag [St p.Name_,I64 p.Kind_,I64 p.Len_])]) [(5,⟨3,[[St p.Name_,I64 p.Kind_,I64 p.Len_]]⟩)] (by kernel_rfl) ?_
    refine RG.callP (R:=Bool) (r:=v) (E:=some) [] [(5,5)] [0,3,5,10,11,12,17] false [.ag [St p.Name_,I64 p.Kind_,I64 p.Len_]] (fun v2=>Bl v2) (fun v2=>[]) (fun v2=>zw [(0,.im 3 (xs a0)),(3,mp bm),(5,.pt 5 [] 0 0),(10,.im 3 (xs a0)),(11,I64 ((xs a0).length:Int)),(12,I64 pre.length),(17,Bl v2)]) (fun v2=>[(5,⟨3,[[St p.Name_,I64 p.Kind_,I64 p.Len_]]⟩)]) (by kernel_rfl) (gv:=zfv n p) (by rw [hv]; rfl) (by kernel_rfl) (fun v2 hv=>z15.toG (y8h n p v2 hv)) (by kernel_rfl) (fun v2=>by kernel_rfl) (fun h=>by cases h) (fun v2 hv' hg'=>?_)
    cases hg'
    refine RG.fin 1 [(5,5)] (zw [(0,.im 3 (xs a0)),(3,mp bm),(5,.pt 5 [] 0 0),(10,.im 3 (xs a0)),(11,I64 ((xs a0).length:Int)),(12,I64 pre.length),(18,Bl (!v))]) [(5,⟨3,[[St p.Name_,I64 p.Kind_,I64 p.Len_]]⟩)] (by kernel_rfl) ?_
    cases v with
    | true=>exact W.condF (by kernel_rfl) (W.skip (.inr ⟨rfl,rfl,rfl,rfl⟩))
    | false=>exact W.condT (by kernel_rfl) (W.seq (W.regG (RG.fin 1 [] (zw [(2,I64 100)]) [] (by kernel_rfl) (W.ret (.inl ⟨rfl,rfl,rfl⟩)))))
   rintro o e h a w (⟨rfl,rfl,rfl⟩ | ⟨rfl,rfl,rfl,rfl⟩) nw
   ·simp only [z7k,cond_false,Option.bind_some,Option.some.injEq] at hg
    subst hg
    exact hr _ _ _ _ _ rfl nw
   ·refine y99 nw fun a w nw=>?_
    refine nw.ex (c:=.reg [0,3,10,11,12] [⟨24,none,.rd (.bin .add (.tmp 12) (.const (.int .i64 1)))⟩,⟨12,none,.rd (.mov (.tmp 24))⟩]) (R:=fun o e h=>o = .normal∧e=EL a0 bm (IntKind.i64.wrap (pre.length+1))∧h=[]) ⟨[[0,3,10,11,12]],[],by kernel_rfl⟩ (W.regG (RG.fin 2 [] _ [] (by kernel_rfl) ⟨rfl,rfl,rfl⟩)) ?_
    rintro o e h a w ⟨rfl,rfl,rfl⟩ nw
    have hw:IntKind.i64.wrap ((pre.length:Int)+1)=((pre++[p]).length:Int):=by
     have:(pre.length:Int)<64:=by omega
     simp only [List.length_append,List.length_singleton]
     rw [zc1 (by omega) (by omega)]
     simp
    rw [hw] at nw
    exact ih (pre++[p]) _ a w (by simp [hp]) hlen hg nw

theorem tail {n:Nat} {w0 w:World} {a:Act} {a0:List Xa} {bm:Nat} {ks:List ByteArray} {r:Int} {Q:Exit→Act→World→Prop} (hg:z7k n a0 (some ks)=some r) (nw:Now 35 w0 (some (bm,ks)) (EL' a0 bm a0.length) [] a w)
  (hr:∀ m e' h' a' w',z4y e' h' [.t 2]=some (I64 r)→Now 35 w0 m e' h' a' w'→Q .ret a' w'):q.wp P Q a w:=by
 rw [e4]
 refine wp_seq (wp_block (wp_seq (wp_region ?_)))
 have h11:List.range (rops (lf (lf (lf q)))).size=[0,1,2,3,4,5]:=by kernel_rfl
 rw [h11]
 refine nw.rda (d:=26) (b:=.mov (.tmp 3)) (mp bm) (by kernel_rfl) (by kernel_rfl) fun a w nw=>?_
 obtain ⟨o,ho,hgd,hd,hop⟩:=zga (ops:=R11) (i:=1) (g:=none) (d:=some 27) (op:=.call { callee:=.builtin .len,args:=#[.tmp 26],argTypes:=#[111] }) (by kernel_rfl)
 have hm:a.eval (.tmp 26) = .map (some bm):=nw.eval rfl
 have hc:=(nw.km bm ks rfl).1.len (P:=P) ut o.type
 refine nw.val (v:=.int .i64 ks.length) ho hgd hd (by decide) (by simp [execOp,hop,resolve,invoke,builtin,hm,hc,Result.andThen]) fun a nw=>?_
 refine nw.rda (d:=28) (b:=.mov (.tmp 0)) (.im 3 (xs a0)) (by kernel_rfl) (by kernel_rfl) fun a w nw=>?_
 refine nw.rda (d:=29) (b:=.len (.tmp 28)) (I64 ((xs a0).length:Int)) (by kernel_rfl) (by kernel_rfl) fun a w nw=>?_
 refine nw.rda (d:=30) (b:=.bin .lss (.tmp 27) (.tmp 29)) (Bl (decide ((ks.length:Int)<((xs a0).length:Int)))) (by kernel_rfl) (by kernel_rfl) fun a w nw=>?_
 refine nw.rda (d:=25) (b:=.mov (.tmp 30)) (Bl (decide ((ks.length:Int)<((xs a0).length:Int)))) (by kernel_rfl) (by kernel_rfl) fun a w nw=>?_
 have nw:=nw.gh (z9.norm (P:=P) (bm:=[]) (S:=[0,25]) (e1:=zw [(0,.im 3 (xs a0)),(25,Bl (decide ((ks.length:Int)<((xs a0).length:Int))))]) (h1:=[]) (by kernel_rfl))
 refine nw.ex (c:=.cond (.tmp 25) (.seq (.reg [2] [⟨2,none,.rd (.mov (.const (.int .i64 101)))⟩]) .ret)
   (.seq (.reg [31] [⟨32,none,.rd (.mov (.tmp 0))⟩,⟨33,none,.call 61 [(.tmp 32)]⟩,⟨34,none,.rd (.bin .gtr (.tmp 33) (.const (.int .i64 65536)))⟩,⟨31,none,.rd (.mov (.tmp 34))⟩]) (.cond (.tmp 31) (.seq (.reg [2] [⟨2,none,.rd (.mov (.const (.int .i64 102)))⟩]) .ret) .skip)))
  (R:=fun o e h=>(o = .ret∧e=zw [(2,I64 r)])∨(o = .normal∧r=0∧h=[]))
  ⟨[[2],[31],[2]],[],by kernel_rfl⟩ ?_ ?_
 ·unfold z7k at hg
  refine W.condB (by kernel_rfl) hg (fun hg=>?_) (fun hg=>?_)
  ·obtain rfl:=Option.some.inj hg
   exact W.seq (W.regG (RG.fin 1 [] (zw [(2,I64 101)]) [] (by kernel_rfl) (W.ret (.inl ⟨rfl,rfl⟩))))
  ·refine W.seq (W.regG ?_)
   refine RG.cut 1 [] [32] (zw [(32,.im 3 (xs a0))]) [] (by kernel_rfl) ?_
   refine RG.callP [] [] [33] false [.im 3 (xs a0)] (fun v2=>I64 v2) (fun v2=>[]) (fun v2=>zw [(33,I64 v2)]) (fun v2=>[]) (by kernel_rfl) hg (by kernel_rfl) (fun v2 hv=>z15.toG (y8i n a0 v2 hv)) (by kernel_rfl) (fun v2=>by kernel_rfl) (fun h=>by cases h) (fun v2 hv hg=>?_)
   refine RG.fin 2 [] (zw [(31,Bl (decide (v2 > 65536)))]) [] (by kernel_rfl) ?_
   refine W.condB (by kernel_rfl) hg (fun hg=>?_) (fun hg=>?_)
   ·obtain rfl:=Option.some.inj hg
    exact W.seq (W.regG (RG.fin 1 [] (zw [(2,I64 102)]) [] (by kernel_rfl) (W.ret (.inl ⟨rfl,rfl⟩))))
   ·obtain rfl:=Option.some.inj hg
    exact W.skip (.inr ⟨rfl,rfl,rfl⟩)
 rintro o e h a w (⟨rfl,rfl⟩ | ⟨rfl,rfl,rfl⟩) nw
 ·exact hr _ _ _ _ _ rfl nw
 ·refine nw.ex (c:=.seq (.reg [2] [⟨2,none,.rd (.mov (.const (.int .i64 0)))⟩]) .ret) (R:=fun o e h=>o = .ret∧e=zw [(2,I64 0)]) ⟨[[2]],[],by kernel_rfl⟩ (W.seq (W.regG (RG.fin 1 [] (zw [(2,I64 0)]) [] (by kernel_rfl) (W.ret ⟨rfl,rfl⟩)))) ?_
  rintro o e h a w ⟨rfl,rfl⟩ nw
  exact hr _ _ _ _ _ rfl nw
end F28
open F28 in
theorem zuk (n:Nat) (a0:List Xa) (r:Int) (hg:g28 n a0=some r):z15 Go.Proofs.Tryz.prog 35 [.im 3 (a0.map (c1 false))] [] (I64 r) []:=by
 refine Now.call (P:=P) (N:=35) (fn:=Go.Proofs.Tryz.f35) (ts:=[.t 2]) (by kernel_rfl) F28.body (by kernel_rfl) (by kernel_rfl) fun a w0 Q nw hr=>?_
 rw [e1]
 refine wp_seq (nw.ex (c:=.reg [0] [⟨2,none,.rd (.mov (.const (.int .i64 0)))⟩]) (R:=fun o e h=>o = .normal∧e=zw [(0,.im 3 (xs a0))]∧h=[]) ⟨[[0]],[],by kernel_rfl⟩ (W.regG (RG.fin 1 [] _ [] (by kernel_rfl) ⟨rfl,rfl,rfl⟩)) ?_)
 rintro o e h a w ⟨rfl,rfl,rfl⟩ nw
 show (Code.seq _ _).wp _ _ _ _
 unfold g28 at hg
 refine wp_seq (nw.ex (c:=.seq (.reg [0,8] [⟨6,none,.rd (.mov (.tmp 0))⟩,⟨7,none,.rd (.len (.tmp 6))⟩,⟨8,none,.rd (.bin .gtr (.tmp 7) (.const (.int .i64 64)))⟩]) (.cond (.tmp 8) (.seq (.reg [2] [⟨2,none,.rd (.mov (.const (.int .i64 2)))⟩]) .ret) .skip))
  (R:=fun o e h=>(o = .ret∧e=zw [(2,I64 r)])∨(o = .normal∧a0.length≤64∧(z91 n a0 []).bind (z7k n a0)=some r∧e=zw [(0,.im 3 (xs a0)),(8,Bl (decide (((xs a0).length:Int) > 64)))]∧h=[])) ⟨[[0,8],[2]],[],by kernel_rfl⟩ ?_ ?_)
 ·refine W.seq (W.regG (RG.fin 3 [] (zw [(0,.im 3 (xs a0)),(8,Bl (decide (((xs a0).length:Int) > 64)))]) [] (by kernel_rfl) ?_))
  cases hd:decide (((xs a0).length:Int) > 64) with
  | true =>
   rw [hd] at hg
   obtain rfl:=Option.some.inj hg
   exact W.condT (by kernel_rfl) (W.seq (W.regG (RG.fin 1 [] (zw [(2,I64 2)]) [] (by kernel_rfl) (W.ret (.inl ⟨rfl,rfl⟩)))))
  | false =>
   rw [hd] at hg
   refine W.condF (by kernel_rfl) (W.skip (.inr ⟨rfl,?_,hg,rfl,rfl⟩))
   simp [xs] at hd
   omega
 rintro o e h a w (⟨rfl,rfl⟩ | ⟨rfl,hlen,hg,rfl,rfl⟩) nw
 ·exact hr _ _ _ _ _ rfl nw
 show (Code.seq _ _).wp _ _ _ _
 refine wp_seq (wp_region ?_)
 have h3:List.range (rops (lf (rt (rt b)))).size=[0,1]:=by kernel_rfl
 rw [h3]
 obtain ⟨o,ho,hgd,hd,hop⟩:=zga (ops:=R3) (i:=0) (g:=none) (d:=some 9) (op:=.makeMap 111 none) (by kernel_rfl)
 refine nw.make ho hgd hd (by decide) hop fun bm a w nw=>?_
 refine nw.rda (d:=3) (b:=.mov (.tmp 9)) (mp bm) (by kernel_rfl) (by kernel_rfl) fun a w nw=>?_
 have nw:=nw.gh (z9.norm (P:=P) (bm:=[]) (S:=[0,3]) (e1:=zw [(0,.im 3 (xs a0)),(3,mp bm)]) (h1:=[]) (by kernel_rfl))
 show (Code.seq z q).wp _ _ _ _
 refine wp_seq ?_
 rw [e2]
 refine wp_seq (nw.ex (c:=.reg [0,3,10,11,12] [⟨10,none,.rd (.mov (.tmp 0))⟩,⟨11,none,.rd (.len (.tmp 10))⟩,⟨12,none,.rd (.mov (.const (.int .i64 0)))⟩]) (R:=fun o e h=>o = .normal∧e=EL a0 bm 0∧h=[]) ⟨[[0,3,10,11,12]],[],by kernel_rfl⟩ (W.regG (RG.fin 3 [] _ [] (by kernel_rfl) ⟨rfl,rfl,rfl⟩)) ?_)
 rintro o e h a w ⟨rfl,rfl,rfl⟩ nw
 refine wp_block (z2s.wp (loop (n:=n) (Q:=Exit.inBlock 0 (Exit.then (q.wp P Q) Q)) (w0:=w0) (a0:=a0) (bm:=bm) (r:=r) (fun ks a w hg nw=>?_) (fun m e h a w hv nw=>hr m e h a w hv nw) a0 [] [] a w rfl hlen hg nw))
 exact tail hg nw hr
noncomputable def k28 (n:Nat):Con Go.Proofs.Tryz.prog Ty_ where
 f:=35
 X:=(List Xa)
 Y:=Int
 A:=[.im 1]
 H:=[]
 N:=[]
 encA:=fun x=>[.im 1 x]
 encH:=fun _=>[]
 G:=fun x=>g28 n x
 encR:=fun y=>.sc (.int .i64 y)
 encO:=fun _=>[]
 strong:=true
 ok:=fun x y h=>⟨fun _=>zuk n x y h,z15.toG (zuk n x y h)⟩
noncomputable def y9t (n:Nat):Cx P_ Ty_:=⟨[],[],[],[]⟩
abbrev y9u:List (List Nat):=[[2,3],[2,3,6],[2,3,6,7],[2,3,6,7],[4],[2,3,13],[4],[4]]
noncomputable def zul (x:Xe×Xb) (p:Bool):EH Ty_:=([(2,.pt 2 [] 0 0),(3,.pt 3 [] 0 0),(6,I_ x.2.Kind_),(7,B_ p)],[(2,.lit 4 [[.im 1 x.1.Sign_,.im 2 x.1.Regs_,.im 3 x.1.Slots_,.im 4 x.1.List_]]),(3,.lit 2 [[I_ x.2.Kind_,I_ x.2.Param_]])])
noncomputable def zzm (n:Nat) (x:Xe×Xb):Pt P_ Ty_ [] Bool:=.join (S:=Bool) (zul x) (.ite (x.2.Kind_==1) (.leaf (.inl true)) (.leaf (.inl (x.2.Kind_==2)))) fun s1=>.ite s1 (.leaf (x.2.Param_==0)) (.ite (x.2.Kind_==3) (.ite (decide (x.2.Param_≥(0:Int))) (.leaf (decide (x.2.Param_<(x.1.Sign_.length:Int)))) (.leaf false)) (.leaf false))
noncomputable def k31 (n:Nat):Con P_ Ty_:=zd (X:=Xe×Xb) (R:=Bool) (pro:=[]) (y9t n) 38 y9u (fun x=>.two .no (.two (.two .no (.two (.join Bool (zul x) ⟨[(2,.ref 2),(3,.ref 3),(6,.any),(7,.any)],[(2,.any),(3,.any)]⟩ .no .no) .no)) .no)) [.ag [.im 1,.im 2,.im 3,.im 4],.ag [.any,.any]] [] [] ⟨[(4,.any)],[]⟩ [] true (fun x=>[.ag [.im 1 x.1.Sign_,.im 2 x.1.Regs_,.im 3 x.1.Slots_,.im 4 x.1.List_],.ag [I_ x.2.Kind_,I_ x.2.Param_]]) (fun x=>[]) (fun y=>([(4,B_ y)],[])) (fun y=>B_ y) (fun y=>[]) (zzm n)
noncomputable def y9r (n:Nat):Cx P_ Ty_:=⟨[k31 n],[],[],[]⟩
abbrev y9s:List (List Nat):=[[1,2],[3]]
noncomputable def zzl (n:Nat) (x:Yca):Pt P_ Ty_ [200000] (Yaj):=.call (k31 n) ((⟨x.2.1,x.2.2.1,x.2.2.2.1,x.2.2.2.2⟩:Xe),x.1) fun (y1:Bool)=>.leaf ((!y1),x.2.1,x.2.2.1,x.2.2.2.1,x.2.2.2.2)
noncomputable def k30 (n:Nat):Con P_ Ty_:=zd (X:=Yca) (R:=Yaj) (pro:=[200000]) (y9r n) 37 y9s (fun x=>.no) [.ag [.any,.any],.pt 200000] [(200000,[.im 1,.im 2,.im 3,.im 4])] [] ⟨[(3,.any)],[(200000,.any)]⟩ [200000] false (fun x=>[.ag [I_ x.1.Kind_,I_ x.1.Param_],.pt 200000 [] 0 0]) (fun x=>[(200000,.lit 4 [[.im 1 x.2.1,.im 2 x.2.2.1,.im 3 x.2.2.2.1,.im 4 x.2.2.2.2]])]) (fun y=>([(3,B_ y.1)],[(200000,.lit 4 [[.im 1 y.2.1,.im 2 y.2.2.1,.im 3 y.2.2.2.1,.im 4 y.2.2.2.2]])])) (fun y=>B_ y.1) (fun y=>[(200000,.lit 4 [[.im 1 y.2.1,.im 2 y.2.2.1,.im 3 y.2.2.2.1,.im 4 y.2.2.2.2]])]) (zzl n)
noncomputable def y0a (n:Nat):Cx P_ Ty_:=⟨[k30 n],[],[],[]⟩
abbrev y0b:List (List Nat):=[[0,1],[0,1,7,8],[0,1,7,8,9],[0,1,5,7,8],[0,1,5,7,8,16],[4],[0,1,7,8],[4]]
noncomputable def zve (n:Nat) (x:Yar) (v1:Unit) (q1:Yac):Pt P_ Ty_ [200000] (Bo (Yac) (Yac) (Yac)):=.ite (decide (q1.1<(x.1.length:Int))) (.bnd (idx x.1 q1.1) fun y1=>.call (k30 n) (y1,q1.2.1,q1.2.2.1,q1.2.2.2.1,q1.2.2.2.2) fun (y2:Yaj)=>.ite y2.1 (.leaf (.ret (q1.1,y2.2.1,y2.2.2.1,y2.2.2.2.1,y2.2.2.2.2))) (.leaf (.go ((IntKind.i64.wrap (q1.1+(1:Int))),y2.2.1,y2.2.2.1,y2.2.2.2.1,y2.2.2.2.2)))) (.leaf (.out (q1.1,q1.2.1,q1.2.2.1,q1.2.2.2.1,q1.2.2.2.2)))
noncomputable def zvd (n:Nat) (x:Yar) (v1:Unit):LCon P_ Ty_ [200000]:=lcon (X:=Yac) (Y:=Yac) (Z:=Yac) (y0a n) (subC [1,0,1,0,0] (fnC P_ 62 y0b)) (fun q1=>.no) 0 true ⟨[(0,.im 2),(1,.fn [.ref 200000]),(7,.any),(8,.any)],[(200000,.any)]⟩ ⟨[(0,.im 2),(1,.fn [.ref 200000]),(7,.any),(8,.any),(9,.any)],[(200000,.any)]⟩ ⟨[(4,.any)],[(200000,.any)]⟩ (fun q1=>([(0,.im 2 x.1),(1,.fn 37 [.pt 200000 [] 0 0]),(7,I_ (x.1.length:Int)),(8,I_ q1.1)],[(200000,.lit 4 [[.im 1 q1.2.1,.im 2 q1.2.2.1,.im 3 q1.2.2.2.1,.im 4 q1.2.2.2.2]])])) (fun p=>([(0,.im 2 x.1),(1,.fn 37 [.pt 200000 [] 0 0]),(7,I_ (x.1.length:Int)),(8,I_ p.1),(9,B_ false)],[(200000,.lit 4 [[.im 1 p.2.1,.im 2 p.2.2.1,.im 3 p.2.2.2.1,.im 4 p.2.2.2.2]])])) (fun p=>([(4,I_ p.1)],[(200000,.lit 4 [[.im 1 p.2.1,.im 2 p.2.2.1,.im 3 p.2.2.2.1,.im 4 p.2.2.2.2]])])) n (zve n x v1)
noncomputable def y0c (n:Nat) (x:Yar):Pt P_ Ty_ [200000] (Yac):=.loopR (V:=Unit) (zvd n x) () ((0:Int),x.2.1,x.2.2.1,x.2.2.2.1,x.2.2.2.2) (fun (v1:Unit) (y3:Yac)=>.leaf ((-1:Int),y3.2.1,y3.2.2.1,y3.2.2.2.1,y3.2.2.2.2)) fun (v1:Unit) (z1:Yac)=>.leaf (z1.1,z1.2.1,z1.2.2.1,z1.2.2.2.1,z1.2.2.2.2)
noncomputable def k50 (n:Nat):Con P_ Ty_:=zd (X:=Yar) (R:=Yac) (pro:=[200000]) (y0a n) 62 y0b (fun x=>.two .no (.two (.two .no (.two (.loop Unit (zvd n x) true ⟨[(0,.im 2),(1,.fn [.ref 200000]),(7,.any),(8,.any)],[(200000,.any)]⟩) .no)) .no)) [.im 2,.fn 37 [.pt 200000]] [(200000,[.im 1,.im 2,.im 3,.im 4])] [] ⟨[(4,.any)],[(200000,.any)]⟩ [200000] false (fun x=>[.im 2 x.1,.fn 37 [.pt 200000 [] 0 0]]) (fun x=>[(200000,.lit 4 [[.im 1 x.2.1,.im 2 x.2.2.1,.im 3 x.2.2.2.1,.im 4 x.2.2.2.2]])]) (fun y=>([(4,I_ y.1)],[(200000,.lit 4 [[.im 1 y.2.1,.im 2 y.2.2.1,.im 3 y.2.2.2.1,.im 4 y.2.2.2.2]])])) (fun y=>I_ y.1) (fun y=>[(200000,.lit 4 [[.im 1 y.2.1,.im 2 y.2.2.1,.im 3 y.2.2.2.1,.im 4 y.2.2.2.2]])]) (y0c n)
noncomputable def y9p (n:Nat):Cx P_ Ty_:=⟨[k50 n],[],[],[]⟩
abbrev y9q:List (List Nat):=[[0,1],[4]]
noncomputable def zzk (n:Nat) (x:Yar):Pt P_ Ty_ [200000] (Yaj):=.call (k50 n) (x.1,x.2.1,x.2.2.1,x.2.2.2.1,x.2.2.2.2) fun (y1:Yac)=>.leaf ((decide (y1.1≥(0:Int))),y1.2.1,y1.2.2.1,y1.2.2.2.1,y1.2.2.2.2)
noncomputable def k29 (n:Nat):Con P_ Ty_:=zd (X:=Yar) (R:=Yaj) (pro:=[200000]) (y9p n) 36 y9q (fun x=>.no) [.im 2,.fn 37 [.pt 200000]] [(200000,[.im 1,.im 2,.im 3,.im 4])] [] ⟨[(4,.any)],[(200000,.any)]⟩ [200000] false (fun x=>[.im 2 x.1,.fn 37 [.pt 200000 [] 0 0]]) (fun x=>[(200000,.lit 4 [[.im 1 x.2.1,.im 2 x.2.2.1,.im 3 x.2.2.2.1,.im 4 x.2.2.2.2]])]) (fun y=>([(4,B_ y.1)],[(200000,.lit 4 [[.im 1 y.2.1,.im 2 y.2.2.1,.im 3 y.2.2.2.1,.im 4 y.2.2.2.2]])])) (fun y=>B_ y.1) (fun y=>[(200000,.lit 4 [[.im 1 y.2.1,.im 2 y.2.2.1,.im 3 y.2.2.2.1,.im 4 y.2.2.2.2]])]) (zzk n)
noncomputable def ya9 (n:Nat):Cx P_ Ty_:=⟨[],[],[],[]⟩
abbrev yaa:List (List Nat):=[[0],[2]]
noncomputable def y0g (n:Nat) (x:Int):Pt P_ Ty_ [] Bool:=.ite (decide ((IntKind.u32.wrap (BitVec.ofInt IntKind.u32.bits x &&& ~~~BitVec.ofInt IntKind.u32.bits (2147483648:Int)).toNat)≤(2139095040:Int))) (.leaf true) (.leaf (x==2143289344))
noncomputable def k52 (n:Nat):Con P_ Ty_:=zd (X:=Int) (R:=Bool) (pro:=[]) (ya9 n) 64 yaa (fun x=>.no) [.any] [] [] ⟨[(2,.any)],[]⟩ [] true (fun x=>[.sc (.int .u32 x)]) (fun x=>[]) (fun y=>([(2,B_ y)],[])) (fun y=>B_ y) (fun y=>[]) (y0g n)
noncomputable def y9z (n:Nat):Cx P_ Ty_:=⟨[k31 n,k52 n],[],[],[]⟩
abbrev ya0:List (List Nat):=[[2,3],[3,9],[4],[3,13],[4],[4]]
noncomputable def zzp (n:Nat) (x:Xe×Xc):Pt P_ Ty_ [] Bool:=.call (k31 n) (x.1,x.2.Type_) fun (y1:Bool)=>.ite (!y1) (.leaf false) (.ite (x.2.Type_.Kind_==2) (.ite (x.2.Bits_==0) (.ite (decide (x.2.Int_≥(0:Int))) (.leaf (decide (x.2.Int_≤(2147483647:Int)))) (.leaf false)) (.leaf false)) (.ite (x.2.Int_==0) (.call (k52 n) x.2.Bits_ fun (y2:Bool)=>.leaf y2) (.leaf false)))
noncomputable def k34 (n:Nat):Con P_ Ty_:=zd (X:=Xe×Xc) (R:=Bool) (pro:=[]) (y9z n) 41 ya0 (fun x=>.no) [.ag [.im 1,.im 2,.im 3,.im 4],.ag [.any,.any,.any,.any,.any]] [] [] ⟨[(4,.any)],[]⟩ [] true (fun x=>[.ag [.im 1 x.1.Sign_,.im 2 x.1.Regs_,.im 3 x.1.Slots_,.im 4 x.1.List_],.ag [I_ x.2.Type_.Kind_,I_ x.2.Type_.Param_,B_ x.2.Keep_,.sc (.int .u32 x.2.Bits_),I_ x.2.Int_]]) (fun x=>[]) (fun y=>([(4,B_ y)],[])) (fun y=>B_ y) (fun y=>[]) (zzp n)
noncomputable def y9x (n:Nat):Cx P_ Ty_:=⟨[k34 n],[],[],[]⟩
abbrev y9y:List (List Nat):=[[1,2],[3]]
noncomputable def zzo (n:Nat) (x:Ycb):Pt P_ Ty_ [200000] (Yaj):=.call (k34 n) ((⟨x.2.1,x.2.2.1,x.2.2.2.1,x.2.2.2.2⟩:Xe),x.1) fun (y1:Bool)=>.leaf ((!y1),x.2.1,x.2.2.1,x.2.2.2.1,x.2.2.2.2)
noncomputable def k33 (n:Nat):Con P_ Ty_:=zd (X:=Ycb) (R:=Yaj) (pro:=[200000]) (y9x n) 40 y9y (fun x=>.no) [.ag [.any,.any,.any,.any,.any],.pt 200000] [(200000,[.im 1,.im 2,.im 3,.im 4])] [] ⟨[(3,.any)],[(200000,.any)]⟩ [200000] false (fun x=>[.ag [I_ x.1.Type_.Kind_,I_ x.1.Type_.Param_,B_ x.1.Keep_,.sc (.int .u32 x.1.Bits_),I_ x.1.Int_],.pt 200000 [] 0 0]) (fun x=>[(200000,.lit 4 [[.im 1 x.2.1,.im 2 x.2.2.1,.im 3 x.2.2.2.1,.im 4 x.2.2.2.2]])]) (fun y=>([(3,B_ y.1)],[(200000,.lit 4 [[.im 1 y.2.1,.im 2 y.2.2.1,.im 3 y.2.2.2.1,.im 4 y.2.2.2.2]])])) (fun y=>B_ y.1) (fun y=>[(200000,.lit 4 [[.im 1 y.2.1,.im 2 y.2.2.1,.im 3 y.2.2.2.1,.im 4 y.2.2.2.2]])]) (zzo n)
noncomputable def y0d (n:Nat):Cx P_ Ty_:=⟨[k33 n],[],[],[]⟩
abbrev y0e:List (List Nat):=[[0,1],[0,1,7,8],[0,1,7,8,9],[0,1,5,7,8],[0,1,5,7,8,16],[4],[0,1,7,8],[4]]
noncomputable def zvg (n:Nat) (x:Yas) (v1:Unit) (q1:Yac):Pt P_ Ty_ [200000] (Bo (Yac) (Yac) (Yac)):=.ite (decide (q1.1<(x.1.length:Int))) (.bnd (idx x.1 q1.1) fun y1=>.call (k33 n) (y1,q1.2.1,q1.2.2.1,q1.2.2.2.1,q1.2.2.2.2) fun (y2:Yaj)=>.ite y2.1 (.leaf (.ret (q1.1,y2.2.1,y2.2.2.1,y2.2.2.2.1,y2.2.2.2.2))) (.leaf (.go ((IntKind.i64.wrap (q1.1+(1:Int))),y2.2.1,y2.2.2.1,y2.2.2.2.1,y2.2.2.2.2)))) (.leaf (.out (q1.1,q1.2.1,q1.2.2.1,q1.2.2.2.1,q1.2.2.2.2)))
noncomputable def zvf (n:Nat) (x:Yas) (v1:Unit):LCon P_ Ty_ [200000]:=lcon (X:=Yac) (Y:=Yac) (Z:=Yac) (y0d n) (subC [1,0,1,0,0] (fnC P_ 63 y0e)) (fun q1=>.no) 0 true ⟨[(0,.im 3),(1,.fn [.ref 200000]),(7,.any),(8,.any)],[(200000,.any)]⟩ ⟨[(0,.im 3),(1,.fn [.ref 200000]),(7,.any),(8,.any),(9,.any)],[(200000,.any)]⟩ ⟨[(4,.any)],[(200000,.any)]⟩ (fun q1=>([(0,.im 3 x.1),(1,.fn 40 [.pt 200000 [] 0 0]),(7,I_ (x.1.length:Int)),(8,I_ q1.1)],[(200000,.lit 4 [[.im 1 q1.2.1,.im 2 q1.2.2.1,.im 3 q1.2.2.2.1,.im 4 q1.2.2.2.2]])])) (fun p=>([(0,.im 3 x.1),(1,.fn 40 [.pt 200000 [] 0 0]),(7,I_ (x.1.length:Int)),(8,I_ p.1),(9,B_ false)],[(200000,.lit 4 [[.im 1 p.2.1,.im 2 p.2.2.1,.im 3 p.2.2.2.1,.im 4 p.2.2.2.2]])])) (fun p=>([(4,I_ p.1)],[(200000,.lit 4 [[.im 1 p.2.1,.im 2 p.2.2.1,.im 3 p.2.2.2.1,.im 4 p.2.2.2.2]])])) n (zvg n x v1)
noncomputable def y0f (n:Nat) (x:Yas):Pt P_ Ty_ [200000] (Yac):=.loopR (V:=Unit) (zvf n x) () ((0:Int),x.2.1,x.2.2.1,x.2.2.2.1,x.2.2.2.2) (fun (v1:Unit) (y3:Yac)=>.leaf ((-1:Int),y3.2.1,y3.2.2.1,y3.2.2.2.1,y3.2.2.2.2)) fun (v1:Unit) (z1:Yac)=>.leaf (z1.1,z1.2.1,z1.2.2.1,z1.2.2.2.1,z1.2.2.2.2)
noncomputable def k51 (n:Nat):Con P_ Ty_:=zd (X:=Yas) (R:=Yac) (pro:=[200000]) (y0d n) 63 y0e (fun x=>.two .no (.two (.two .no (.two (.loop Unit (zvf n x) true ⟨[(0,.im 3),(1,.fn [.ref 200000]),(7,.any),(8,.any)],[(200000,.any)]⟩) .no)) .no)) [.im 3,.fn 40 [.pt 200000]] [(200000,[.im 1,.im 2,.im 3,.im 4])] [] ⟨[(4,.any)],[(200000,.any)]⟩ [200000] false (fun x=>[.im 3 x.1,.fn 40 [.pt 200000 [] 0 0]]) (fun x=>[(200000,.lit 4 [[.im 1 x.2.1,.im 2 x.2.2.1,.im 3 x.2.2.2.1,.im 4 x.2.2.2.2]])]) (fun y=>([(4,I_ y.1)],[(200000,.lit 4 [[.im 1 y.2.1,.im 2 y.2.2.1,.im 3 y.2.2.2.1,.im 4 y.2.2.2.2]])])) (fun y=>I_ y.1) (fun y=>[(200000,.lit 4 [[.im 1 y.2.1,.im 2 y.2.2.1,.im 3 y.2.2.2.1,.im 4 y.2.2.2.2]])]) (y0f n)
noncomputable def y9v (n:Nat):Cx P_ Ty_:=⟨[k51 n],[],[],[]⟩
abbrev y9w:List (List Nat):=[[0,1],[4]]
noncomputable def zzn (n:Nat) (x:Yas):Pt P_ Ty_ [200000] (Yaj):=.call (k51 n) (x.1,x.2.1,x.2.2.1,x.2.2.2.1,x.2.2.2.2) fun (y1:Yac)=>.leaf ((decide (y1.1≥(0:Int))),y1.2.1,y1.2.2.1,y1.2.2.2.1,y1.2.2.2.2)
noncomputable def k32 (n:Nat):Con P_ Ty_:=zd (X:=Yas) (R:=Yaj) (pro:=[200000]) (y9v n) 39 y9w (fun x=>.no) [.im 3,.fn 40 [.pt 200000]] [(200000,[.im 1,.im 2,.im 3,.im 4])] [] ⟨[(4,.any)],[(200000,.any)]⟩ [200000] false (fun x=>[.im 3 x.1,.fn 40 [.pt 200000 [] 0 0]]) (fun x=>[(200000,.lit 4 [[.im 1 x.2.1,.im 2 x.2.2.1,.im 3 x.2.2.2.1,.im 4 x.2.2.2.2]])]) (fun y=>([(4,B_ y.1)],[(200000,.lit 4 [[.im 1 y.2.1,.im 2 y.2.2.1,.im 3 y.2.2.2.1,.im 4 y.2.2.2.2]])])) (fun y=>B_ y.1) (fun y=>[(200000,.lit 4 [[.im 1 y.2.1,.im 2 y.2.2.1,.im 3 y.2.2.2.1,.im 4 y.2.2.2.2]])]) (zzn n)
noncomputable def y9l (n:Nat):Cx P_ Ty_:=⟨[],[],[],[]⟩
abbrev y9m:List (List Nat):=[[0,2],[2,4],[2,4,5],[2,3],[2,4,8],[2,3],[2,4,11],[2,3],[2,4,14],[2,4,14],[2,4,14],[2,4,14],[2,4,14],[2,4,14],[2,4,14],[2,3],[2,4,23],[2,4,23],[2,4,23],[2,4,23],[2,3],[2,4,29],[2,3],[2,4,32],[2,3],[2,4,35],[2,3],[2,4,38],[2,3],[2,4,41],[2,4,41],[2,3],[2,4,45],[2,4,45],[2,3],[2,4,49],[2,4,49],[2,4,49],[2,4,49],[2,4,49],[2,3],[2,4,56],[2,3],[2,4,59],[2,4,59],[2,3],[2,4,63],[2,3],[2,4,66],[2,3],[2,4,69],[2,3],[2,4,72],[2,3],[2,4,75],[2,3],[2,4,78],[2,78],[2,3],[2,3]]
noncomputable def zu5 (x:Int) (p:Bool):EH Ty_:=([(2,.pt 2 [] 0 0),(4,I_ x),(14,B_ p)],[(2,.lit 5 [[I_ (0:Int),I_ (0:Int),I_ (0:Int),I_ (0:Int),I_ (0:Int)]])])
noncomputable def zu6 (x:Int) (p:Bool):EH Ty_:=([(2,.pt 2 [] 0 0),(4,I_ x),(23,B_ p)],[(2,.lit 5 [[I_ (0:Int),I_ (0:Int),I_ (0:Int),I_ (0:Int),I_ (0:Int)]])])
noncomputable def zu7 (x:Int) (p:Bool):EH Ty_:=([(2,.pt 2 [] 0 0),(4,I_ x),(41,B_ p)],[(2,.lit 5 [[I_ (0:Int),I_ (0:Int),I_ (0:Int),I_ (0:Int),I_ (0:Int)]])])
noncomputable def zu8 (x:Int) (p:Bool):EH Ty_:=([(2,.pt 2 [] 0 0),(4,I_ x),(45,B_ p)],[(2,.lit 5 [[I_ (0:Int),I_ (0:Int),I_ (0:Int),I_ (0:Int),I_ (0:Int)]])])
noncomputable def zu9 (x:Int) (p:Bool):EH Ty_:=([(2,.pt 2 [] 0 0),(4,I_ x),(49,B_ p)],[(2,.lit 5 [[I_ (0:Int),I_ (0:Int),I_ (0:Int),I_ (0:Int),I_ (0:Int)]])])
noncomputable def zua (x:Int) (p:Bool):EH Ty_:=([(2,.pt 2 [] 0 0),(4,I_ x),(59,B_ p)],[(2,.lit 5 [[I_ (0:Int),I_ (0:Int),I_ (0:Int),I_ (0:Int),I_ (0:Int)]])])
noncomputable def zub (x:Int) (p:Bool):EH Ty_:=([(2,.pt 2 [] 0 0),(78,B_ p)],[(2,.lit 5 [[I_ (0:Int),I_ (0:Int),I_ (0:Int),I_ (0:Int),I_ (0:Int)]])])
noncomputable def zzi (n:Nat) (x:Int):Pt P_ Ty_ [] (Ybq):=.ite (x==1) (.leaf (true,(1:Int),(0:Int),(0:Int),(0:Int),(0:Int))) (.ite (x==2) (.leaf (true,(2:Int),(0:Int),(0:Int),(0:Int),(1:Int))) (.ite (x==3) (.leaf (true,(8:Int),(7:Int),(0:Int),(0:Int),(0:Int))) (.join (S:=Bool) (zu5 x) (.ite (x==4) (.leaf (.inl true)) (.ite (x==5) (.leaf (.inl true)) (.ite (x==6) (.leaf (.inl true)) (.ite (x==7) (.leaf (.inl true)) (.ite (x==8) (.leaf (.inl true)) (.ite (x==9) (.leaf (.inl true)) (.leaf (.inl (x==10))))))))) fun s1=>.ite s1 (.leaf (true,(4:Int),(5:Int),(5:Int),(0:Int),(0:Int))) (.join (S:=Bool) (zu6 x) (.ite (x==11) (.leaf (.inl true)) (.ite (x==12) (.leaf (.inl true)) (.ite (x==13) (.leaf (.inl true)) (.leaf (.inl (x==14)))))) fun s2=>.ite s2 (.leaf (true,(4:Int),(5:Int),(0:Int),(0:Int),(0:Int))) (.ite (x==15) (.leaf (true,(4:Int),(5:Int),(5:Int),(5:Int),(0:Int))) (.ite (x==16) (.leaf (true,(1:Int),(1:Int),(2:Int),(0:Int),(0:Int))) (.ite (x==17) (.leaf (true,(1:Int),(2:Int),(0:Int),(0:Int),(0:Int))) (.ite (x==18) (.leaf (true,(2:Int),(1:Int),(0:Int),(0:Int),(0:Int))) (.join (S:=Bool) (zu7 x) (.ite (x==19) (.leaf (.inl true)) (.leaf (.inl (x==20)))) fun s3=>.ite s3 (.leaf (true,(1:Int),(3:Int),(0:Int),(0:Int),(0:Int))) (.join (S:=Bool) (zu8 x) (.ite (x==21) (.leaf (.inl true)) (.leaf (.inl (x==25)))) fun s4=>.ite s4 (.leaf (true,(2:Int),(2:Int),(0:Int),(0:Int),(0:Int))) (.join (S:=Bool) (zu9 x) (.ite (x==22) (.leaf (.inl true)) (.ite (x==23) (.leaf (.inl true)) (.ite (x==24) (.leaf (.inl true)) (.ite (x==27) (.leaf (.inl true)) (.leaf (.inl (x==28))))))) fun s5=>.ite s5 (.leaf (true,(2:Int),(2:Int),(2:Int),(0:Int),(0:Int))) (.ite (x==26) (.leaf (true,(2:Int),(2:Int),(2:Int),(2:Int),(0:Int))) (.join (S:=Bool) (zua x) (.ite (x==29) (.leaf (.inl true)) (.leaf (.inl (x==30)))) fun s6=>.ite s6 (.leaf (true,(3:Int),(0:Int),(0:Int),(0:Int),(2:Int))) (.ite (x==31) (.leaf (true,(0:Int),(3:Int),(0:Int),(0:Int),(2:Int))) (.ite (x==32) (.leaf (true,(8:Int),(0:Int),(0:Int),(0:Int),(3:Int))) (.ite (x==33) (.leaf (true,(0:Int),(8:Int),(0:Int),(0:Int),(3:Int))) (.ite (x==34) (.leaf (true,(0:Int),(2:Int),(0:Int),(0:Int),(0:Int))) (.ite (x==36) (.leaf (true,(0:Int),(0:Int),(0:Int),(0:Int),(4:Int))) (.join (S:=Bool) (zub x) (.ite (x==35) (.leaf (.inl true)) (.leaf (.inl (x==37)))) fun s7=>.ite s7 (.leaf (true,(0:Int),(0:Int),(0:Int),(0:Int),(0:Int))) (.leaf (false,(0:Int),(0:Int),(0:Int),(0:Int),(0:Int))))))))))))))))))))))
noncomputable def k26 (n:Nat):Con P_ Ty_:=zd (X:=Int) (R:=Ybq) (pro:=[]) (y9l n) 65 y9m (fun x=>.two .no (.two (.two .no (.two (.two .no (.two .no (.two .no (.two .no (.two .no (.two .no (.join Bool (zu5 x) ⟨[(2,.ref 2),(4,.any),(14,.any)],[(2,.any)]⟩ .no (.two .no (.join Bool (zu6 x) ⟨[(2,.ref 2),(4,.any),(23,.any)],[(2,.any)]⟩ .no (.two .no (.two .no (.two .no (.two .no (.two .no (.two .no (.two .no (.two .no (.two .no (.join Bool (zu7 x) ⟨[(2,.ref 2),(4,.any),(41,.any)],[(2,.any)]⟩ .no (.two .no (.join Bool (zu8 x) ⟨[(2,.ref 2),(4,.any),(45,.any)],[(2,.any)]⟩ .no (.two .no (.join Bool (zu9 x) ⟨[(2,.ref 2),(4,.any),(49,.any)],[(2,.any)]⟩ .no (.two .no (.two .no (.two .no (.join Bool (zua x) ⟨[(2,.ref 2),(4,.any),(59,.any)],[(2,.any)]⟩ .no (.two .no (.two .no (.two .no (.two .no (.two .no (.two .no (.two .no (.two .no (.two .no (.two .no (.two .no (.join Bool (zub x) ⟨[(2,.ref 2),(78,.any)],[(2,.any)]⟩ .no .no))))))))))))))))))))))))))))))))))))))) .no)) .no)) [.any] [] [] ⟨[(2,.ref 100000),(3,.any)],[(100000,.any)]⟩ [] true (fun x=>[I_ x]) (fun x=>[]) (fun y=>([(2,.pt 100000 [] 0 0),(3,B_ y.1)],[(100000,.lit 5 [[I_ y.2.1,I_ y.2.2.1,I_ y.2.2.2.1,I_ y.2.2.2.2.1,I_ y.2.2.2.2.2]])])) (fun y=>.tu [.ag [I_ y.2.1,I_ y.2.2.1,I_ y.2.2.2.1,I_ y.2.2.2.2.1,I_ y.2.2.2.2.2],B_ y.1]) (fun y=>[]) (zzi n)
noncomputable def yab (n:Nat):Cx P_ Ty_:=⟨[],[],[],[]⟩
abbrev yac:List (List Nat):=[[0,1,4],[0,1,4,17],[4,5],[4,5]]
noncomputable def zvh (x:Yby) (p:Bool):EH Ty_:=([(0,.pt 200000 [] 0 0),(1,I_ x.2.2.2.2.2.2.2),(4,.pt 4 [] 0 0),(17,B_ p)],[(200000,.lit 7 [[.im 1 x.1,.im 2 x.2.1,.im 3 x.2.2.1,.im 4 x.2.2.2.1,.ow false 8 x.2.2.2.2.1,.ow true 10 x.2.2.2.2.2.1,.ow false 9 x.2.2.2.2.2.2.1]]),(4,.lit 2 [[I_ (0:Int),I_ (0:Int)]])])
noncomputable def y0h (n:Nat) (x:Yby):Pt P_ Ty_ [200000] (Ybn):=.join (S:=Bool) (zvh x) (.ite (decide (x.2.2.2.2.2.2.2<(0:Int))) (.leaf (.inl true)) (.leaf (.inl (decide (x.2.2.2.2.2.2.2≥(x.2.1.length:Int)))))) fun s1=>.ite s1 (.leaf (false,x.1,x.2.1,x.2.2.1,x.2.2.2.1,x.2.2.2.2.1,x.2.2.2.2.2.1,x.2.2.2.2.2.2.1,(0:Int),(0:Int))) (.bnd (idx x.2.1 x.2.2.2.2.2.2.2) fun y1=>.leaf (true,x.1,x.2.1,x.2.2.1,x.2.2.2.1,x.2.2.2.2.1,x.2.2.2.2.2.1,x.2.2.2.2.2.2.1,y1.Kind_,y1.Param_))
noncomputable def k53 (n:Nat):Con P_ Ty_:=zd (X:=Yby) (R:=Ybn) (pro:=[200000]) (yab n) 66 yac (fun x=>.two .no (.two (.join Bool (zvh x) ⟨[(0,.ref 200000),(1,.any),(4,.ref 4),(17,.any)],[(200000,.any),(4,.any)]⟩ .no .no) .no)) [.pt 200000,.any] [(200000,[.im 1,.im 2,.im 3,.im 4,.ow false 8,.ow true 10,.ow false 9])] [] ⟨[(4,.ref 100000),(5,.any)],[(200000,.any),(100000,.any)]⟩ [200000] false (fun x=>[.pt 200000 [] 0 0,I_ x.2.2.2.2.2.2.2]) (fun x=>[(200000,.lit 7 [[.im 1 x.1,.im 2 x.2.1,.im 3 x.2.2.1,.im 4 x.2.2.2.1,.ow false 8 x.2.2.2.2.1,.ow true 10 x.2.2.2.2.2.1,.ow false 9 x.2.2.2.2.2.2.1]])]) (fun y=>([(4,.pt 100000 [] 0 0),(5,B_ y.1)],[(200000,.lit 7 [[.im 1 y.2.1,.im 2 y.2.2.1,.im 3 y.2.2.2.1,.im 4 y.2.2.2.2.1,.ow false 8 y.2.2.2.2.2.1,.ow true 10 y.2.2.2.2.2.2.1,.ow false 9 y.2.2.2.2.2.2.2.1]]),(100000,.lit 2 [[I_ y.2.2.2.2.2.2.2.2.1,I_ y.2.2.2.2.2.2.2.2.2]])])) (fun y=>.tu [.ag [I_ y.2.2.2.2.2.2.2.2.1,I_ y.2.2.2.2.2.2.2.2.2],B_ y.1]) (fun y=>[(200000,.lit 7 [[.im 1 y.2.1,.im 2 y.2.2.1,.im 3 y.2.2.2.1,.im 4 y.2.2.2.2.1,.ow false 8 y.2.2.2.2.2.1,.ow true 10 y.2.2.2.2.2.2.1,.ow false 9 y.2.2.2.2.2.2.2.1]])]) (y0h n)
noncomputable def yad (n:Nat):Cx P_ Ty_:=⟨[],[],[],[]⟩
abbrev yae:List (List Nat):=[[1,3,5],[1,3,5,7],[3,5,7,11],[3,5,7,11,12],[6],[3,5,7,11,15],[6],[3,5,7,11,20],[6],[3,5,7,11,25],[6],[3,5,7,11,30],[6],[3,5,7,11,38],[6],[3,5,7,43],[6],[6]]
noncomputable def y0i (n:Nat) (x:Ycc):Pt P_ Ty_ [] Bool:=.ite (x.2.1==1) (.leaf (x.1.Kind_==1)) (.ite (x.2.1==2) (.leaf (x.1.Kind_==2)) (.ite (x.2.1==3) (.leaf (x.1.Kind_==3)) (.ite (x.2.1==4) (.leaf (x.1.Kind_ != (2:Int))) (.ite (x.2.1==5) (.ite (x.1.Kind_==1) (.leaf true) (.leaf (x.1.Kind_==x.2.2.Kind_ && (x.1.Param_==x.2.2.Param_ && true)))) (.ite (x.2.1==6) (.leaf (x.1.Kind_==x.2.2.Kind_ && (x.1.Param_==x.2.2.Param_ && true))) (.ite (x.2.1==7) (.ite (x.1.Kind_==x.2.2.Kind_ && (x.1.Param_==x.2.2.Param_ && true)) (.leaf true) (.ite (x.1.Kind_==1) (.leaf (x.2.2.Kind_==3)) (.leaf false))) (.leaf true)))))))
noncomputable def k54 (n:Nat):Con P_ Ty_:=zd (X:=Ycc) (R:=Bool) (pro:=[]) (yad n) 67 yae (fun x=>.no) [.ag [.any,.any],.any,.ag [.any,.any]] [] [] ⟨[(6,.any)],[]⟩ [] true (fun x=>[.ag [I_ x.1.Kind_,I_ x.1.Param_],I_ x.2.1,.ag [I_ x.2.2.Kind_,I_ x.2.2.Param_]]) (fun x=>[]) (fun y=>([(6,B_ y)],[])) (fun y=>B_ y) (fun y=>[]) (y0i n)
noncomputable def zzq (n:Nat):Cx P_ Ty_:=⟨[k26 n,k53 n,k54 n,k52 n],[],[],[]⟩
abbrev zzr:List (List Nat):=[[0,3],[0,3,5,6],[0,3,5,21],[4],[0,3,5,7,8],[0,3,5,7,8,30,31],[0,3,5,7,8,30,31,32],[0,3,5,7,8,9,10,30,31],[0,3,5,7,8,9,10,11,30,31],[0,3,5,7,8,9,10,11,30,31,47],[0,3,5,7,8,30,31,49],[4],[0,3,5,7,8,9,10,12,13,30,31],[0,3,5,7,8,9,12,30,31,64],[4],[0,3,5,7,8,12,30,31,65],[0,3,5,7,8,12,30,31,65,66],[0,3,5,7,8,30,31],[0,3,5,7,8,12,30,31,70],[0,3,5,7,8,12,30,31,74],[0,3,5,7,8,30,31],[0,3,5,7,8,30,31],[0,3,5,8,95],[4],[0,3,8,97],[0,3,8,97,98],[4],[0,3,8,97,108],[4],[0,3,8,97,131],[4],[0,3,161],[4],[4]]
noncomputable def zun (x:Yae) (v1:Ybb) (q1:Yaw) (p:Ybn):EH Ty_:=([(0,.pt 200000 [] 0 0),(3,.pt 3 [] 0 0),(5,.pt 5 [] 0 0),(7,.pt 7 [] 0 0),(8,.pt 8 [] 0 0),(9,I_ q1.1),(12,.pt 12 [] 0 0),(30,.ag [I_ v1.1,I_ v1.2.1,I_ v1.2.2.1,I_ v1.2.2.2.1]),(31,I_ q1.1),(64,B_ p.1)],[(200000,.lit 7 [[.im 1 p.2.1,.im 2 p.2.2.1,.im 3 p.2.2.2.1,.im 4 p.2.2.2.2.1,.ow false 8 p.2.2.2.2.2.1,.ow true 10 p.2.2.2.2.2.2.1,.ow false 9 p.2.2.2.2.2.2.2.1]]),(3,.lit 7 [[I_ x.2.2.2.2.2.2.2.Op_,I_ x.2.2.2.2.2.2.2.D_,I_ x.2.2.2.2.2.2.2.A_,I_ x.2.2.2.2.2.2.2.B_,I_ x.2.2.2.2.2.2.2.C_,I_ x.2.2.2.2.2.2.2.N_,.sc (.int .u32 x.2.2.2.2.2.2.2.Bits_)]]),(5,.lit 5 [[I_ v1.1,I_ v1.2.1,I_ v1.2.2.1,I_ v1.2.2.2.1,I_ v1.2.2.2.2]]),(7,.lit 2 [[I_ q1.2.2.2.2.2.2.2.2.1,I_ q1.2.2.2.2.2.2.2.2.2.1]]),(8,.lit 2 [[I_ q1.2.2.2.2.2.2.2.2.2.2.1,I_ q1.2.2.2.2.2.2.2.2.2.2.2]]),(12,.lit 2 [[I_ p.2.2.2.2.2.2.2.2.1,I_ p.2.2.2.2.2.2.2.2.2]])])
noncomputable def zuo (x:Yae) (p:Yco):EH Ty_:=([(0,.pt 200000 [] 0 0),(3,.pt 3 [] 0 0),(5,.pt 5 [] 0 0),(8,.pt 8 [] 0 0),(95,B_ p.1)],[(200000,.lit 7 [[.im 1 p.2.1,.im 2 p.2.2.1,.im 3 p.2.2.2.1,.im 4 p.2.2.2.2.1,.ow false 8 p.2.2.2.2.2.1,.ow true 10 p.2.2.2.2.2.2.1,.ow false 9 p.2.2.2.2.2.2.2.1]]),(3,.lit 7 [[I_ x.2.2.2.2.2.2.2.Op_,I_ x.2.2.2.2.2.2.2.D_,I_ x.2.2.2.2.2.2.2.A_,I_ x.2.2.2.2.2.2.2.B_,I_ x.2.2.2.2.2.2.2.C_,I_ x.2.2.2.2.2.2.2.N_,.sc (.int .u32 x.2.2.2.2.2.2.2.Bits_)]]),(5,.lit 5 [[I_ p.2.2.2.2.2.2.2.2.1,I_ p.2.2.2.2.2.2.2.2.2.1,I_ p.2.2.2.2.2.2.2.2.2.2.1,I_ p.2.2.2.2.2.2.2.2.2.2.2.1,I_ p.2.2.2.2.2.2.2.2.2.2.2.2.1]]),(8,.lit 2 [[I_ p.2.2.2.2.2.2.2.2.2.2.2.2.2.1,I_ p.2.2.2.2.2.2.2.2.2.2.2.2.2.2]])])
noncomputable def zup (n:Nat) (x:Yae) (v1:Ybb) (q1:Yaw):Pt P_ Ty_ [200000] (Bo (Yaw) (Yaw) (Ycd)):=.ite (decide (q1.1<(4:Int))) (.bnd (idx [v1.1,v1.2.1,v1.2.2.1,v1.2.2.2.1] q1.1) fun y2=>.bnd (idx [x.2.2.2.2.2.2.2.D_,x.2.2.2.2.2.2.2.A_,x.2.2.2.2.2.2.2.B_,x.2.2.2.2.2.2.2.C_] q1.1) fun y3=>.ite (y2==0) (.ite (y3 != (0:Int)) (.leaf (.ret (q1.2.1,q1.2.2.1,q1.2.2.2.1,q1.2.2.2.2.1,q1.2.2.2.2.2.1,q1.2.2.2.2.2.2.1,q1.2.2.2.2.2.2.2.1))) (.leaf (.go ((IntKind.i64.wrap (q1.1+(1:Int))),q1.2.1,q1.2.2.1,q1.2.2.2.1,q1.2.2.2.2.1,q1.2.2.2.2.2.1,q1.2.2.2.2.2.2.1,q1.2.2.2.2.2.2.2.1,q1.2.2.2.2.2.2.2.2.1,q1.2.2.2.2.2.2.2.2.2.1,q1.2.2.2.2.2.2.2.2.2.2.1,q1.2.2.2.2.2.2.2.2.2.2.2)))) (.call (k53 n) (q1.2.1,q1.2.2.1,q1.2.2.2.1,q1.2.2.2.2.1,q1.2.2.2.2.2.1,q1.2.2.2.2.2.2.1,q1.2.2.2.2.2.2.2.1,y3) fun (y4:Ybn)=>.join (S:=Ybn) (zun x v1 q1) (.ite (!y4.1) (.leaf (.inl (true,y4.2.1,y4.2.2.1,y4.2.2.2.1,y4.2.2.2.2.1,y4.2.2.2.2.2.1,y4.2.2.2.2.2.2.1,y4.2.2.2.2.2.2.2.1,y4.2.2.2.2.2.2.2.2.1,y4.2.2.2.2.2.2.2.2.2))) (.call (k54 n) ((⟨y4.2.2.2.2.2.2.2.2.1,y4.2.2.2.2.2.2.2.2.2⟩:Xb),y2,(⟨q1.2.2.2.2.2.2.2.2.1,q1.2.2.2.2.2.2.2.2.2.1⟩:Xb)) fun (y5:Bool)=>.leaf (.inl ((!y5),y4.2.1,y4.2.2.1,y4.2.2.2.1,y4.2.2.2.2.1,y4.2.2.2.2.2.1,y4.2.2.2.2.2.2.1,y4.2.2.2.2.2.2.2.1,y4.2.2.2.2.2.2.2.2.1,y4.2.2.2.2.2.2.2.2.2)))) fun s1=>.ite s1.1 (.leaf (.ret (s1.2.1,s1.2.2.1,s1.2.2.2.1,s1.2.2.2.2.1,s1.2.2.2.2.2.1,s1.2.2.2.2.2.2.1,s1.2.2.2.2.2.2.2.1))) (.ite (q1.1==0) (.leaf (.go ((IntKind.i64.wrap (q1.1+(1:Int))),s1.2.1,s1.2.2.1,s1.2.2.2.1,s1.2.2.2.2.1,s1.2.2.2.2.2.1,s1.2.2.2.2.2.2.1,s1.2.2.2.2.2.2.2.1,s1.2.2.2.2.2.2.2.2.1,s1.2.2.2.2.2.2.2.2.2,s1.2.2.2.2.2.2.2.2.1,s1.2.2.2.2.2.2.2.2.2))) (.ite (q1.1==1) (.ite (v1.1==0) (.leaf (.go ((IntKind.i64.wrap (q1.1+(1:Int))),s1.2.1,s1.2.2.1,s1.2.2.2.1,s1.2.2.2.2.1,s1.2.2.2.2.2.1,s1.2.2.2.2.2.2.1,s1.2.2.2.2.2.2.2.1,q1.2.2.2.2.2.2.2.2.1,q1.2.2.2.2.2.2.2.2.2.1,s1.2.2.2.2.2.2.2.2.1,s1.2.2.2.2.2.2.2.2.2))) (.leaf (.go ((IntKind.i64.wrap (q1.1+(1:Int))),s1.2.1,s1.2.2.1,s1.2.2.2.1,s1.2.2.2.2.1,s1.2.2.2.2.2.1,s1.2.2.2.2.2.2.1,s1.2.2.2.2.2.2.2.1,q1.2.2.2.2.2.2.2.2.1,q1.2.2.2.2.2.2.2.2.2.1,q1.2.2.2.2.2.2.2.2.2.2.1,q1.2.2.2.2.2.2.2.2.2.2.2)))) (.leaf (.go ((IntKind.i64.wrap (q1.1+(1:Int))),s1.2.1,s1.2.2.1,s1.2.2.2.1,s1.2.2.2.2.1,s1.2.2.2.2.2.1,s1.2.2.2.2.2.2.1,s1.2.2.2.2.2.2.2.1,q1.2.2.2.2.2.2.2.2.1,q1.2.2.2.2.2.2.2.2.2.1,q1.2.2.2.2.2.2.2.2.2.2.1,q1.2.2.2.2.2.2.2.2.2.2.2))))))) (.leaf (.out (q1.1,q1.2.1,q1.2.2.1,q1.2.2.2.1,q1.2.2.2.2.1,q1.2.2.2.2.2.1,q1.2.2.2.2.2.2.1,q1.2.2.2.2.2.2.2.1,q1.2.2.2.2.2.2.2.2.1,q1.2.2.2.2.2.2.2.2.2.1,q1.2.2.2.2.2.2.2.2.2.2.1,q1.2.2.2.2.2.2.2.2.2.2.2)))
noncomputable def zum (n:Nat) (x:Yae) (v1:Ybb):LCon P_ Ty_ [200000]:=lcon (X:=Yaw) (Y:=Yaw) (Z:=Ycd) (zzq n) (subC [1,1,1,1,0,1,0,0] (fnC P_ 42 zzr)) (fun q1=>.two .no (.two .no (.two (.two (.two .no (.two .no (.two .no (.two .no (.two (.join (Ybn) (zun x v1 q1) ⟨[(0,.ref 200000),(3,.ref 3),(5,.ref 5),(7,.ref 7),(8,.ref 8),(9,.any),(12,.ref 12),(30,.any),(31,.any),(64,.any)],[(200000,.any),(3,.any),(5,.any),(7,.any),(8,.any),(12,.any)]⟩ .no .no) .no))))) .no) .no))) 0 true ⟨[(0,.ref 200000),(3,.ref 3),(5,.ref 5),(7,.ref 7),(8,.ref 8),(30,.any),(31,.any)],[(200000,.any),(3,.any),(5,.any),(7,.any),(8,.any)]⟩ ⟨[(0,.ref 200000),(3,.ref 3),(5,.ref 5),(7,.ref 7),(8,.ref 8),(30,.any),(31,.any),(32,.any)],[(200000,.any),(3,.any),(5,.any),(7,.any),(8,.any)]⟩ ⟨[(4,.any)],[(200000,.any)]⟩ (fun q1=>([(0,.pt 200000 [] 0 0),(3,.pt 3 [] 0 0),(5,.pt 5 [] 0 0),(7,.pt 7 [] 0 0),(8,.pt 8 [] 0 0),(30,.ag [I_ v1.1,I_ v1.2.1,I_ v1.2.2.1,I_ v1.2.2.2.1]),(31,I_ q1.1)],[(200000,.lit 7 [[.im 1 q1.2.1,.im 2 q1.2.2.1,.im 3 q1.2.2.2.1,.im 4 q1.2.2.2.2.1,.ow false 8 q1.2.2.2.2.2.1,.ow true 10 q1.2.2.2.2.2.2.1,.ow false 9 q1.2.2.2.2.2.2.2.1]]),(3,.lit 7 [[I_ x.2.2.2.2.2.2.2.Op_,I_ x.2.2.2.2.2.2.2.D_,I_ x.2.2.2.2.2.2.2.A_,I_ x.2.2.2.2.2.2.2.B_,I_ x.2.2.2.2.2.2.2.C_,I_ x.2.2.2.2.2.2.2.N_,.sc (.int .u32 x.2.2.2.2.2.2.2.Bits_)]]),(5,.lit 5 [[I_ v1.1,I_ v1.2.1,I_ v1.2.2.1,I_ v1.2.2.2.1,I_ v1.2.2.2.2]]),(7,.lit 2 [[I_ q1.2.2.2.2.2.2.2.2.1,I_ q1.2.2.2.2.2.2.2.2.2.1]]),(8,.lit 2 [[I_ q1.2.2.2.2.2.2.2.2.2.2.1,I_ q1.2.2.2.2.2.2.2.2.2.2.2]])])) (fun p=>([(0,.pt 200000 [] 0 0),(3,.pt 3 [] 0 0),(5,.pt 5 [] 0 0),(7,.pt 7 [] 0 0),(8,.pt 8 [] 0 0),(30,.ag [I_ v1.1,I_ v1.2.1,I_ v1.2.2.1,I_ v1.2.2.2.1]),(31,I_ p.1),(32,B_ false)],[(200000,.lit 7 [[.im 1 p.2.1,.im 2 p.2.2.1,.im 3 p.2.2.2.1,.im 4 p.2.2.2.2.1,.ow false 8 p.2.2.2.2.2.1,.ow true 10 p.2.2.2.2.2.2.1,.ow false 9 p.2.2.2.2.2.2.2.1]]),(3,.lit 7 [[I_ x.2.2.2.2.2.2.2.Op_,I_ x.2.2.2.2.2.2.2.D_,I_ x.2.2.2.2.2.2.2.A_,I_ x.2.2.2.2.2.2.2.B_,I_ x.2.2.2.2.2.2.2.C_,I_ x.2.2.2.2.2.2.2.N_,.sc (.int .u32 x.2.2.2.2.2.2.2.Bits_)]]),(5,.lit 5 [[I_ v1.1,I_ v1.2.1,I_ v1.2.2.1,I_ v1.2.2.2.1,I_ v1.2.2.2.2]]),(7,.lit 2 [[I_ p.2.2.2.2.2.2.2.2.1,I_ p.2.2.2.2.2.2.2.2.2.1]]),(8,.lit 2 [[I_ p.2.2.2.2.2.2.2.2.2.2.1,I_ p.2.2.2.2.2.2.2.2.2.2.2]])])) (fun p=>([(4,B_ false)],[(200000,.lit 7 [[.im 1 p.1,.im 2 p.2.1,.im 3 p.2.2.1,.im 4 p.2.2.2.1,.ow false 8 p.2.2.2.2.1,.ow true 10 p.2.2.2.2.2.1,.ow false 9 p.2.2.2.2.2.2]])])) n (zup n x v1)
noncomputable def zzs (n:Nat) (x:Yae):Pt P_ Ty_ [200000] (Yap):=.call (k26 n) x.2.2.2.2.2.2.2.Op_ fun (y1:Ybq)=>.ite (!y1.1) (.leaf (false,x.1,x.2.1,x.2.2.1,x.2.2.2.1,x.2.2.2.2.1,x.2.2.2.2.2.1,x.2.2.2.2.2.2.1)) (.loopR (V:=Ybb) (zum n x) (y1.2.1,y1.2.2.1,y1.2.2.2.1,y1.2.2.2.2.1,y1.2.2.2.2.2) ((0:Int),x.1,x.2.1,x.2.2.1,x.2.2.2.1,x.2.2.2.2.1,x.2.2.2.2.2.1,x.2.2.2.2.2.2.1,(0:Int),(0:Int),(0:Int),(0:Int)) (fun (v1:Ybb) (y6:Yaw)=>.join (S:=Yco) (zuo x) (.ite (x.2.2.2.2.2.2.2.Op_==1) (.call (k52 n) x.2.2.2.2.2.2.2.Bits_ fun (y7:Bool)=>.ite (!y7) (.leaf (.inl (true,y6.2.1,y6.2.2.1,y6.2.2.2.1,y6.2.2.2.2.1,y6.2.2.2.2.2.1,y6.2.2.2.2.2.2.1,y6.2.2.2.2.2.2.2.1,v1.1,v1.2.1,v1.2.2.1,v1.2.2.2.1,v1.2.2.2.2,y6.2.2.2.2.2.2.2.2.2.2.1,y6.2.2.2.2.2.2.2.2.2.2.2))) (.ite (x.2.2.2.2.2.2.2.Op_ != (1:Int)) (.leaf (.inl ((x.2.2.2.2.2.2.2.Bits_ != (0:Int)),y6.2.1,y6.2.2.1,y6.2.2.2.1,y6.2.2.2.2.1,y6.2.2.2.2.2.1,y6.2.2.2.2.2.2.1,y6.2.2.2.2.2.2.2.1,v1.1,v1.2.1,v1.2.2.1,v1.2.2.2.1,v1.2.2.2.2,y6.2.2.2.2.2.2.2.2.2.2.1,y6.2.2.2.2.2.2.2.2.2.2.2))) (.leaf (.inl (false,y6.2.1,y6.2.2.1,y6.2.2.2.1,y6.2.2.2.2.1,y6.2.2.2.2.2.1,y6.2.2.2.2.2.2.1,y6.2.2.2.2.2.2.2.1,v1.1,v1.2.1,v1.2.2.1,v1.2.2.2.1,v1.2.2.2.2,y6.2.2.2.2.2.2.2.2.2.2.1,y6.2.2.2.2.2.2.2.2.2.2.2))))) (.ite (x.2.2.2.2.2.2.2.Op_ != (1:Int)) (.leaf (.inl ((x.2.2.2.2.2.2.2.Bits_ != (0:Int)),y6.2.1,y6.2.2.1,y6.2.2.2.1,y6.2.2.2.2.1,y6.2.2.2.2.2.1,y6.2.2.2.2.2.2.1,y6.2.2.2.2.2.2.2.1,v1.1,v1.2.1,v1.2.2.1,v1.2.2.2.1,v1.2.2.2.2,y6.2.2.2.2.2.2.2.2.2.2.1,y6.2.2.2.2.2.2.2.2.2.2.2))) (.leaf (.inl (false,y6.2.1,y6.2.2.1,y6.2.2.2.1,y6.2.2.2.2.1,y6.2.2.2.2.2.1,y6.2.2.2.2.2.2.1,y6.2.2.2.2.2.2.2.1,v1.1,v1.2.1,v1.2.2.1,v1.2.2.2.1,v1.2.2.2.2,y6.2.2.2.2.2.2.2.2.2.2.1,y6.2.2.2.2.2.2.2.2.2.2.2))))) fun s2=>.ite s2.1 (.leaf (false,s2.2.1,s2.2.2.1,s2.2.2.2.1,s2.2.2.2.2.1,s2.2.2.2.2.2.1,s2.2.2.2.2.2.2.1,s2.2.2.2.2.2.2.2.1)) (.ite (s2.2.2.2.2.2.2.2.2.2.2.2.2.1==1) (.ite (decide (x.2.2.2.2.2.2.2.N_≥(0:Int))) (.leaf ((decide (x.2.2.2.2.2.2.2.N_≤(2147483647:Int))),s2.2.1,s2.2.2.1,s2.2.2.2.1,s2.2.2.2.2.1,s2.2.2.2.2.2.1,s2.2.2.2.2.2.2.1,s2.2.2.2.2.2.2.2.1)) (.leaf (false,s2.2.1,s2.2.2.1,s2.2.2.2.1,s2.2.2.2.2.1,s2.2.2.2.2.2.1,s2.2.2.2.2.2.2.1,s2.2.2.2.2.2.2.2.1))) (.ite (s2.2.2.2.2.2.2.2.2.2.2.2.2.1==2) (.ite (x.2.2.2.2.2.2.2.N_==0) (.leaf (true,s2.2.1,s2.2.2.1,s2.2.2.2.1,s2.2.2.2.2.1,s2.2.2.2.2.2.1,s2.2.2.2.2.2.2.1,s2.2.2.2.2.2.2.2.1)) (.ite (x.2.2.2.2.2.2.2.N_==1) (.bnd (idx s2.2.1 s2.2.2.2.2.2.2.2.2.2.2.2.2.2.2) fun y8=>.leaf ((y8.Kind_==2),s2.2.1,s2.2.2.1,s2.2.2.2.1,s2.2.2.2.2.1,s2.2.2.2.2.2.1,s2.2.2.2.2.2.2.1,s2.2.2.2.2.2.2.2.1)) (.leaf (false,s2.2.1,s2.2.2.1,s2.2.2.2.1,s2.2.2.2.2.1,s2.2.2.2.2.2.1,s2.2.2.2.2.2.2.1,s2.2.2.2.2.2.2.2.1)))) (.ite (s2.2.2.2.2.2.2.2.2.2.2.2.2.1==3) (.ite (decide (x.2.2.2.2.2.2.2.N_≥(0:Int))) (.ite (decide (x.2.2.2.2.2.2.2.N_<(s2.2.2.2.1.length:Int))) (.bnd (idx s2.2.2.2.1 x.2.2.2.2.2.2.2.N_) fun y9=>.leaf ((y9.Type_.Kind_==s2.2.2.2.2.2.2.2.2.2.2.2.2.2.1 && (y9.Type_.Param_==s2.2.2.2.2.2.2.2.2.2.2.2.2.2.2 && true)),s2.2.1,s2.2.2.1,s2.2.2.2.1,s2.2.2.2.2.1,s2.2.2.2.2.2.1,s2.2.2.2.2.2.2.1,s2.2.2.2.2.2.2.2.1)) (.leaf (false,s2.2.1,s2.2.2.1,s2.2.2.2.1,s2.2.2.2.2.1,s2.2.2.2.2.2.1,s2.2.2.2.2.2.2.1,s2.2.2.2.2.2.2.2.1))) (.leaf (false,s2.2.1,s2.2.2.1,s2.2.2.2.1,s2.2.2.2.2.1,s2.2.2.2.2.2.1,s2.2.2.2.2.2.2.1,s2.2.2.2.2.2.2.2.1))) (.ite (s2.2.2.2.2.2.2.2.2.2.2.2.2.1==4) (.ite (decide (x.2.2.2.2.2.2.2.N_≥(0:Int))) (.leaf ((decide (x.2.2.2.2.2.2.2.N_<(s2.2.1.length:Int))),s2.2.1,s2.2.2.1,s2.2.2.2.1,s2.2.2.2.2.1,s2.2.2.2.2.2.1,s2.2.2.2.2.2.2.1,s2.2.2.2.2.2.2.2.1)) (.leaf (false,s2.2.1,s2.2.2.1,s2.2.2.2.1,s2.2.2.2.2.1,s2.2.2.2.2.2.1,s2.2.2.2.2.2.2.1,s2.2.2.2.2.2.2.2.1))) (.leaf ((x.2.2.2.2.2.2.2.N_==0),s2.2.1,s2.2.2.1,s2.2.2.2.1,s2.2.2.2.2.1,s2.2.2.2.2.2.1,s2.2.2.2.2.2.2.1,s2.2.2.2.2.2.2.2.1))))))) fun (v1:Ybb) (z1:Ycd)=>.leaf (false,z1.1,z1.2.1,z1.2.2.1,z1.2.2.2.1,z1.2.2.2.2.1,z1.2.2.2.2.2.1,z1.2.2.2.2.2.2))
noncomputable def k35 (n:Nat):Con P_ Ty_:=zd (X:=Yae) (R:=Yap) (pro:=[200000]) (zzq n) 42 zzr (fun x=>.two .no (.two .no (.two .no (.two .no (.two (.two .no (.two (.loop (Ybb) (zum n x) true ⟨[(0,.ref 200000),(3,.ref 3),(5,.ref 5),(7,.ref 7),(8,.ref 8),(30,.any),(31,.any)],[(200000,.any),(3,.any),(5,.any),(7,.any),(8,.any)]⟩) .no)) (.two (.join (Yco) (zuo x) ⟨[(0,.ref 200000),(3,.ref 3),(5,.ref 5),(8,.ref 8),(95,.any)],[(200000,.any),(3,.any),(5,.any),(8,.any)]⟩ .no .no) .no)))))) [.pt 200000,.ag [.any,.any,.any,.any,.any,.any,.any]] [(200000,[.im 1,.im 2,.im 3,.im 4,.ow false 8,.ow true 10,.ow false 9])] [] ⟨[(4,.any)],[(200000,.any)]⟩ [200000] false (fun x=>[.pt 200000 [] 0 0,.ag [I_ x.2.2.2.2.2.2.2.Op_,I_ x.2.2.2.2.2.2.2.D_,I_ x.2.2.2.2.2.2.2.A_,I_ x.2.2.2.2.2.2.2.B_,I_ x.2.2.2.2.2.2.2.C_,I_ x.2.2.2.2.2.2.2.N_,.sc (.int .u32 x.2.2.2.2.2.2.2.Bits_)]]) (fun x=>[(200000,.lit 7 [[.im 1 x.1,.im 2 x.2.1,.im 3 x.2.2.1,.im 4 x.2.2.2.1,.ow false 8 x.2.2.2.2.1,.ow true 10 x.2.2.2.2.2.1,.ow false 9 x.2.2.2.2.2.2.1]])]) (fun y=>([(4,B_ y.1)],[(200000,.lit 7 [[.im 1 y.2.1,.im 2 y.2.2.1,.im 3 y.2.2.2.1,.im 4 y.2.2.2.2.1,.ow false 8 y.2.2.2.2.2.1,.ow true 10 y.2.2.2.2.2.2.1,.ow false 9 y.2.2.2.2.2.2.2]])])) (fun y=>B_ y.1) (fun y=>[(200000,.lit 7 [[.im 1 y.2.1,.im 2 y.2.2.1,.im 3 y.2.2.2.1,.im 4 y.2.2.2.2.1,.ow false 8 y.2.2.2.2.2.1,.ow true 10 y.2.2.2.2.2.2.1,.ow false 9 y.2.2.2.2.2.2.2]])]) (zzs n)
noncomputable def y9h (n:Nat):Cx P_ Ty_:=⟨[],[],[],[]⟩
abbrev y9i:List (List Nat):=[[0],[2]]
noncomputable def zzc (n:Nat) (x:Int):Pt P_ Ty_ [] Bool:=.ite (decide (x≥(3:Int))) (.leaf (decide (x≤(15:Int)))) (.leaf false)
noncomputable def k13 (n:Nat):Con P_ Ty_:=zd (X:=Int) (R:=Bool) (pro:=[]) (y9h n) 49 y9i (fun x=>.no) [.any] [] [] ⟨[(2,.any)],[]⟩ [] true (fun x=>[I_ x]) (fun x=>[]) (fun y=>([(2,B_ y)],[])) (fun y=>B_ y) (fun y=>[]) (zzc n)
noncomputable def zzt (n:Nat):Cx P_ Ty_:=⟨[k13 n],[(53,false,9)],[],[]⟩
abbrev zzu:List (List Nat):=[[0,3],[0,3,5],[0,3,5,15],[0,3,5],[0,3,5,29],[0,3,5,29,30],[0,3,5,29,30],[0,3,42],[4],[0,3,45],[],[4],[0,3,5,29,57],[0,68],[4],[0,6],[0,6,81,82,83],[0,6,81,82,83,84],[0,6,8,81,82,83],[0,6,81,82,83],[0,6,81,82,83],[0],[],[4],[0,3,5,117],[0,120],[4],[],[4],[0,3,5,136],[4],[0,3,9],[0,3,9,139],[0,3,9,139],[0,3,9,139],[0,3,9,139],[4],[0,3,9,163],[0,3,9,163],[4],[4]]
noncomputable def zur (x:Yae) (p:Int):EH Ty_:=([(0,.pt 200000 [] 0 0),(3,.pt 3 [] 0 0),(5,I_ p)],[(200000,.lit 7 [[.im 1 x.1,.im 2 x.2.1,.im 3 x.2.2.1,.im 4 x.2.2.2.1,.ow false 8 x.2.2.2.2.1,.ow true 10 x.2.2.2.2.2.1,.ow false 9 x.2.2.2.2.2.2.1]]),(3,.lit 7 [[I_ x.2.2.2.2.2.2.2.Op_,I_ x.2.2.2.2.2.2.2.D_,I_ x.2.2.2.2.2.2.2.A_,I_ x.2.2.2.2.2.2.2.B_,I_ x.2.2.2.2.2.2.2.C_,I_ x.2.2.2.2.2.2.2.N_,.sc (.int .u32 x.2.2.2.2.2.2.2.Bits_)]])])
noncomputable def zus (x:Yae) (p:Yag):EH Ty_:=([(0,.pt 200000 [] 0 0),(3,.pt 3 [] 0 0),(5,I_ p.1),(29,I_ x.2.2.2.2.2.2.2.Op_),(30,B_ p.2)],[(200000,.lit 7 [[.im 1 x.1,.im 2 x.2.1,.im 3 x.2.2.1,.im 4 x.2.2.2.1,.ow false 8 x.2.2.2.2.1,.ow true 10 x.2.2.2.2.2.1,.ow false 9 x.2.2.2.2.2.2.1]]),(3,.lit 7 [[I_ x.2.2.2.2.2.2.2.Op_,I_ x.2.2.2.2.2.2.2.D_,I_ x.2.2.2.2.2.2.2.A_,I_ x.2.2.2.2.2.2.2.B_,I_ x.2.2.2.2.2.2.2.C_,I_ x.2.2.2.2.2.2.2.N_,.sc (.int .u32 x.2.2.2.2.2.2.2.Bits_)]])])
noncomputable def zut (x:Yae) (p:Bool):EH Ty_:=([(0,.pt 200000 [] 0 0),(3,.pt 3 [] 0 0),(42,B_ p)],[(200000,.lit 7 [[.im 1 x.1,.im 2 x.2.1,.im 3 x.2.2.1,.im 4 x.2.2.2.1,.ow false 8 x.2.2.2.2.1,.ow true 10 x.2.2.2.2.2.1,.ow false 9 x.2.2.2.2.2.2.1]]),(3,.lit 7 [[I_ x.2.2.2.2.2.2.2.Op_,I_ x.2.2.2.2.2.2.2.D_,I_ x.2.2.2.2.2.2.2.A_,I_ x.2.2.2.2.2.2.2.B_,I_ x.2.2.2.2.2.2.2.C_,I_ x.2.2.2.2.2.2.2.N_,.sc (.int .u32 x.2.2.2.2.2.2.2.Bits_)]])])
noncomputable def zuu (x:Yae) (p:Bool):EH Ty_:=([(0,.pt 200000 [] 0 0),(68,B_ p)],[(200000,.lit 7 [[.im 1 x.1,.im 2 x.2.1,.im 3 x.2.2.1,.im 4 x.2.2.2.1,.ow false 8 x.2.2.2.2.1,.ow true 10 x.2.2.2.2.2.1,.ow false 9 x.2.2.2.2.2.2.1]])])
noncomputable def zuv (x:Yae) (p:Ybr):EH Ty_:=([(0,.pt 200000 [] 0 0),(3,.pt 3 [] 0 0),(9,.pt 9 [] 0 0),(139,B_ p.1)],[(200000,.lit 7 [[.im 1 x.1,.im 2 x.2.1,.im 3 x.2.2.1,.im 4 x.2.2.2.1,.ow false 8 x.2.2.2.2.1,.ow true 10 x.2.2.2.2.2.1,.ow false 9 x.2.2.2.2.2.2.1]]),(3,.lit 7 [[I_ x.2.2.2.2.2.2.2.Op_,I_ x.2.2.2.2.2.2.2.D_,I_ x.2.2.2.2.2.2.2.A_,I_ x.2.2.2.2.2.2.2.B_,I_ x.2.2.2.2.2.2.2.C_,I_ x.2.2.2.2.2.2.2.N_,.sc (.int .u32 x.2.2.2.2.2.2.2.Bits_)]]),(9,.lit 2 [[I_ (3:Int),I_ p.2]])])
noncomputable def zuw (x:Yae) (p:Ybr):EH Ty_:=([(0,.pt 200000 [] 0 0),(3,.pt 3 [] 0 0),(9,.pt 9 [] 0 0),(163,B_ p.1)],[(200000,.lit 7 [[.im 1 x.1,.im 2 x.2.1,.im 3 x.2.2.1,.im 4 x.2.2.2.1,.ow false 8 x.2.2.2.2.1,.ow true 10 x.2.2.2.2.2.1,.ow false 9 x.2.2.2.2.2.2.1]]),(3,.lit 7 [[I_ x.2.2.2.2.2.2.2.Op_,I_ x.2.2.2.2.2.2.2.D_,I_ x.2.2.2.2.2.2.2.A_,I_ x.2.2.2.2.2.2.2.B_,I_ x.2.2.2.2.2.2.2.C_,I_ x.2.2.2.2.2.2.2.N_,.sc (.int .u32 x.2.2.2.2.2.2.2.Bits_)]]),(9,.lit 2 [[I_ (3:Int),I_ p.2]])])
noncomputable def zux (n:Nat) (x:Yae) (v1:Int) (q1:Yad):Pt P_ Ty_ [200000] (Bo (Yad) (Yad) Empty):=.ite (decide (q1.1<v1)) (.bnd (x.2.2.2.2.2.1[(IntKind.i64.wrap ((x.2.2.2.2.2.1.length:Int) - (1:Int))).toNat]?) fun y4=>.need (0≤q1.1∧q1.1<(y4.length:Int)) (.bnd (x.2.2.2.2.2.1[(IntKind.i64.wrap ((x.2.2.2.2.2.1.length:Int) - (1:Int))).toNat]?) fun y5=>.bnd (y5[q1.1.toNat]?) fun y6=>.need (0≤y6∧y6<(q1.2.length:Int)) (.bnd (q1.2[y6.toNat]?) fun y7=>.leaf (.go ((IntKind.i64.wrap (q1.1+(1:Int))),(q1.2.set y6.toNat false)))))) (.leaf (.out (q1.1,q1.2)))
noncomputable def zuq (n:Nat) (x:Yae) (v1:Int):LCon P_ Ty_ [200000]:=lcon (X:=Yad) (Y:=Yad) (Z:=Empty) (zzt n) (subC [1,1,1,0,1,0,1,1,1,0,1,1,0,1,0,0] (fnC P_ 43 zzu)) (fun q1=>.no) 1 false ⟨[(0,.ref 200000),(6,.any),(81,.ref 200000),(82,.any),(83,.any)],[(200000,.any)]⟩ ⟨[(0,.ref 200000),(6,.any),(81,.ref 200000),(82,.any),(83,.any),(84,.any)],[(200000,.any)]⟩ ⟨[],[]⟩ (fun q1=>([(0,.pt 200000 [] 0 0),(6,I_ (IntKind.i64.wrap ((x.2.2.2.2.2.1.length:Int) - (1:Int)))),(81,.sw 200000 [(0,5),((IntKind.i64.wrap ((x.2.2.2.2.2.1.length:Int) - (1:Int))).toNat,0)]),(82,I_ v1),(83,I_ q1.1)],[(200000,.lit 7 [[.im 1 x.1,.im 2 x.2.1,.im 3 x.2.2.1,.im 4 x.2.2.2.1,.ow false 8 q1.2,.ow true 10 x.2.2.2.2.2.1,.ow false 9 x.2.2.2.2.2.2.1]])])) (fun p=>([(0,.pt 200000 [] 0 0),(6,I_ (IntKind.i64.wrap ((x.2.2.2.2.2.1.length:Int) - (1:Int)))),(81,.sw 200000 [(0,5),((IntKind.i64.wrap ((x.2.2.2.2.2.1.length:Int) - (1:Int))).toNat,0)]),(82,I_ v1),(83,I_ p.1),(84,B_ false)],[(200000,.lit 7 [[.im 1 x.1,.im 2 x.2.1,.im 3 x.2.2.1,.im 4 x.2.2.2.1,.ow false 8 p.2,.ow true 10 x.2.2.2.2.2.1,.ow false 9 x.2.2.2.2.2.2.1]])])) (fun p=>nomatch p) n (zux n x v1)
noncomputable def zzv (n:Nat) (x:Yae):Pt P_ Ty_ [200000] (Yap):=.join (S:=Int) (zur x) (.ite (decide ((x.2.2.2.2.2.2.1.length:Int) > (0:Int))) (.need (0≤(IntKind.i64.wrap ((x.2.2.2.2.2.2.1.length:Int) - (1:Int)))∧(IntKind.i64.wrap ((x.2.2.2.2.2.2.1.length:Int) - (1:Int)))<(x.2.2.2.2.2.2.1.length:Int)) (.bnd (x.2.2.2.2.2.2.1[(IntKind.i64.wrap ((x.2.2.2.2.2.2.1.length:Int) - (1:Int))).toNat]?) fun y1=>.leaf (.inl y1))) (.leaf (.inl (-1:Int)))) fun s1=>.join (S:=Yag) (zus x) (.ite (x.2.2.2.2.2.2.2.Op_==34) (.leaf (.inl (s1,true))) (.leaf (.inl (s1,(x.2.2.2.2.2.2.2.Op_==36))))) fun s2=>.ite s2.2 (.join (S:=Bool) (zut x) (.ite (decide (s2.1≥(0:Int))) (.leaf (.inl true)) (.leaf (.inl ((x.2.2.2.2.2.2.1.length:Int)==64)))) fun s3=>.ite s3 (.leaf (false,x.1,x.2.1,x.2.2.1,x.2.2.2.1,x.2.2.2.2.1,x.2.2.2.2.2.1,x.2.2.2.2.2.2.1)) (.ite (x.2.2.2.2.2.2.2.Op_==36) (.need ((x.2.2.2.2.2.2.1.length+([x.2.2.2.2.2.2.2.N_]:List Int).length) * 8≤140737488355328) (.leaf (true,x.1,x.2.1,x.2.2.1,x.2.2.2.1,x.2.2.2.2.1,x.2.2.2.2.2.1,(x.2.2.2.2.2.2.1++([x.2.2.2.2.2.2.2.N_]:List Int))))) (.leaf (true,x.1,x.2.1,x.2.2.1,x.2.2.2.1,x.2.2.2.2.1,x.2.2.2.2.2.1,x.2.2.2.2.2.2.1)))) (.ite (x.2.2.2.2.2.2.2.Op_==35) (.join (S:=Bool) (zuu x) (.ite ((x.2.2.2.2.2.2.1.length:Int)==0) (.leaf (.inl true)) (.leaf (.inl (decide (s2.1≥(0:Int)))))) fun s4=>.ite s4 (.leaf (false,x.1,x.2.1,x.2.2.1,x.2.2.2.1,x.2.2.2.2.1,x.2.2.2.2.2.1,x.2.2.2.2.2.2.1)) (.need (0≤(IntKind.i64.wrap ((x.2.2.2.2.2.1.length:Int) - (1:Int)))∧(IntKind.i64.wrap ((x.2.2.2.2.2.1.length:Int) - (1:Int)))<(x.2.2.2.2.2.1.length:Int)) (.bnd (x.2.2.2.2.2.1[(IntKind.i64.wrap ((x.2.2.2.2.2.1.length:Int) - (1:Int))).toNat]?) fun y2=>.bnd (x.2.2.2.2.2.1[(IntKind.i64.wrap ((x.2.2.2.2.2.1.length:Int) - (1:Int))).toNat]?) fun y3=>.loop (V:=Int) (zuq n x) (y3.length:Int) ((0:Int),x.2.2.2.2.1) fun (v1:Int) (y8:Yad)=>.need (0≤(IntKind.i64.wrap ((x.2.2.2.2.2.1.length:Int) - (1:Int)))∧(IntKind.i64.wrap ((x.2.2.2.2.2.1.length:Int) - (1:Int)))≤(x.2.2.2.2.2.1.length:Int)) (.need ((IntKind.i64.wrap ((x.2.2.2.2.2.1.length:Int) - (1:Int))).toNat≤x.2.2.2.2.2.1.length) (.need (0≤(IntKind.i64.wrap ((x.2.2.2.2.2.2.1.length:Int) - (1:Int)))∧(IntKind.i64.wrap ((x.2.2.2.2.2.2.1.length:Int) - (1:Int)))≤(x.2.2.2.2.2.2.1.length:Int)) (.need ((IntKind.i64.wrap ((x.2.2.2.2.2.2.1.length:Int) - (1:Int))).toNat≤x.2.2.2.2.2.2.1.length) (.leaf (true,x.1,x.2.1,x.2.2.1,x.2.2.2.1,y8.2,(x.2.2.2.2.2.1.take ((IntKind.i64.wrap ((x.2.2.2.2.2.1.length:Int) - (1:Int))).toNat)),(x.2.2.2.2.2.2.1.take ((IntKind.i64.wrap ((x.2.2.2.2.2.2.1.length:Int) - (1:Int))).toNat)))))))))) (.ite (x.2.2.2.2.2.2.2.Op_==37) (.ite (decide (s2.1<(0:Int))) (.leaf (false,x.1,x.2.1,x.2.2.1,x.2.2.2.1,x.2.2.2.2.1,x.2.2.2.2.2.1,x.2.2.2.2.2.2.1)) (.need (0≤(IntKind.i64.wrap ((x.2.2.2.2.2.2.1.length:Int) - (1:Int)))∧(IntKind.i64.wrap ((x.2.2.2.2.2.2.1.length:Int) - (1:Int)))≤(x.2.2.2.2.2.2.1.length:Int)) (.need ((IntKind.i64.wrap ((x.2.2.2.2.2.2.1.length:Int) - (1:Int))).toNat≤x.2.2.2.2.2.2.1.length) (.leaf (true,x.1,x.2.1,x.2.2.1,x.2.2.2.1,x.2.2.2.2.1,x.2.2.2.2.2.1,(x.2.2.2.2.2.2.1.take ((IntKind.i64.wrap ((x.2.2.2.2.2.2.1.length:Int) - (1:Int))).toNat))))))) (.ite (decide (s2.1<(0:Int))) (.leaf (true,x.1,x.2.1,x.2.2.1,x.2.2.2.1,x.2.2.2.2.1,x.2.2.2.2.2.1,x.2.2.2.2.2.2.1)) (.join (S:=Ybr) (zuv x) (.call (k13 n) x.2.2.2.2.2.2.2.Op_ fun (y9:Bool)=>.ite y9 (.leaf (.inl (true,s2.1))) (.ite (x.2.2.2.2.2.2.2.Op_==29) (.leaf (.inl (true,s2.1))) (.ite (x.2.2.2.2.2.2.2.Op_==30) (.leaf (.inl (true,s2.1))) (.leaf (.inl ((x.2.2.2.2.2.2.2.Op_==32),s2.1)))))) fun s5=>.ite s5.1 (.bnd (idx x.2.1 x.2.2.2.2.2.2.2.D_) fun y10=>.leaf ((y10.Kind_==(3:Int) && (y10.Param_==s5.2 && true)),x.1,x.2.1,x.2.2.1,x.2.2.2.1,x.2.2.2.2.1,x.2.2.2.2.2.1,x.2.2.2.2.2.2.1)) (.join (S:=Ybr) (zuw x) (.ite (x.2.2.2.2.2.2.2.Op_==31) (.leaf (.inl (true,s5.2))) (.leaf (.inl ((x.2.2.2.2.2.2.2.Op_==33),s5.2)))) fun s6=>.ite s6.1 (.bnd (idx x.2.1 x.2.2.2.2.2.2.2.A_) fun y11=>.leaf ((y11.Kind_==(3:Int) && (y11.Param_==s6.2 && true)),x.1,x.2.1,x.2.2.1,x.2.2.2.1,x.2.2.2.2.1,x.2.2.2.2.2.1,x.2.2.2.2.2.2.1)) (.leaf (false,x.1,x.2.1,x.2.2.1,x.2.2.2.1,x.2.2.2.2.1,x.2.2.2.2.2.1,x.2.2.2.2.2.2.1)))))))
noncomputable def k36 (n:Nat):Con P_ Ty_:=zd (X:=Yae) (R:=Yap) (pro:=[200000]) (zzt n) 43 zzu (fun x=>.two .no (.two .no (.join Int (zur x) ⟨[(0,.ref 200000),(3,.ref 3),(5,.any)],[(200000,.any),(3,.any)]⟩ .no (.two (.two .no (.two (.join (Yag) (zus x) ⟨[(0,.ref 200000),(3,.ref 3),(5,.any),(29,.any),(30,.any)],[(200000,.any),(3,.any)]⟩ .no (.two (.two (.join Bool (zut x) ⟨[(0,.ref 200000),(3,.ref 3),(42,.any)],[(200000,.any),(3,.any)]⟩ .no .no) .no) (.two .no (.two (.two (.join Bool (zuu x) ⟨[(0,.ref 200000),(68,.any)],[(200000,.any)]⟩ .no .no) (.two .no (.two (.two .no (.two (.loop Int (zuq n x) false ⟨[(0,.ref 200000),(6,.any),(81,.ref 200000),(82,.any),(83,.any)],[(200000,.any)]⟩) .no)) .no))) .no)))) .no)) (.two .no (.two .no (.two (.two (.join (Ybr) (zuv x) ⟨[(0,.ref 200000),(3,.ref 3),(9,.ref 9),(139,.any)],[(200000,.any),(3,.any),(9,.any)]⟩ .no (.two .no (.join (Ybr) (zuw x) ⟨[(0,.ref 200000),(3,.ref 3),(9,.ref 9),(163,.any)],[(200000,.any),(3,.any),(9,.any)]⟩ .no .no))) .no) .no))))))) [.pt 200000,.ag [.any,.any,.any,.any,.any,.any,.any]] [(200000,[.im 1,.im 2,.im 3,.im 4,.ow false 8,.ow true 10,.ow false 9])] [] ⟨[(4,.any)],[(200000,.any)]⟩ [200000] false (fun x=>[.pt 200000 [] 0 0,.ag [I_ x.2.2.2.2.2.2.2.Op_,I_ x.2.2.2.2.2.2.2.D_,I_ x.2.2.2.2.2.2.2.A_,I_ x.2.2.2.2.2.2.2.B_,I_ x.2.2.2.2.2.2.2.C_,I_ x.2.2.2.2.2.2.2.N_,.sc (.int .u32 x.2.2.2.2.2.2.2.Bits_)]]) (fun x=>[(200000,.lit 7 [[.im 1 x.1,.im 2 x.2.1,.im 3 x.2.2.1,.im 4 x.2.2.2.1,.ow false 8 x.2.2.2.2.1,.ow true 10 x.2.2.2.2.2.1,.ow false 9 x.2.2.2.2.2.2.1]])]) (fun y=>([(4,B_ y.1)],[(200000,.lit 7 [[.im 1 y.2.1,.im 2 y.2.2.1,.im 3 y.2.2.2.1,.im 4 y.2.2.2.2.1,.ow false 8 y.2.2.2.2.2.1,.ow true 10 y.2.2.2.2.2.2.1,.ow false 9 y.2.2.2.2.2.2.2]])])) (fun y=>B_ y.1) (fun y=>[(200000,.lit 7 [[.im 1 y.2.1,.im 2 y.2.2.1,.im 3 y.2.2.2.1,.im 4 y.2.2.2.2.1,.ow false 8 y.2.2.2.2.2.1,.ow true 10 y.2.2.2.2.2.2.1,.ow false 9 y.2.2.2.2.2.2.2]])]) (zzv n)
noncomputable def g9_c (n:Nat):Cx P_ Ty_:=⟨[k26 n],[(37,false,9),(38,false,9)],[],[]⟩
abbrev g9_k:List (List Nat):=[[1],[1,3],[1,3,5],[1,5,20,21],[1,5,20,21,22],[1,5,6,7,20,21],[1,5,6,20,21,26],[1,5,20,21],[1,5,20,21],[2]]
noncomputable def y1g (n:Nat) (x:Xd) (v1:Yal) (q1:Yab):Pt P_ Ty_ [] (Bo (Yab) (Yab) Empty):=.ite (decide (q1.1<(3:Int))) (.bnd (idx [v1.1,v1.2.1,v1.2.2] q1.1) fun y2=>.ite (y2 != (0:Int)) (.bnd (idx [x.A_,x.B_,x.C_] q1.1) fun y3=>.need ((q1.2.length+([y3]:List Int).length) * 8≤140737488355328) (.leaf (.go ((IntKind.i64.wrap (q1.1+(1:Int))),(q1.2++([y3]:List Int)))))) (.leaf (.go ((IntKind.i64.wrap (q1.1+(1:Int))),q1.2)))) (.leaf (.out (q1.1,q1.2)))
noncomputable def y1f (n:Nat) (x:Xd) (v1:Yal):LCon P_ Ty_ []:=lcon (X:=Yab) (Y:=Yab) (Z:=Empty) (g9_c n) (subC [1,1,1,0,1,0,0] (fnC P_ 68 g9_k)) (fun q1=>.no) 0 false ⟨[(1,.ref 1),(5,.own 600001 false 9),(20,.any),(21,.any)],[(1,.any),(600001,.any)]⟩ ⟨[(1,.ref 1),(5,.ref 600001),(20,.any),(21,.any),(22,.any)],[(1,.any),(600001,.any)]⟩ ⟨[],[]⟩ (fun q1=>([(1,.pt 1 [] 0 0),(5,.sw 600001 []),(20,.ag [I_ v1.1,I_ v1.2.1,I_ v1.2.2]),(21,I_ q1.1)],[(1,.lit 7 [[I_ x.Op_,I_ x.D_,I_ x.A_,I_ x.B_,I_ x.C_,I_ x.N_,.sc (.int .u32 x.Bits_)]]),(600001,.typ false 9 q1.2)])) (fun p=>([(1,.pt 1 [] 0 0),(5,.sw 600001 []),(20,.ag [I_ v1.1,I_ v1.2.1,I_ v1.2.2]),(21,I_ p.1),(22,B_ false)],[(1,.lit 7 [[I_ x.Op_,I_ x.D_,I_ x.A_,I_ x.B_,I_ x.C_,I_ x.N_,.sc (.int .u32 x.Bits_)]]),(600001,.typ false 9 p.2)])) (fun p=>nomatch p) n (y1g n x v1)
noncomputable def g9_t (n:Nat) (x:Xd):Pt P_ Ty_ [] (List Int):=.call (k26 n) x.Op_ fun (y1:Ybq)=>.loop (V:=Yal) (y1f n x) (y1.2.2.1,y1.2.2.2.1,y1.2.2.2.2.1) ((0:Int),([]:List Int)) fun (v1:Yal) (y4:Yab)=>.leaf y4.2
noncomputable def k9 (n:Nat):Con P_ Ty_:=zd (X:=Xd) (R:=(List Int)) (pro:=[]) (g9_c n) 68 g9_k (fun x=>.two .no (.two .no (.two .no (.two (.two .no (.two (.loop (Yal) (y1f n x) false ⟨[(1,.ref 1),(5,.own 600001 false 9),(20,.any),(21,.any)],[(1,.any),(600001,.any)]⟩) .no)) .no)))) [.ag [.any,.any,.any,.any,.any,.any,.any]] [] [100000] ⟨[(2,.ref 100000)],[(100000,.any)]⟩ [100000] true (fun x=>[.ag [I_ x.Op_,I_ x.D_,I_ x.A_,I_ x.B_,I_ x.C_,I_ x.N_,.sc (.int .u32 x.Bits_)]]) (fun x=>[]) (fun y=>([(2,.sw 100000 [])],[(100000,.typ false 9 y)])) (fun y=>.sw 100000 []) (fun y=>[(100000,.typ false 9 y)]) (g9_t n)
noncomputable def y9d (n:Nat):Cx P_ Ty_:=⟨[k26 n],[],[],[]⟩
abbrev y9e:List (List Nat):=[[1],[3],[2]]
noncomputable def zza (n:Nat) (x:Xd):Pt P_ Ty_ [] Bool:=.call (k26 n) x.Op_ fun (y1:Ybq)=>.leaf (y1.2.1 != (0:Int))
noncomputable def k11 (n:Nat):Con P_ Ty_:=zd (X:=Xd) (R:=Bool) (pro:=[]) (y9d n) 69 y9e (fun x=>.no) [.ag [.any,.any,.any,.any,.any,.any,.any]] [] [] ⟨[(2,.any)],[]⟩ [] true (fun x=>[.ag [I_ x.Op_,I_ x.D_,I_ x.A_,I_ x.B_,I_ x.C_,I_ x.N_,.sc (.int .u32 x.Bits_)]]) (fun x=>[]) (fun y=>([(2,B_ y)],[])) (fun y=>B_ y) (fun y=>[]) (zza n)
noncomputable def zzw (n:Nat):Cx P_ Ty_:=⟨[k9 n,k11 n],[(32,false,9),(41,true,10),(87,false,9)],[],[]⟩
abbrev zzx:List (List Nat):=[[0,3],[0,3,9,10,11],[0,3,9,10,11,12],[0,3,6,9,10,11],[0,3,9,10,11,22],[4],[0,3,9,10,11],[0,3,26],[0,3],[0,3],[0,3,57],[0,3],[0,3,7],[0,3,7,72],[],[4]]
noncomputable def zuz (x:Yae) (p:Ycp):EH Ty_:=([(0,.pt 200000 [] 0 0),(3,.pt 3 [] 0 0)],[(200000,.lit 7 [[.im 1 x.1,.im 2 x.2.1,.im 3 x.2.2.1,.im 4 x.2.2.2.1,.ow false 8 x.2.2.2.2.1,.ow true 10 p.1,.ow false 9 p.2]]),(3,.lit 7 [[I_ x.2.2.2.2.2.2.2.Op_,I_ x.2.2.2.2.2.2.2.D_,I_ x.2.2.2.2.2.2.2.A_,I_ x.2.2.2.2.2.2.2.B_,I_ x.2.2.2.2.2.2.2.C_,I_ x.2.2.2.2.2.2.2.N_,.sc (.int .u32 x.2.2.2.2.2.2.2.Bits_)]])])
noncomputable def zv0 (x:Yae) (p:Ycq):EH Ty_:=([(0,.pt 200000 [] 0 0),(3,.pt 3 [] 0 0),(57,B_ p.1)],[(200000,.lit 7 [[.im 1 x.1,.im 2 x.2.1,.im 3 x.2.2.1,.im 4 x.2.2.2.1,.ow false 8 x.2.2.2.2.1,.ow true 10 p.2.1,.ow false 9 p.2.2]]),(3,.lit 7 [[I_ x.2.2.2.2.2.2.2.Op_,I_ x.2.2.2.2.2.2.2.D_,I_ x.2.2.2.2.2.2.2.A_,I_ x.2.2.2.2.2.2.2.B_,I_ x.2.2.2.2.2.2.2.C_,I_ x.2.2.2.2.2.2.2.N_,.sc (.int .u32 x.2.2.2.2.2.2.2.Bits_)]])])
noncomputable def zv1 (n:Nat) (x:Yae) (v1:Yab) (q1:Int):Pt P_ Ty_ [200000] (Bo Int Int Unit):=.ite (decide (q1<v1.1)) (.need (0≤q1∧q1<(v1.2.length:Int)) (.bnd (v1.2[q1.toNat]?) fun y2=>.need (0≤y2∧y2<(x.2.2.2.2.1.length:Int)) (.bnd (x.2.2.2.2.1[y2.toNat]?) fun y3=>.ite (!y3) (.leaf (.ret ())) (.leaf (.go (IntKind.i64.wrap (q1+(1:Int)))))))) (.leaf (.out q1))
noncomputable def zuy (n:Nat) (x:Yae) (v1:Yab):LCon P_ Ty_ [200000]:=lcon (X:=Int) (Y:=Int) (Z:=Unit) (zzw n) (subC [1,0,1,0,0] (fnC P_ 44 zzx)) (fun q1=>.no) 0 true ⟨[(0,.ref 200000),(3,.ref 3),(9,.ref 9),(10,.any),(11,.any)],[(200000,.any),(3,.any),(9,.any)]⟩ ⟨[(0,.ref 200000),(3,.ref 3),(9,.ref 9),(10,.any),(11,.any),(12,.any)],[(200000,.any),(3,.any),(9,.any)]⟩ ⟨[(4,.any)],[(200000,.any)]⟩ (fun q1=>([(0,.pt 200000 [] 0 0),(3,.pt 3 [] 0 0),(9,.sw 9 []),(10,I_ v1.1),(11,I_ q1)],[(200000,.lit 7 [[.im 1 x.1,.im 2 x.2.1,.im 3 x.2.2.1,.im 4 x.2.2.2.1,.ow false 8 x.2.2.2.2.1,.ow true 10 x.2.2.2.2.2.1,.ow false 9 x.2.2.2.2.2.2.1]]),(3,.lit 7 [[I_ x.2.2.2.2.2.2.2.Op_,I_ x.2.2.2.2.2.2.2.D_,I_ x.2.2.2.2.2.2.2.A_,I_ x.2.2.2.2.2.2.2.B_,I_ x.2.2.2.2.2.2.2.C_,I_ x.2.2.2.2.2.2.2.N_,.sc (.int .u32 x.2.2.2.2.2.2.2.Bits_)]]),(9,.typ false 9 v1.2)])) (fun p=>([(0,.pt 200000 [] 0 0),(3,.pt 3 [] 0 0),(9,.sw 9 []),(10,I_ v1.1),(11,I_ p),(12,B_ false)],[(200000,.lit 7 [[.im 1 x.1,.im 2 x.2.1,.im 3 x.2.2.1,.im 4 x.2.2.2.1,.ow false 8 x.2.2.2.2.1,.ow true 10 x.2.2.2.2.2.1,.ow false 9 x.2.2.2.2.2.2.1]]),(3,.lit 7 [[I_ x.2.2.2.2.2.2.2.Op_,I_ x.2.2.2.2.2.2.2.D_,I_ x.2.2.2.2.2.2.2.A_,I_ x.2.2.2.2.2.2.2.B_,I_ x.2.2.2.2.2.2.2.C_,I_ x.2.2.2.2.2.2.2.N_,.sc (.int .u32 x.2.2.2.2.2.2.2.Bits_)]]),(9,.typ false 9 v1.2)])) (fun p=>([(4,B_ false)],[(200000,.lit 7 [[.im 1 x.1,.im 2 x.2.1,.im 3 x.2.2.1,.im 4 x.2.2.2.1,.ow false 8 x.2.2.2.2.1,.ow true 10 x.2.2.2.2.2.1,.ow false 9 x.2.2.2.2.2.2.1]])])) n (zv1 n x v1)
noncomputable def zzy (n:Nat) (x:Yae):Pt P_ Ty_ [200000] (Yap):=.call (k9 n) x.2.2.2.2.2.2.2 fun (y1:(List Int))=>.loopR (V:=Yab) (zuy n x) ((y1.length:Int),y1) (0:Int) (fun (v1:Yab) (y4:Int)=>.join (S:=Ycp) (zuz x) (.ite (x.2.2.2.2.2.2.2.Op_==34) (.need ((x.2.2.2.2.2.2.1.length+([(-1:Int)]:List Int).length) * 8≤140737488355328) (.need ((x.2.2.2.2.2.1.length+([[]]:List (List Int)).length) * 24≤140737488355328) (.leaf (.inl ((x.2.2.2.2.2.1++([[]]:List (List Int))),(x.2.2.2.2.2.2.1++([(-1:Int)]:List Int))))))) (.leaf (.inl (x.2.2.2.2.2.1,x.2.2.2.2.2.2.1)))) fun s1=>.join (S:=Ycq) (zv0 x) (.call (k11 n) x.2.2.2.2.2.2.2 fun (y5:Bool)=>.ite y5 (.need (0≤x.2.2.2.2.2.2.2.D_∧x.2.2.2.2.2.2.2.D_<(x.2.2.2.2.1.length:Int)) (.bnd (x.2.2.2.2.1[x.2.2.2.2.2.2.2.D_.toNat]?) fun y6=>.leaf (.inl ((!y6),s1.1,s1.2)))) (.leaf (.inl (false,s1.1,s1.2)))) fun s2=>.ite s2.1 (.need (0≤x.2.2.2.2.2.2.2.D_∧x.2.2.2.2.2.2.2.D_<(x.2.2.2.2.1.length:Int)) (.bnd (x.2.2.2.2.1[x.2.2.2.2.2.2.2.D_.toNat]?) fun y7=>.ite (decide ((IntKind.i64.wrap ((s2.2.1.length:Int) - (1:Int)))≥(0:Int))) (.need (0≤(IntKind.i64.wrap ((s2.2.1.length:Int) - (1:Int)))∧(IntKind.i64.wrap ((s2.2.1.length:Int) - (1:Int)))<(s2.2.1.length:Int)) (.bnd (s2.2.1[(IntKind.i64.wrap ((s2.2.1.length:Int) - (1:Int))).toNat]?) fun y8=>.bnd (s2.2.1[(IntKind.i64.wrap ((s2.2.1.length:Int) - (1:Int))).toNat]?) fun y9=>.bnd (s2.2.1[(IntKind.i64.wrap ((s2.2.1.length:Int) - (1:Int))).toNat]?) fun y10=>.need ((y9.length+([x.2.2.2.2.2.2.2.D_]:List Int).length) * 8≤140737488355328) (.need (0≤(IntKind.i64.wrap ((s2.2.1.length:Int) - (1:Int)))∧(IntKind.i64.wrap ((s2.2.1.length:Int) - (1:Int)))<(s2.2.1.length:Int)) (.need ((IntKind.i64.wrap ((s2.2.1.length:Int) - (1:Int))).toNat=(IntKind.i64.wrap ((s2.2.1.length:Int) - (1:Int))).toNat∧(IntKind.i64.wrap ((s2.2.1.length:Int) - (1:Int))).toNat<s2.2.1.length) (.leaf (true,x.1,x.2.1,x.2.2.1,x.2.2.2.1,(x.2.2.2.2.1.set x.2.2.2.2.2.2.2.D_.toNat true),(s2.2.1.set ((IntKind.i64.wrap ((s2.2.1.length:Int) - (1:Int))).toNat) (y9++([x.2.2.2.2.2.2.2.D_]:List Int))),s2.2.2)))))) (.leaf (true,x.1,x.2.1,x.2.2.1,x.2.2.2.1,(x.2.2.2.2.1.set x.2.2.2.2.2.2.2.D_.toNat true),s2.2.1,s2.2.2)))) (.leaf (true,x.1,x.2.1,x.2.2.1,x.2.2.2.1,x.2.2.2.2.1,s2.2.1,s2.2.2))) fun (v1:Yab) (z1:Unit)=>.leaf (false,x.1,x.2.1,x.2.2.1,x.2.2.2.1,x.2.2.2.2.1,x.2.2.2.2.2.1,x.2.2.2.2.2.2.1)
noncomputable def k37 (n:Nat):Con P_ Ty_:=zd (X:=Yae) (R:=Yap) (pro:=[200000]) (zzw n) 44 zzx (fun x=>.two .no (.two (.two .no (.two (.loop (Yab) (zuy n x) true ⟨[(0,.ref 200000),(3,.ref 3),(9,.ref 9),(10,.any),(11,.any)],[(200000,.any),(3,.any),(9,.any)]⟩) .no)) (.join (Ycp) (zuz x) ⟨[(0,.ref 200000),(3,.ref 3)],[(200000,.any),(3,.any)]⟩ .no (.two (.join (Ycq) (zv0 x) ⟨[(0,.ref 200000),(3,.ref 3),(57,.any)],[(200000,.any),(3,.any)]⟩ .no .no) .no)))) [.pt 200000,.ag [.any,.any,.any,.any,.any,.any,.any]] [(200000,[.im 1,.im 2,.im 3,.im 4,.ow false 8,.ow true 10,.ow false 9])] [] ⟨[(4,.any)],[(200000,.any)]⟩ [200000] false (fun x=>[.pt 200000 [] 0 0,.ag [I_ x.2.2.2.2.2.2.2.Op_,I_ x.2.2.2.2.2.2.2.D_,I_ x.2.2.2.2.2.2.2.A_,I_ x.2.2.2.2.2.2.2.B_,I_ x.2.2.2.2.2.2.2.C_,I_ x.2.2.2.2.2.2.2.N_,.sc (.int .u32 x.2.2.2.2.2.2.2.Bits_)]]) (fun x=>[(200000,.lit 7 [[.im 1 x.1,.im 2 x.2.1,.im 3 x.2.2.1,.im 4 x.2.2.2.1,.ow false 8 x.2.2.2.2.1,.ow true 10 x.2.2.2.2.2.1,.ow false 9 x.2.2.2.2.2.2.1]])]) (fun y=>([(4,B_ y.1)],[(200000,.lit 7 [[.im 1 y.2.1,.im 2 y.2.2.1,.im 3 y.2.2.2.1,.im 4 y.2.2.2.2.1,.ow false 8 y.2.2.2.2.2.1,.ow true 10 y.2.2.2.2.2.2.1,.ow false 9 y.2.2.2.2.2.2.2]])])) (fun y=>B_ y.1) (fun y=>[(200000,.lit 7 [[.im 1 y.2.1,.im 2 y.2.2.1,.im 3 y.2.2.2.1,.im 4 y.2.2.2.2.1,.ow false 8 y.2.2.2.2.2.1,.ow true 10 y.2.2.2.2.2.2.1,.ow false 9 y.2.2.2.2.2.2.2]])]) (zzy n)
noncomputable def zze (n:Nat):Cx P_ Ty_:=⟨[k28 n,k29 n,k32 n,k35 n,k36 n,k37 n],[(45,false,8)],[],[]⟩
abbrev zzf:List (List Nat):=[[1],[1,4],[1,4,11],[2,3],[1,15],[2,3],[1,26],[2,3],[1,40],[2,3],[1,5],[1,5,49,50,51],[1,5,49,50,51,52],[1,5,6,7,49,50,51],[1,5,6,49,50,51,71],[2,3],[1,5,49,50,51],[1,79],[2,3],[2,3]]
noncomputable def ztj (x:Xe) (p:Bool):EH Ty_:=([(1,.pt 1 [] 0 0),(15,B_ p)],[(1,.lit 4 [[.im 1 x.Sign_,.im 2 x.Regs_,.im 3 x.Slots_,.im 4 x.List_]])])
noncomputable def ztk (x:Xe) (p:Yaj):EH Ty_:=([(1,.pt 1 [] 0 0),(40,B_ p.1)],[(1,.lit 4 [[.im 1 p.2.1,.im 2 p.2.2.1,.im 3 p.2.2.2.1,.im 4 p.2.2.2.2]])])
noncomputable def ztl (x:Xe) (v1:Ybc) (q1:Yax) (p:Yap):EH Ty_:=([(1,.pt 1 [] 0 0),(5,.pt 47 [] 0 0),(6,I_ q1.1),(49,.im 4 v1.1),(50,I_ v1.2.1),(51,I_ q1.1),(71,B_ p.1)],[(1,.lit 4 [[.im 1 v1.2.2.1,.im 2 v1.2.2.2.1,.im 3 v1.2.2.2.2,.im 4 v1.1]]),(47,.lit 7 [[.im 1 p.2.1,.im 2 p.2.2.1,.im 3 p.2.2.2.1,.im 4 p.2.2.2.2.1,.ow false 8 p.2.2.2.2.2.1,.ow true 10 p.2.2.2.2.2.2.1,.ow false 9 p.2.2.2.2.2.2.2]])])
noncomputable def ztm (n:Nat) (x:Xe) (v1:Ybc) (q1:Yax):Pt P_ Ty_ [] (Bo (Yax) (Yax) Int):=.ite (decide (q1.1<v1.2.1)) (.bnd (idx v1.1 q1.1) fun y4=>.join (S:=Yap) (ztl x v1 q1) (.call (k35 n) (q1.2.1,q1.2.2.1,q1.2.2.2.1,q1.2.2.2.2.1,q1.2.2.2.2.2.1,q1.2.2.2.2.2.2.1,q1.2.2.2.2.2.2.2,y4) fun (y5:Yap)=>.ite (!y5.1) (.leaf (.inl (true,y5.2.1,y5.2.2.1,y5.2.2.2.1,y5.2.2.2.2.1,y5.2.2.2.2.2.1,y5.2.2.2.2.2.2.1,y5.2.2.2.2.2.2.2))) (.call (k36 n) (y5.2.1,y5.2.2.1,y5.2.2.2.1,y5.2.2.2.2.1,y5.2.2.2.2.2.1,y5.2.2.2.2.2.2.1,y5.2.2.2.2.2.2.2,y4) fun (y6:Yap)=>.ite (!y6.1) (.leaf (.inl (true,y6.2.1,y6.2.2.1,y6.2.2.2.1,y6.2.2.2.2.1,y6.2.2.2.2.2.1,y6.2.2.2.2.2.2.1,y6.2.2.2.2.2.2.2))) (.call (k37 n) (y6.2.1,y6.2.2.1,y6.2.2.2.1,y6.2.2.2.2.1,y6.2.2.2.2.2.1,y6.2.2.2.2.2.2.1,y6.2.2.2.2.2.2.2,y4) fun (y7:Yap)=>.leaf (.inl ((!y7.1),y7.2.1,y7.2.2.1,y7.2.2.2.1,y7.2.2.2.2.1,y7.2.2.2.2.2.1,y7.2.2.2.2.2.2.1,y7.2.2.2.2.2.2.2))))) fun s3=>.ite s3.1 (.leaf (.ret q1.1)) (.leaf (.go ((IntKind.i64.wrap (q1.1+(1:Int))),s3.2.1,s3.2.2.1,s3.2.2.2.1,s3.2.2.2.2.1,s3.2.2.2.2.2.1,s3.2.2.2.2.2.2.1,s3.2.2.2.2.2.2.2)))) (.leaf (.out (q1.1,q1.2.1,q1.2.2.1,q1.2.2.2.1,q1.2.2.2.2.1,q1.2.2.2.2.2.1,q1.2.2.2.2.2.2.1,q1.2.2.2.2.2.2.2)))
noncomputable def zti (n:Nat) (x:Xe) (v1:Ybc):LCon P_ Ty_ []:=lcon (X:=Yax) (Y:=Yax) (Z:=Int) (zze n) (subC [1,1,1,1,0,1,0,0] (fnC P_ 23 zzf)) (fun q1=>.two .no (.two .no (.two (.two (.two .no (.join (Yap) (ztl x v1 q1) ⟨[(1,.ref 1),(5,.ref 47),(6,.any),(49,.im 4),(50,.any),(51,.any),(71,.any)],[(1,.any),(47,.any)]⟩ .no .no)) .no) .no))) 1 true ⟨[(1,.ref 1),(5,.ref 47),(49,.im 4),(50,.any),(51,.any)],[(1,.any),(47,.fix [.no,.no,.no,.no,.no,.ow true 10,.ow false 9])]⟩ ⟨[(1,.ref 1),(5,.ref 47),(49,.im 4),(50,.any),(51,.any),(52,.any)],[(1,.any),(47,.any)]⟩ ⟨[(2,.any),(3,.any)],[]⟩ (fun q1=>([(1,.pt 1 [] 0 0),(5,.pt 47 [] 0 0),(49,.im 4 v1.1),(50,I_ v1.2.1),(51,I_ q1.1)],[(1,.lit 4 [[.im 1 v1.2.2.1,.im 2 v1.2.2.2.1,.im 3 v1.2.2.2.2,.im 4 v1.1]]),(47,.lit 7 [[.im 1 q1.2.1,.im 2 q1.2.2.1,.im 3 q1.2.2.2.1,.im 4 q1.2.2.2.2.1,.ow false 8 q1.2.2.2.2.2.1,.ow true 10 q1.2.2.2.2.2.2.1,.ow false 9 q1.2.2.2.2.2.2.2]])])) (fun p=>([(1,.pt 1 [] 0 0),(5,.pt 47 [] 0 0),(49,.im 4 v1.1),(50,I_ v1.2.1),(51,I_ p.1),(52,B_ false)],[(1,.lit 4 [[.im 1 v1.2.2.1,.im 2 v1.2.2.2.1,.im 3 v1.2.2.2.2,.im 4 v1.1]]),(47,.lit 7 [[.im 1 p.2.1,.im 2 p.2.2.1,.im 3 p.2.2.2.1,.im 4 p.2.2.2.2.1,.ow false 8 p.2.2.2.2.2.1,.ow true 10 p.2.2.2.2.2.2.1,.ow false 9 p.2.2.2.2.2.2.2]])])) (fun p=>([(2,I_ (160:Int)),(3,I_ p)],[])) n (ztm n x v1)
noncomputable def zzg (n:Nat) (x:Xe):Pt P_ Ty_ [] (Yaa):=.call (k28 n) x.Sign_ fun (y1:Int)=>.ite (y1 != (0:Int)) (.leaf (y1,(-1:Int))) (.join (S:=Bool) (ztj x) (.ite (decide ((x.Regs_.length:Int) > (16384:Int))) (.leaf (.inl true)) (.leaf (.inl (decide ((x.List_.length:Int) > (32768:Int)))))) fun s1=>.ite s1 (.leaf ((181:Int),(-1:Int))) (.ite (decide ((x.Slots_.length:Int) > (4096:Int))) (.leaf ((180:Int),(-1:Int))) (.join (S:=Yaj) (ztk x) (.call (k29 n) (x.Regs_,x.Sign_,x.Regs_,x.Slots_,x.List_) fun (y2:Yaj)=>.ite y2.1 (.leaf (.inl (true,y2.2.1,y2.2.2.1,y2.2.2.2.1,y2.2.2.2.2))) (.call (k32 n) (y2.2.2.2.1,y2.2.1,y2.2.2.1,y2.2.2.2.1,y2.2.2.2.2) fun (y3:Yaj)=>.leaf (.inl (y3.1,y3.2.1,y3.2.2.1,y3.2.2.2.1,y3.2.2.2.2)))) fun s2=>.ite s2.1 (.leaf ((160:Int),(-1:Int))) (.need (0≤(s2.2.2.1.length:Int)∧(s2.2.2.1.length:Int) * (1:Int)≤140737488355328) (.loopR (V:=Ybc) (zti n x) (s2.2.2.2.2,(s2.2.2.2.2.length:Int),s2.2.1,s2.2.2.1,s2.2.2.2.1) ((0:Int),s2.2.1,s2.2.2.1,s2.2.2.2.1,s2.2.2.2.2,(List.replicate (s2.2.2.1.length:Int).toNat false),([]:List (List Int)),([]:List Int)) (fun (v1:Ybc) (y8:Yax)=>.ite (decide ((y8.2.2.2.2.2.2.2.length:Int) > (0:Int))) (.leaf ((160:Int),(v1.1.length:Int))) (.leaf ((0:Int),(0:Int)))) fun (v1:Ybc) (z1:Int)=>.leaf ((160:Int),z1))))))
noncomputable def k16 (n:Nat):Con P_ Ty_:=zd (X:=Xe) (R:=Yaa) (pro:=[]) (zze n) 23 zzf (fun x=>.two .no (.two (.two .no (.two (.two .no (.two .no (.join Bool (ztj x) ⟨[(1,.ref 1),(15,.any)],[(1,.any)]⟩ .no .no))) .no)) (.two (.join (Yaj) (ztk x) ⟨[(1,.ref 1),(40,.any)],[(1,.any)]⟩ .no .no) (.two .no (.two (.two .no (.two (.loop (Ybc) (zti n x) true ⟨[(1,.ref 1),(5,.ref 47),(49,.im 4),(50,.any),(51,.any)],[(1,.any),(47,.fix [.no,.no,.no,.no,.no,.ow true 10,.ow false 9])]⟩) .no)) .no))))) [.ag [.im 1,.im 2,.im 3,.im 4]] [] [] ⟨[(2,.any),(3,.any)],[]⟩ [] true (fun x=>[.ag [.im 1 x.Sign_,.im 2 x.Regs_,.im 3 x.Slots_,.im 4 x.List_]]) (fun x=>[]) (fun y=>([(2,I_ y.1),(3,I_ y.2)],[])) (fun y=>.tu [I_ y.1,I_ y.2]) (fun y=>[]) (zzg n)
noncomputable def b193:Code:=(Go.Proofs.Tryz.f45.body).getD .skip
noncomputable def r193:IC:=match z36 Go.Proofs.Tryz.prog 8 (lf (rt (rt b193))) [[2]] with | some (c,_)=>c | none=>.skip
noncomputable abbrev c193:Cx Go.Proofs.Tryz.prog Ty_:=⟨[],[(5,false,1)],[],[]⟩
noncomputable def g193 (_:Nat) (a0:List Xa):Option (List Xa):=need (a0.length * 32≤140737488355328) (some a0)
theorem zpo (n:Nat) (a0:List Xa) (r:List Xa) (hg:g193 n a0=some r):z15 Go.Proofs.Tryz.prog 45 [.im 3 (a0.map (c1 false))] [] (.sl 100000 [] 0 (r.map (c1 false)).length) [(100000,⟨3,r.map (c1 false)⟩)]:=by
 obtain ⟨hl,hr⟩:=z2e hg
 obtain rfl:=Option.some.inj hr
 rw [List.length_map]
 have e:evC (L:=EH Ty_) c193 r193 .no [(0,.im 1 a0)] [] z9t=Raw.need ((([]:List Xa).length+a0.length) * 32≤140737488355328) (.leaf ([(2,.sw 100000 [])],[(100000,.typ false 1 (([]:List Xa)++a0))])):=by kernel_rfl
 exact zaz (T:=Ty_) (ty:=1) (fn:=Go.Proofs.Tryz.f45) (b:=b193) (t:=22) (el:=53) (c3:=.seq r193 .ret) (by kernel_rfl) (by kernel_rfl) (by kernel_rfl) (by kernel_rfl) (by kernel_rfl) ⟨[[0]],[],by kernel_rfl⟩ (by kernel_rfl) (by kernel_rfl) (by kernel_rfl) ⟨[[2]],[],by kernel_rfl⟩ ⟨[[2]],[],by kernel_rfl⟩ (by kernel_rfl) (by kernel_rfl) a0
  (zde (cx:=c193) (by rw [e]; exact ⟨by simpa using hl,rfl⟩))
noncomputable def k193 (n:Nat):Con Go.Proofs.Tryz.prog Ty_ where
 f:=45
 X:=(List Xa)
 Y:=(List Xa)
 A:=[.im 1]
 H:=[]
 N:=[100000]
 encA:=fun x=>[.im 1 x]
 encH:=fun _=>[]
 G:=fun x=>g193 n x
 encR:=fun _=>.sw 100000 []
 encO:=fun y=>[(100000,.typ false 1 y)]
 strong:=true
 ok:=fun x y h=>⟨fun _=>zpo n x y h,z15.toG (zpo n x y h)⟩
noncomputable def b194:Code:=(Go.Proofs.Tryz.f46.body).getD .skip
noncomputable def r194:IC:=match z36 Go.Proofs.Tryz.prog 8 (lf (rt (rt b194))) [[2]] with | some (c,_)=>c | none=>.skip
noncomputable abbrev c194:Cx Go.Proofs.Tryz.prog Ty_:=⟨[],[(5,false,2)],[],[]⟩
noncomputable def g194 (_:Nat) (a0:List Xb):Option (List Xb):=need (a0.length * 16≤140737488355328) (some a0)
theorem zpp (n:Nat) (a0:List Xb) (r:List Xb) (hg:g194 n a0=some r):z15 Go.Proofs.Tryz.prog 46 [.im 2 (a0.map (c2 false))] [] (.sl 100000 [] 0 (r.map (c2 false)).length) [(100000,⟨2,r.map (c2 false)⟩)]:=by
 obtain ⟨hl,hr⟩:=z2e hg
 obtain rfl:=Option.some.inj hr
 rw [List.length_map]
 have e:evC (L:=EH Ty_) c194 r194 .no [(0,.im 2 a0)] [] z9t=Raw.need ((([]:List Xb).length+a0.length) * 16≤140737488355328) (.leaf ([(2,.sw 100000 [])],[(100000,.typ false 2 (([]:List Xb)++a0))])):=by kernel_rfl
 exact zaz (T:=Ty_) (ty:=2) (fn:=Go.Proofs.Tryz.f46) (b:=b194) (t:=23) (el:=47) (c3:=.seq r194 .ret) (by kernel_rfl) (by kernel_rfl) (by kernel_rfl) (by kernel_rfl) (by kernel_rfl) ⟨[[0]],[],by kernel_rfl⟩ (by kernel_rfl) (by kernel_rfl) (by kernel_rfl) ⟨[[2]],[],by kernel_rfl⟩ ⟨[[2]],[],by kernel_rfl⟩ (by kernel_rfl) (by kernel_rfl) a0
  (zde (cx:=c194) (by rw [e]; exact ⟨by simpa using hl,rfl⟩))
noncomputable def k194 (n:Nat):Con Go.Proofs.Tryz.prog Ty_ where
 f:=46
 X:=(List Xb)
 Y:=(List Xb)
 A:=[.im 2]
 H:=[]
 N:=[100000]
 encA:=fun x=>[.im 2 x]
 encH:=fun _=>[]
 G:=fun x=>g194 n x
 encR:=fun _=>.sw 100000 []
 encO:=fun y=>[(100000,.typ false 2 y)]
 strong:=true
 ok:=fun x y h=>⟨fun _=>zpp n x y h,z15.toG (zpp n x y h)⟩
noncomputable def b195:Code:=(Go.Proofs.Tryz.f47.body).getD .skip
noncomputable def r195:IC:=match z36 Go.Proofs.Tryz.prog 8 (lf (rt (rt b195))) [[2]] with | some (c,_)=>c | none=>.skip
noncomputable abbrev c195:Cx Go.Proofs.Tryz.prog Ty_:=⟨[],[(5,false,3)],[],[]⟩
noncomputable def g195 (_:Nat) (a0:List Xc):Option (List Xc):=need (a0.length * 32≤140737488355328) (some a0)
theorem zpq (n:Nat) (a0:List Xc) (r:List Xc) (hg:g195 n a0=some r):z15 Go.Proofs.Tryz.prog 47 [.im 5 (a0.map (c3 false))] [] (.sl 100000 [] 0 (r.map (c3 false)).length) [(100000,⟨5,r.map (c3 false)⟩)]:=by
 obtain ⟨hl,hr⟩:=z2e hg
 obtain rfl:=Option.some.inj hr
 rw [List.length_map]
 have e:evC (L:=EH Ty_) c195 r195 .no [(0,.im 3 a0)] [] z9t=Raw.need ((([]:List Xc).length+a0.length) * 32≤140737488355328) (.leaf ([(2,.sw 100000 [])],[(100000,.typ false 3 (([]:List Xc)++a0))])):=by kernel_rfl
 exact zaz (T:=Ty_) (ty:=3) (fn:=Go.Proofs.Tryz.f47) (b:=b195) (t:=24) (el:=49) (c3:=.seq r195 .ret) (by kernel_rfl) (by kernel_rfl) (by kernel_rfl) (by kernel_rfl) (by kernel_rfl) ⟨[[0]],[],by kernel_rfl⟩ (by kernel_rfl) (by kernel_rfl) (by kernel_rfl) ⟨[[2]],[],by kernel_rfl⟩ ⟨[[2]],[],by kernel_rfl⟩ (by kernel_rfl) (by kernel_rfl) a0
  (zde (cx:=c195) (by rw [e]; exact ⟨by simpa using hl,rfl⟩))
noncomputable def k195 (n:Nat):Con Go.Proofs.Tryz.prog Ty_ where
 f:=47
 X:=(List Xc)
 Y:=(List Xc)
 A:=[.im 3]
 H:=[]
 N:=[100000]
 encA:=fun x=>[.im 3 x]
 encH:=fun _=>[]
 G:=fun x=>g195 n x
 encR:=fun _=>.sw 100000 []
 encO:=fun y=>[(100000,.typ false 3 y)]
 strong:=true
 ok:=fun x y h=>⟨fun _=>zpq n x y h,z15.toG (zpq n x y h)⟩
noncomputable def b196:Code:=(Go.Proofs.Tryz.f48.body).getD .skip
noncomputable def r196:IC:=match z36 Go.Proofs.Tryz.prog 8 (lf (rt (rt b196))) [[2]] with | some (c,_)=>c | none=>.skip
noncomputable abbrev c196:Cx Go.Proofs.Tryz.prog Ty_:=⟨[],[(5,false,4)],[],[]⟩
noncomputable def g196 (_:Nat) (a0:List Xd):Option (List Xd):=need (a0.length * 56≤140737488355328) (some a0)
theorem zpr (n:Nat) (a0:List Xd) (r:List Xd) (hg:g196 n a0=some r):z15 Go.Proofs.Tryz.prog 48 [.im 7 (a0.map (c4 false))] [] (.sl 100000 [] 0 (r.map (c4 false)).length) [(100000,⟨7,r.map (c4 false)⟩)]:=by
 obtain ⟨hl,hr⟩:=z2e hg
 obtain rfl:=Option.some.inj hr
 rw [List.length_map]
 have e:evC (L:=EH Ty_) c196 r196 .no [(0,.im 4 a0)] [] z9t=Raw.need ((([]:List Xd).length+a0.length) * 56≤140737488355328) (.leaf ([(2,.sw 100000 [])],[(100000,.typ false 4 (([]:List Xd)++a0))])):=by kernel_rfl
 exact zaz (T:=Ty_) (ty:=4) (fn:=Go.Proofs.Tryz.f48) (b:=b196) (t:=25) (el:=45) (c3:=.seq r196 .ret) (by kernel_rfl) (by kernel_rfl) (by kernel_rfl) (by kernel_rfl) (by kernel_rfl) ⟨[[0]],[],by kernel_rfl⟩ (by kernel_rfl) (by kernel_rfl) (by kernel_rfl) ⟨[[2]],[],by kernel_rfl⟩ ⟨[[2]],[],by kernel_rfl⟩ (by kernel_rfl) (by kernel_rfl) a0
  (zde (cx:=c196) (by rw [e]; exact ⟨by simpa using hl,rfl⟩))
noncomputable def k196 (n:Nat):Con Go.Proofs.Tryz.prog Ty_ where
 f:=48
 X:=(List Xd)
 Y:=(List Xd)
 A:=[.im 4]
 H:=[]
 N:=[100000]
 encA:=fun x=>[.im 4 x]
 encH:=fun _=>[]
 G:=fun x=>g196 n x
 encR:=fun _=>.sw 100000 []
 encO:=fun y=>[(100000,.typ false 4 y)]
 strong:=true
 ok:=fun x y h=>⟨fun _=>zpr n x y h,z15.toG (zpr n x y h)⟩
noncomputable def y6h (n:Nat):Cx P_ Ty_:=⟨[k193 n,k194 n,k195 n,k196 n],[],[],[]⟩
abbrev y6i:List (List Nat):=[[1,2],[2]]
noncomputable def zt4 (n:Nat) (x:Xe):Pt P_ Ty_ [] (Yao):=.call (k193 n) x.Sign_ fun (y1:(List Xa))=>.call (k194 n) x.Regs_ fun (y2:(List Xb))=>.call (k195 n) x.Slots_ fun (y3:(List Xc))=>.call (k196 n) x.List_ fun (y4:(List Xd))=>.leaf (y1,y2,y3,y4)
noncomputable def k144 (n:Nat):Con P_ Ty_:=zd (X:=Xe) (R:=Yao) (pro:=[]) (y6h n) 24 y6i (fun x=>.no) [.ag [.im 1,.im 2,.im 3,.im 4]] [] [100000] ⟨[(2,.ref 100000)],[(100000,.any)]⟩ [100000] true (fun x=>[.ag [.im 1 x.Sign_,.im 2 x.Regs_,.im 3 x.Slots_,.im 4 x.List_]]) (fun x=>[]) (fun y=>([(2,.pt 100000 [] 0 0)],[(100000,.lit 4 [[.ow false 1 y.1,.ow false 2 y.2.1,.ow false 3 y.2.2.1,.ow false 4 y.2.2.2]])])) (fun y=>.ag [.sw 100000 [(0,0)],.sw 100000 [(0,1)],.sw 100000 [(0,2)],.sw 100000 [(0,3)]]) (fun y=>[(100000,.lit 4 [[.ow false 1 y.1,.ow false 2 y.2.1,.ow false 3 y.2.2.1,.ow false 4 y.2.2.2]])]) (zt4 n)
noncomputable def y6m (n:Nat):Cx P_ Ty_:=⟨[k13 n],[],[],[]⟩
abbrev y6n:List (List Nat):=[[2,3],[2,3,6],[2,3,6,9],[2,3,6,9],[2,3,6,9],[2,3,6,9],[2,3,22],[2,3,22],[2,6],[4,5],[4,5]]
noncomputable def znz (x:Yah) (p:Bool):EH Ty_:=([(2,.pt 2 [] 0 0),(3,.pt 3 [] 0 0),(6,I_ x.2.D_),(9,B_ p)],[(2,.lit 4 [[.im 1 x.1.Sign_,.im 2 x.1.Regs_,.im 3 x.1.Slots_,.im 4 x.1.List_]]),(3,.lit 7 [[I_ x.2.Op_,I_ x.2.D_,I_ x.2.A_,I_ x.2.B_,I_ x.2.C_,I_ x.2.N_,.sc (.int .u32 x.2.Bits_)]])])
noncomputable def zo0 (x:Yah) (p:Bool):EH Ty_:=([(2,.pt 2 [] 0 0),(3,.pt 3 [] 0 0),(22,B_ p)],[(2,.lit 4 [[.im 1 x.1.Sign_,.im 2 x.1.Regs_,.im 3 x.1.Slots_,.im 4 x.1.List_]]),(3,.lit 7 [[I_ x.2.Op_,I_ x.2.D_,I_ x.2.A_,I_ x.2.B_,I_ x.2.C_,I_ x.2.N_,.sc (.int .u32 x.2.Bits_)]])])
noncomputable def zo1 (x:Yah) (p:Int):EH Ty_:=([(2,.pt 2 [] 0 0),(6,I_ p)],[(2,.lit 4 [[.im 1 x.1.Sign_,.im 2 x.1.Regs_,.im 3 x.1.Slots_,.im 4 x.1.List_]])])
noncomputable def zt5 (n:Nat) (x:Yah):Pt P_ Ty_ [] (Yag):=.join (S:=Int) (zo1 x) (.join (S:=Bool) (znz x) (.call (k13 n) x.2.Op_ fun (y1:Bool)=>.ite y1 (.leaf (.inl true)) (.ite (x.2.Op_==29) (.leaf (.inl true)) (.ite (x.2.Op_==30) (.leaf (.inl true)) (.leaf (.inl (x.2.Op_==32)))))) fun s1=>.ite s1 (.leaf (.inl x.2.D_)) (.join (S:=Bool) (zo0 x) (.ite (x.2.Op_==31) (.leaf (.inl true)) (.leaf (.inl (x.2.Op_==33)))) fun s2=>.ite s2 (.leaf (.inl x.2.A_)) (.leaf (.inr ((0:Int),false))))) fun s3=>.bnd (idx x.1.Regs_ s3) fun y2=>.bnd (idx x.1.Regs_ s3) fun y3=>.leaf (y2.Param_,(y3.Kind_==3))
noncomputable def k146 (n:Nat):Con P_ Ty_:=zd (X:=Yah) (R:=Yag) (pro:=[]) (y6m n) 26 y6n (fun x=>.two .no (.two .no (.join Int (zo1 x) ⟨[(2,.ref 2),(6,.any)],[(2,.any)]⟩ (.two (.join Bool (znz x) ⟨[(2,.ref 2),(3,.ref 3),(6,.any),(9,.any)],[(2,.any),(3,.any)]⟩ .no (.two .no (.join Bool (zo0 x) ⟨[(2,.ref 2),(3,.ref 3),(22,.any)],[(2,.any),(3,.any)]⟩ .no .no))) .no) .no))) [.ag [.im 1,.im 2,.im 3,.im 4],.ag [.any,.any,.any,.any,.any,.any,.any]] [] [] ⟨[(4,.any),(5,.any)],[]⟩ [] true (fun x=>[.ag [.im 1 x.1.Sign_,.im 2 x.1.Regs_,.im 3 x.1.Slots_,.im 4 x.1.List_],.ag [I_ x.2.Op_,I_ x.2.D_,I_ x.2.A_,I_ x.2.B_,I_ x.2.C_,I_ x.2.N_,.sc (.int .u32 x.2.Bits_)]]) (fun x=>[]) (fun y=>([(4,I_ y.1),(5,B_ y.2)],[])) (fun y=>.tu [I_ y.1,B_ y.2]) (fun y=>[]) (zt5 n)
noncomputable def y6j (n:Nat):Cx P_ Ty_:=⟨[],[(7,false,4),(8,false,4)],[],[]⟩
abbrev y6k:List (List Nat):=[[0,1,3],[0],[]]
noncomputable def y6l (n:Nat) (x:Ycz):Pt P_ Ty_ [200000,200001] (Yac):=.ite (decide (x.1≥(0:Int))) (.need (([(⟨(37:Int),(0:Int),(0:Int),(0:Int),(0:Int),(0:Int),(0:Int)⟩:Xd)]:List Xd).length * 56≤140737488355328) (.leaf ((-1:Int),x.2.1,x.2.2.1,x.2.2.2,([(⟨(37:Int),(0:Int),(0:Int),(0:Int),(0:Int),(0:Int),(0:Int)⟩:Xd)]:List Xd)))) (.leaf (x.1,x.2.1,x.2.2.1,x.2.2.2,([]:List Xd)))
noncomputable def k145 (n:Nat):Con P_ Ty_:=zd (X:=Ycz) (R:=Yac) (pro:=[200000,200001]) (y6j n) 25 y6k (fun x=>.no) [.pt 200000,.pt 200001] [(200001,[.ow false 1,.ow false 2,.ow false 3,.no])] [] ⟨[],[(200000,.any),(200001,.fix [.no,.no,.no,.ow false 4])]⟩ [200000,200001] true (fun x=>[.pt 200000 [] 0 0,.pt 200001 [] 0 0]) (fun x=>[(200000,.lit 1 [[I_ x.1]]),(200001,.lit 4 [[.ow false 1 x.2.1,.ow false 2 x.2.2.1,.ow false 3 x.2.2.2,.zs]])]) (fun y=>([],[(200000,.lit 1 [[I_ y.1]]),(200001,.lit 4 [[.ow false 1 y.2.1,.ow false 2 y.2.2.1,.ow false 3 y.2.2.2.1,.ow false 4 y.2.2.2.2]])])) (fun y=>.tu []) (fun y=>[(200000,.lit 1 [[I_ y.1]]),(200001,.lit 4 [[.ow false 1 y.2.1,.ow false 2 y.2.2.1,.ow false 3 y.2.2.2.1,.ow false 4 y.2.2.2.2]])]) (y6l n)
noncomputable def zy3 (n:Nat):Cx P_ Ty_:=⟨[],[(7,false,4)],[],[]⟩
abbrev zy4:List (List Nat):=[[0,1,3],[0],[]]
noncomputable def zkl (n:Nat) (x:Yac):Pt P_ Ty_ [200000,200001] (Yac):=.ite (decide (x.1≥(0:Int))) (.need ((x.2.2.2.2.length+([(⟨(37:Int),(0:Int),(0:Int),(0:Int),(0:Int),(0:Int),(0:Int)⟩:Xd)]:List Xd).length) * 56≤140737488355328) (.leaf ((-1:Int),x.2.1,x.2.2.1,x.2.2.2.1,(x.2.2.2.2++([(⟨(37:Int),(0:Int),(0:Int),(0:Int),(0:Int),(0:Int),(0:Int)⟩:Xd)]:List Xd))))) (.leaf (x.1,x.2.1,x.2.2.1,x.2.2.2.1,x.2.2.2.2))
noncomputable def zm1 (n:Nat):Con P_ Ty_:=zd (X:=Yac) (R:=Yac) (pro:=[200000,200001]) (zy3 n) 25 zy4 (fun x=>.no) [.pt 200000,.pt 200001] [(200001,[.ow false 1,.ow false 2,.ow false 3,.ow false 4])] [] ⟨[],[(200000,.any),(200001,.any)]⟩ [200000,200001] true (fun x=>[.pt 200000 [] 0 0,.pt 200001 [] 0 0]) (fun x=>[(200000,.lit 1 [[I_ x.1]]),(200001,.lit 4 [[.ow false 1 x.2.1,.ow false 2 x.2.2.1,.ow false 3 x.2.2.2.1,.ow false 4 x.2.2.2.2]])]) (fun y=>([],[(200000,.lit 1 [[I_ y.1]]),(200001,.lit 4 [[.ow false 1 y.2.1,.ow false 2 y.2.2.1,.ow false 3 y.2.2.2.1,.ow false 4 y.2.2.2.2]])])) (fun y=>.tu []) (fun y=>[(200000,.lit 1 [[I_ y.1]]),(200001,.lit 4 [[.ow false 1 y.2.1,.ow false 2 y.2.2.1,.ow false 3 y.2.2.2.1,.ow false 4 y.2.2.2.2]])]) (zkl n)
noncomputable def zsr (n:Nat):Cx P_ Ty_:=⟨[k16 n,k144 n,k146 n,zm1 n],[(65,false,4),(86,false,4)],[],[]⟩
abbrev zss:List (List Nat):=[[1,2],[1,2,4],[1,2,20],[2,3],[1,2,6],[1,2,6],[1,2,6,7,8],[1,2,6,7,8,9],[1,2,6,7,8,9,27,28,29],[1,2,6,7,8,9,27,28,29,30],[1,2,6,7,8,9,11,27,28,29],[1,2,6,7,8,9,11,27,28,29,40],[1,2,6,7,8,9,11,12,13,27,28,29],[1,2,6,7,8,9,11,12,13,27,28,29,53],[1,2,6,7,8,9,11,12,13,27,28,29],[1,2,6,7,8,9,11,12,27,28,29,60],[1,2,6,7,8,9,11,12,27,28,29],[1,2,6,7,8,9,11,27,28,29],[1,2,6,7,8,9,11,27,28,29,70],[1,2,6,7,8,9,11,27,28,29,70,71],[1,2,6,7,8,9,11,27,28,29],[1,2,6,7,8,9,11,27,28,29,76],[2,3],[1,2,6,7,8,9,11,27,28,29,79],[1,2,6,7,8,9,11,27,28,29],[1,2,6,7,8,9,27,28,29],[1,2,6,7,8,9,27,28,29],[1,2,6],[1,2,6,95],[2,3],[2,3]]
noncomputable def znh (x:Xe) (v1:Unit) (q1:Yak) (p:Ybs):EH Ty_:=([(1,.pt 1 [] 0 0),(2,.pt 2 [] 0 0),(6,.pt 6 [] 0 0),(7,.pt 7 [] 0 0),(8,I_ q1.1),(9,.fn 25 [.pt 7 [] 0 0,.pt 6 [] 0 0]),(11,.pt 11 [] 0 0),(27,.im 4 x.List_),(28,I_ (x.List_.length:Int)),(29,I_ q1.2.1),(40,B_ p.1)],[(1,.lit 4 [[.im 1 x.Sign_,.im 2 x.Regs_,.im 3 x.Slots_,.im 4 x.List_]]),(2,.lit 4 [[.zs,.zs,.zs,.zs]]),(6,.lit 4 [[.ow false 1 q1.2.2.1,.ow false 2 q1.2.2.2.1,.ow false 3 q1.2.2.2.2.1,.ow false 4 q1.2.2.2.2.2.1]]),(7,.lit 1 [[I_ q1.2.2.2.2.2.2]]),(11,.lit 7 [[I_ p.2.1,I_ p.2.2.1,I_ p.2.2.2.1,I_ p.2.2.2.2.1,I_ p.2.2.2.2.2.1,I_ p.2.2.2.2.2.2.1,.sc (.int .u32 p.2.2.2.2.2.2.2)]])])
noncomputable def zni (x:Xe) (v1:Unit) (q1:Yak) (p:Ycr):EH Ty_:=([(1,.pt 1 [] 0 0),(2,.pt 2 [] 0 0),(6,.pt 6 [] 0 0),(7,.pt 7 [] 0 0),(8,I_ q1.1),(9,.fn 25 [.pt 7 [] 0 0,.pt 6 [] 0 0]),(11,.pt 11 [] 0 0),(12,I_ p.1),(13,B_ p.2.1),(27,.im 4 x.List_),(28,I_ (x.List_.length:Int)),(29,I_ q1.2.1),(53,B_ p.2.2.1)],[(1,.lit 4 [[.im 1 x.Sign_,.im 2 x.Regs_,.im 3 x.Slots_,.im 4 x.List_]]),(2,.lit 4 [[.zs,.zs,.zs,.zs]]),(6,.lit 4 [[.ow false 1 q1.2.2.1,.ow false 2 q1.2.2.2.1,.ow false 3 q1.2.2.2.2.1,.ow false 4 q1.2.2.2.2.2.1]]),(7,.lit 1 [[I_ q1.2.2.2.2.2.2]]),(11,.lit 7 [[I_ p.2.2.2.1,I_ p.2.2.2.2.1,I_ p.2.2.2.2.2.1,I_ p.2.2.2.2.2.2.1,I_ p.2.2.2.2.2.2.2.1,I_ p.2.2.2.2.2.2.2.2.1,.sc (.int .u32 p.2.2.2.2.2.2.2.2.2)]])])
noncomputable def znj (x:Xe) (v1:Unit) (q1:Yak) (p:Ybt):EH Ty_:=([(1,.pt 1 [] 0 0),(2,.pt 2 [] 0 0),(6,.pt 6 [] 0 0),(7,.pt 7 [] 0 0),(8,I_ q1.1),(9,.fn 25 [.pt 7 [] 0 0,.pt 6 [] 0 0]),(11,.pt 11 [] 0 0),(12,I_ p.1),(13,B_ p.2.1),(27,.im 4 x.List_),(28,I_ (x.List_.length:Int)),(29,I_ q1.2.1)],[(1,.lit 4 [[.im 1 x.Sign_,.im 2 x.Regs_,.im 3 x.Slots_,.im 4 x.List_]]),(2,.lit 4 [[.zs,.zs,.zs,.zs]]),(6,.lit 4 [[.ow false 1 p.2.2.1,.ow false 2 p.2.2.2.1,.ow false 3 p.2.2.2.2.1,.ow false 4 p.2.2.2.2.2.1]]),(7,.lit 1 [[I_ p.2.2.2.2.2.2.1]]),(11,.lit 7 [[I_ p.2.2.2.2.2.2.2.1,I_ p.2.2.2.2.2.2.2.2.1,I_ p.2.2.2.2.2.2.2.2.2.1,I_ p.2.2.2.2.2.2.2.2.2.2.1,I_ p.2.2.2.2.2.2.2.2.2.2.2.1,I_ p.2.2.2.2.2.2.2.2.2.2.2.2.1,.sc (.int .u32 p.2.2.2.2.2.2.2.2.2.2.2.2.2)]])])
noncomputable def znk (x:Xe) (v1:Unit) (q1:Yak) (p:Ybt):EH Ty_:=([(1,.pt 1 [] 0 0),(2,.pt 2 [] 0 0),(6,.pt 6 [] 0 0),(7,.pt 7 [] 0 0),(8,I_ q1.1),(9,.fn 25 [.pt 7 [] 0 0,.pt 6 [] 0 0]),(11,.pt 11 [] 0 0),(12,I_ p.1),(27,.im 4 x.List_),(28,I_ (x.List_.length:Int)),(29,I_ q1.2.1),(60,B_ p.2.1)],[(1,.lit 4 [[.im 1 x.Sign_,.im 2 x.Regs_,.im 3 x.Slots_,.im 4 x.List_]]),(2,.lit 4 [[.zs,.zs,.zs,.zs]]),(6,.lit 4 [[.ow false 1 p.2.2.1,.ow false 2 p.2.2.2.1,.ow false 3 p.2.2.2.2.1,.ow false 4 p.2.2.2.2.2.1]]),(7,.lit 1 [[I_ p.2.2.2.2.2.2.1]]),(11,.lit 7 [[I_ p.2.2.2.2.2.2.2.1,I_ p.2.2.2.2.2.2.2.2.1,I_ p.2.2.2.2.2.2.2.2.2.1,I_ p.2.2.2.2.2.2.2.2.2.2.1,I_ p.2.2.2.2.2.2.2.2.2.2.2.1,I_ p.2.2.2.2.2.2.2.2.2.2.2.2.1,.sc (.int .u32 p.2.2.2.2.2.2.2.2.2.2.2.2.2)]])])
noncomputable def znl (x:Xe) (v1:Unit) (q1:Yak) (p:Ycs):EH Ty_:=([(1,.pt 1 [] 0 0),(2,.pt 2 [] 0 0),(6,.pt 6 [] 0 0),(7,.pt 7 [] 0 0),(8,I_ q1.1),(9,.fn 25 [.pt 7 [] 0 0,.pt 6 [] 0 0]),(11,.pt 11 [] 0 0),(27,.im 4 x.List_),(28,I_ (x.List_.length:Int)),(29,I_ q1.2.1)],[(1,.lit 4 [[.im 1 x.Sign_,.im 2 x.Regs_,.im 3 x.Slots_,.im 4 x.List_]]),(2,.lit 4 [[.zs,.zs,.zs,.zs]]),(6,.lit 4 [[.ow false 1 p.1,.ow false 2 p.2.1,.ow false 3 p.2.2.1,.ow false 4 p.2.2.2.1]]),(7,.lit 1 [[I_ p.2.2.2.2.1]]),(11,.lit 7 [[I_ p.2.2.2.2.2.1,I_ p.2.2.2.2.2.2.1,I_ p.2.2.2.2.2.2.2.1,I_ p.2.2.2.2.2.2.2.2.1,I_ p.2.2.2.2.2.2.2.2.2.1,I_ p.2.2.2.2.2.2.2.2.2.2.1,.sc (.int .u32 p.2.2.2.2.2.2.2.2.2.2.2)]])])
noncomputable def znm (x:Xe) (v1:Unit) (q1:Yak) (p:Yce):EH Ty_:=([(1,.pt 1 [] 0 0),(2,.pt 2 [] 0 0),(6,.pt 6 [] 0 0),(7,.pt 7 [] 0 0),(8,I_ p.1),(9,.fn 25 [.pt 7 [] 0 0,.pt 6 [] 0 0]),(11,.pt 11 [] 0 0),(27,.im 4 x.List_),(28,I_ (x.List_.length:Int)),(29,I_ q1.2.1)],[(1,.lit 4 [[.im 1 x.Sign_,.im 2 x.Regs_,.im 3 x.Slots_,.im 4 x.List_]]),(2,.lit 4 [[.zs,.zs,.zs,.zs]]),(6,.lit 4 [[.ow false 1 p.2.1,.ow false 2 p.2.2.1,.ow false 3 p.2.2.2.1,.ow false 4 p.2.2.2.2.1]]),(7,.lit 1 [[I_ p.2.2.2.2.2.1]]),(11,.lit 7 [[I_ p.2.2.2.2.2.2.1,I_ p.2.2.2.2.2.2.2.1,I_ p.2.2.2.2.2.2.2.2.1,I_ p.2.2.2.2.2.2.2.2.2.1,I_ p.2.2.2.2.2.2.2.2.2.2.1,I_ p.2.2.2.2.2.2.2.2.2.2.2.1,.sc (.int .u32 p.2.2.2.2.2.2.2.2.2.2.2.2)]])])
noncomputable def znn (n:Nat) (x:Xe) (v1:Unit) (q1:Yak):Pt P_ Ty_ [] (Bo (Yak) (Yak) (Yao)):=.ite (decide (q1.2.1<(x.List_.length:Int))) (.bnd (idx x.List_ q1.2.1) fun y3=>.join (S:=Ybs) (znh x v1 q1) (.ite (y3.Op_==36) (.leaf (.inl (true,y3.Op_,y3.D_,y3.A_,y3.B_,y3.C_,y3.N_,y3.Bits_))) (.leaf (.inl ((y3.Op_==37),y3.Op_,y3.D_,y3.A_,y3.B_,y3.C_,y3.N_,y3.Bits_)))) fun s1=>.ite s1.1 (.leaf (.go (q1.1,(IntKind.i64.wrap (q1.2.1+(1:Int))),q1.2.2.1,q1.2.2.2.1,q1.2.2.2.2.1,q1.2.2.2.2.2.1,q1.2.2.2.2.2.2))) (.call (k146 n) (x,(⟨s1.2.1,s1.2.2.1,s1.2.2.2.1,s1.2.2.2.2.1,s1.2.2.2.2.2.1,s1.2.2.2.2.2.2.1,s1.2.2.2.2.2.2.2⟩:Xd)) fun (y4:Yag)=>.join (S:=Ybt) (znj x v1 q1) (.join (S:=Ycr) (zni x v1 q1) (.ite (!y4.2) (.leaf (.inl (y4.1,y4.2,true,s1.2.1,s1.2.2.1,s1.2.2.2.1,s1.2.2.2.2.1,s1.2.2.2.2.2.1,s1.2.2.2.2.2.2.1,s1.2.2.2.2.2.2.2))) (.leaf (.inl (y4.1,y4.2,(y4.1 != q1.2.2.2.2.2.2),s1.2.1,s1.2.2.1,s1.2.2.2.1,s1.2.2.2.2.1,s1.2.2.2.2.2.1,s1.2.2.2.2.2.2.1,s1.2.2.2.2.2.2.2)))) fun s2=>.ite s2.2.2.1 (.call (zm1 n) (q1.2.2.2.2.2.2,q1.2.2.1,q1.2.2.2.1,q1.2.2.2.2.1,q1.2.2.2.2.2.1) fun (y5:Yac)=>.leaf (.inl (s2.1,s2.2.1,y5.2.1,y5.2.2.1,y5.2.2.2.1,y5.2.2.2.2,y5.1,s2.2.2.2.1,s2.2.2.2.2.1,s2.2.2.2.2.2.1,s2.2.2.2.2.2.2.1,s2.2.2.2.2.2.2.2.1,s2.2.2.2.2.2.2.2.2.1,s2.2.2.2.2.2.2.2.2.2))) (.leaf (.inl (s2.1,s2.2.1,q1.2.2.1,q1.2.2.2.1,q1.2.2.2.2.1,q1.2.2.2.2.2.1,q1.2.2.2.2.2.2,s2.2.2.2.1,s2.2.2.2.2.1,s2.2.2.2.2.2.1,s2.2.2.2.2.2.2.1,s2.2.2.2.2.2.2.2.1,s2.2.2.2.2.2.2.2.2.1,s2.2.2.2.2.2.2.2.2.2)))) fun s3=>.join (S:=Ycs) (znl x v1 q1) (.join (S:=Ybt) (znk x v1 q1) (.ite s3.2.1 (.leaf (.inl (s3.1,(decide (s3.2.2.2.2.2.2.1<(0:Int))),s3.2.2.1,s3.2.2.2.1,s3.2.2.2.2.1,s3.2.2.2.2.2.1,s3.2.2.2.2.2.2.1,s3.2.2.2.2.2.2.2.1,s3.2.2.2.2.2.2.2.2.1,s3.2.2.2.2.2.2.2.2.2.1,s3.2.2.2.2.2.2.2.2.2.2.1,s3.2.2.2.2.2.2.2.2.2.2.2.1,s3.2.2.2.2.2.2.2.2.2.2.2.2.1,s3.2.2.2.2.2.2.2.2.2.2.2.2.2))) (.leaf (.inl (s3.1,false,s3.2.2.1,s3.2.2.2.1,s3.2.2.2.2.1,s3.2.2.2.2.2.1,s3.2.2.2.2.2.2.1,s3.2.2.2.2.2.2.2.1,s3.2.2.2.2.2.2.2.2.1,s3.2.2.2.2.2.2.2.2.2.1,s3.2.2.2.2.2.2.2.2.2.2.1,s3.2.2.2.2.2.2.2.2.2.2.2.1,s3.2.2.2.2.2.2.2.2.2.2.2.2.1,s3.2.2.2.2.2.2.2.2.2.2.2.2.2)))) fun s4=>.ite s4.2.1 (.need ((s4.2.2.2.2.2.1.length+([(⟨(36:Int),(0:Int),(0:Int),(0:Int),(0:Int),s4.1,(0:Int)⟩:Xd)]:List Xd).length) * 56≤140737488355328) (.leaf (.inl (s4.2.2.1,s4.2.2.2.1,s4.2.2.2.2.1,(s4.2.2.2.2.2.1++([(⟨(36:Int),(0:Int),(0:Int),(0:Int),(0:Int),s4.1,(0:Int)⟩:Xd)]:List Xd)),s4.1,s4.2.2.2.2.2.2.2.1,s4.2.2.2.2.2.2.2.2.1,s4.2.2.2.2.2.2.2.2.2.1,s4.2.2.2.2.2.2.2.2.2.2.1,s4.2.2.2.2.2.2.2.2.2.2.2.1,s4.2.2.2.2.2.2.2.2.2.2.2.2.1,s4.2.2.2.2.2.2.2.2.2.2.2.2.2)))) (.leaf (.inl (s4.2.2.1,s4.2.2.2.1,s4.2.2.2.2.1,s4.2.2.2.2.2.1,s4.2.2.2.2.2.2.1,s4.2.2.2.2.2.2.2.1,s4.2.2.2.2.2.2.2.2.1,s4.2.2.2.2.2.2.2.2.2.1,s4.2.2.2.2.2.2.2.2.2.2.1,s4.2.2.2.2.2.2.2.2.2.2.2.1,s4.2.2.2.2.2.2.2.2.2.2.2.2.1,s4.2.2.2.2.2.2.2.2.2.2.2.2.2)))) fun s5=>.join (S:=Yce) (znm x v1 q1) (.ite (s5.2.2.2.2.2.1==34) (.ite ((IntKind.i64.wrap (q1.1+(1:Int)))==64) (.call (k144 n) x fun (y6:Yao)=>.leaf (.inr (.ret (y6.1,y6.2.1,y6.2.2.1,y6.2.2.2)))) (.leaf (.inl ((IntKind.i64.wrap (q1.1+(1:Int))),s5.1,s5.2.1,s5.2.2.1,s5.2.2.2.1,s5.2.2.2.2.1,s5.2.2.2.2.2.1,s5.2.2.2.2.2.2.1,s5.2.2.2.2.2.2.2.1,s5.2.2.2.2.2.2.2.2.1,s5.2.2.2.2.2.2.2.2.2.1,s5.2.2.2.2.2.2.2.2.2.2.1,s5.2.2.2.2.2.2.2.2.2.2.2)))) (.ite (s5.2.2.2.2.2.1==35) (.leaf (.inl ((IntKind.i64.wrap (q1.1 - (1:Int))),s5.1,s5.2.1,s5.2.2.1,s5.2.2.2.1,s5.2.2.2.2.1,s5.2.2.2.2.2.1,s5.2.2.2.2.2.2.1,s5.2.2.2.2.2.2.2.1,s5.2.2.2.2.2.2.2.2.1,s5.2.2.2.2.2.2.2.2.2.1,s5.2.2.2.2.2.2.2.2.2.2.1,s5.2.2.2.2.2.2.2.2.2.2.2))) (.leaf (.inl (q1.1,s5.1,s5.2.1,s5.2.2.1,s5.2.2.2.1,s5.2.2.2.2.1,s5.2.2.2.2.2.1,s5.2.2.2.2.2.2.1,s5.2.2.2.2.2.2.2.1,s5.2.2.2.2.2.2.2.2.1,s5.2.2.2.2.2.2.2.2.2.1,s5.2.2.2.2.2.2.2.2.2.2.1,s5.2.2.2.2.2.2.2.2.2.2.2))))) fun s6=>.need ((s6.2.2.2.2.1.length+([(⟨s6.2.2.2.2.2.2.1,s6.2.2.2.2.2.2.2.1,s6.2.2.2.2.2.2.2.2.1,s6.2.2.2.2.2.2.2.2.2.1,s6.2.2.2.2.2.2.2.2.2.2.1,s6.2.2.2.2.2.2.2.2.2.2.2.1,s6.2.2.2.2.2.2.2.2.2.2.2.2⟩:Xd)]:List Xd).length) * 56≤140737488355328) (.leaf (.go (s6.1,(IntKind.i64.wrap (q1.2.1+(1:Int))),s6.2.1,s6.2.2.1,s6.2.2.2.1,(s6.2.2.2.2.1++([(⟨s6.2.2.2.2.2.2.1,s6.2.2.2.2.2.2.2.1,s6.2.2.2.2.2.2.2.2.1,s6.2.2.2.2.2.2.2.2.2.1,s6.2.2.2.2.2.2.2.2.2.2.1,s6.2.2.2.2.2.2.2.2.2.2.2.1,s6.2.2.2.2.2.2.2.2.2.2.2.2⟩:Xd)]:List Xd)),s6.2.2.2.2.2.1))))) (.leaf (.out (q1.1,q1.2.1,q1.2.2.1,q1.2.2.2.1,q1.2.2.2.2.1,q1.2.2.2.2.2.1,q1.2.2.2.2.2.2)))
noncomputable def zng (n:Nat) (x:Xe) (v1:Unit):LCon P_ Ty_ []:=lcon (X:=Yak) (Y:=Yak) (Z:=Yao) (zsr n) (subC [1,1,1,1,1,1,0,1,0,0] (fnC P_ 9 zss)) (fun q1=>.two .no (.two .no (.two (.two (.two .no (.two (.join (Ybs) (znh x v1 q1) ⟨[(1,.ref 1),(2,.ref 2),(6,.ref 6),(7,.ref 7),(8,.any),(9,.fn [.ref 7,.ref 6]),(11,.ref 11),(27,.im 4),(28,.any),(29,.any),(40,.any)],[(1,.any),(2,.any),(6,.any),(7,.any),(11,.any)]⟩ .no .no) (.two .no (.join (Ybt) (znj x v1 q1) ⟨[(1,.ref 1),(2,.ref 2),(6,.ref 6),(7,.ref 7),(8,.any),(9,.fn [.ref 7,.ref 6]),(11,.ref 11),(12,.any),(13,.any),(27,.im 4),(28,.any),(29,.any)],[(1,.any),(2,.any),(6,.any),(7,.any),(11,.any)]⟩ (.join (Ycr) (zni x v1 q1) ⟨[(1,.ref 1),(2,.ref 2),(6,.ref 6),(7,.ref 7),(8,.any),(9,.fn [.ref 7,.ref 6]),(11,.ref 11),(12,.any),(13,.any),(27,.im 4),(28,.any),(29,.any),(53,.any)],[(1,.any),(2,.any),(6,.any),(7,.any),(11,.any)]⟩ .no .no) (.join (Ycs) (znl x v1 q1) ⟨[(1,.ref 1),(2,.ref 2),(6,.ref 6),(7,.ref 7),(8,.any),(9,.fn [.ref 7,.ref 6]),(11,.ref 11),(27,.im 4),(28,.any),(29,.any)],[(1,.any),(2,.any),(6,.any),(7,.any),(11,.any)]⟩ (.join (Ybt) (znk x v1 q1) ⟨[(1,.ref 1),(2,.ref 2),(6,.ref 6),(7,.ref 7),(8,.any),(9,.fn [.ref 7,.ref 6]),(11,.ref 11),(12,.any),(27,.im 4),(28,.any),(29,.any),(60,.any)],[(1,.any),(2,.any),(6,.any),(7,.any),(11,.any)]⟩ .no .no) (.join (Yce) (znm x v1 q1) ⟨[(1,.ref 1),(2,.ref 2),(6,.ref 6),(7,.ref 7),(8,.any),(9,.fn [.ref 7,.ref 6]),(11,.ref 11),(27,.im 4),(28,.any),(29,.any)],[(1,.any),(2,.any),(6,.any),(7,.any),(11,.any)]⟩ .no .no)))))) .no) .no))) 0 true ⟨[(1,.ref 1),(2,.ref 2),(6,.ref 6),(7,.ref 7),(8,.any),(9,.fn [.ref 7,.ref 6]),(27,.im 4),(28,.any),(29,.any)],[(1,.any),(2,.any),(6,.fix [.no,.no,.no,.ow false 4]),(7,.any)]⟩ ⟨[(1,.ref 1),(2,.ref 2),(6,.ref 6),(7,.ref 7),(8,.any),(9,.fn [.ref 7,.ref 6]),(27,.im 4),(28,.any),(29,.any),(30,.any)],[(1,.any),(2,.any),(6,.any),(7,.any)]⟩ ⟨[(2,.ref 2),(3,.any)],[(2,.any)]⟩ (fun q1=>([(1,.pt 1 [] 0 0),(2,.pt 2 [] 0 0),(6,.pt 6 [] 0 0),(7,.pt 7 [] 0 0),(8,I_ q1.1),(9,.fn 25 [.pt 7 [] 0 0,.pt 6 [] 0 0]),(27,.im 4 x.List_),(28,I_ (x.List_.length:Int)),(29,I_ q1.2.1)],[(1,.lit 4 [[.im 1 x.Sign_,.im 2 x.Regs_,.im 3 x.Slots_,.im 4 x.List_]]),(2,.lit 4 [[.zs,.zs,.zs,.zs]]),(6,.lit 4 [[.ow false 1 q1.2.2.1,.ow false 2 q1.2.2.2.1,.ow false 3 q1.2.2.2.2.1,.ow false 4 q1.2.2.2.2.2.1]]),(7,.lit 1 [[I_ q1.2.2.2.2.2.2]])])) (fun p=>([(1,.pt 1 [] 0 0),(2,.pt 2 [] 0 0),(6,.pt 6 [] 0 0),(7,.pt 7 [] 0 0),(8,I_ p.1),(9,.fn 25 [.pt 7 [] 0 0,.pt 6 [] 0 0]),(27,.im 4 x.List_),(28,I_ (x.List_.length:Int)),(29,I_ p.2.1),(30,B_ false)],[(1,.lit 4 [[.im 1 x.Sign_,.im 2 x.Regs_,.im 3 x.Slots_,.im 4 x.List_]]),(2,.lit 4 [[.zs,.zs,.zs,.zs]]),(6,.lit 4 [[.ow false 1 p.2.2.1,.ow false 2 p.2.2.2.1,.ow false 3 p.2.2.2.2.1,.ow false 4 p.2.2.2.2.2.1]]),(7,.lit 1 [[I_ p.2.2.2.2.2.2]])])) (fun p=>([(2,.pt 2 [] 0 0),(3,I_ (0:Int))],[(2,.lit 4 [[.ow false 1 p.1,.ow false 2 p.2.1,.ow false 3 p.2.2.1,.ow false 4 p.2.2.2]])])) n (znn n x v1)
noncomputable def zst (n:Nat) (x:Xe):Pt P_ Ty_ [] (Yac):=.call (k16 n) x fun (y1:Yaa)=>.ite (y1.1 != (0:Int)) (.leaf ((160:Int),([]:List Xa),([]:List Xb),([]:List Xc),([]:List Xd))) (.call (k144 n) x fun (y2:Yao)=>.loopR (V:=Unit) (zng n x) () ((0:Int),(0:Int),y2.1,y2.2.1,y2.2.2.1,([]:List Xd),(-1:Int)) (fun (v1:Unit) (y7:Yak)=>.call (zm1 n) (y7.2.2.2.2.2.2,y7.2.2.1,y7.2.2.2.1,y7.2.2.2.2.1,y7.2.2.2.2.2.1) fun (y8:Yac)=>.ite (decide ((y8.2.2.2.2.length:Int) > (32768:Int))) (.call (k144 n) x fun (y9:Yao)=>.leaf ((0:Int),y9.1,y9.2.1,y9.2.2.1,y9.2.2.2)) (.leaf ((0:Int),y8.2.1,y8.2.2.1,y8.2.2.2.1,y8.2.2.2.2))) fun (v1:Unit) (z1:Yao)=>.leaf ((0:Int),z1.1,z1.2.1,z1.2.2.1,z1.2.2.2))
noncomputable def k120 (n:Nat):Con P_ Ty_:=zd (X:=Xe) (R:=Yac) (pro:=[]) (zsr n) 9 zss (fun x=>.two .no (.two .no (.two .no (.two .no (.two .no (.two .no (.two (.two .no (.two (.loop Unit (zng n x) true ⟨[(1,.ref 1),(2,.ref 2),(6,.ref 6),(7,.ref 7),(8,.any),(9,.fn [.ref 7,.ref 6]),(27,.im 4),(28,.any),(29,.any)],[(1,.any),(2,.any),(6,.fix [.no,.no,.no,.ow false 4]),(7,.any)]⟩) .no)) .no))))))) [.ag [.im 1,.im 2,.im 3,.im 4]] [] [100000] ⟨[(2,.ref 100000),(3,.any)],[(100000,.fix [.ow false 1,.ow false 2,.ow false 3,.ow false 4])]⟩ [100000] true (fun x=>[.ag [.im 1 x.Sign_,.im 2 x.Regs_,.im 3 x.Slots_,.im 4 x.List_]]) (fun x=>[]) (fun y=>([(2,.pt 100000 [] 0 0),(3,I_ y.1)],[(100000,.lit 4 [[.ow false 1 y.2.1,.ow false 2 y.2.2.1,.ow false 3 y.2.2.2.1,.ow false 4 y.2.2.2.2]])])) (fun y=>.tu [.ag [.sw 100000 [(0,0)],.sw 100000 [(0,1)],.sw 100000 [(0,2)],.sw 100000 [(0,3)]],I_ y.1]) (fun y=>[(100000,.lit 4 [[.ow false 1 y.2.1,.ow false 2 y.2.2.1,.ow false 3 y.2.2.2.1,.ow false 4 y.2.2.2.2]])]) (zst n)
noncomputable def y0x (n:Nat):Cx P_ Ty_:=⟨[],[],[],[]⟩
abbrev y0y:List (List Nat):=[[0],[0,11],[2],[0,3],[0,3,15],[0,3,4],[0,3,59],[2],[0,3],[2]]
noncomputable def zw3 (x:ByteArray) (p:Bool):EH Ty_:=([(0,.sc (.string x)),(11,B_ p)],[])
noncomputable def zw4 (x:ByteArray) (v1:Unit) (q1:Int) (p:Bool):EH Ty_:=([(0,.sc (.string x)),(3,I_ q1),(59,B_ p)],[])
noncomputable def zw5 (n:Nat) (x:ByteArray) (v1:Unit) (q1:Int):Pt P_ Ty_ [] (Bo Int Int Unit):=.ite (decide (q1<(x.size:Int))) (.need (0≤q1∧q1<(x.size:Int)) (.join (S:=Bool) (zw4 x v1 q1) (.ite (decide ((za x q1)≥(97:Int))) (.ite (decide ((za x q1)≤(122:Int))) (.leaf (.inl false)) (.ite (decide ((za x q1)≥(65:Int))) (.ite (decide ((za x q1)≤(90:Int))) (.leaf (.inl false)) (.ite (decide ((za x q1)≥(48:Int))) (.ite (decide ((za x q1)≤(57:Int))) (.leaf (.inl false)) (.ite ((za x q1)==95) (.leaf (.inl false)) (.ite ((za x q1)==46) (.leaf (.inl false)) (.ite ((za x q1)==47) (.leaf (.inl false)) (.leaf (.inl (!((za x q1)==45)))))))) (.ite ((za x q1)==95) (.leaf (.inl false)) (.ite ((za x q1)==46) (.leaf (.inl false)) (.ite ((za x q1)==47) (.leaf (.inl false)) (.leaf (.inl (!((za x q1)==45))))))))) (.ite (decide ((za x q1)≥(48:Int))) (.ite (decide ((za x q1)≤(57:Int))) (.leaf (.inl false)) (.ite ((za x q1)==95) (.leaf (.inl false)) (.ite ((za x q1)==46) (.leaf (.inl false)) (.ite ((za x q1)==47) (.leaf (.inl false)) (.leaf (.inl (!((za x q1)==45)))))))) (.ite ((za x q1)==95) (.leaf (.inl false)) (.ite ((za x q1)==46) (.leaf (.inl false)) (.ite ((za x q1)==47) (.leaf (.inl false)) (.leaf (.inl (!((za x q1)==45)))))))))) (.ite (decide ((za x q1)≥(65:Int))) (.ite (decide ((za x q1)≤(90:Int))) (.leaf (.inl false)) (.ite (decide ((za x q1)≥(48:Int))) (.ite (decide ((za x q1)≤(57:Int))) (.leaf (.inl false)) (.ite ((za x q1)==95) (.leaf (.inl false)) (.ite ((za x q1)==46) (.leaf (.inl false)) (.ite ((za x q1)==47) (.leaf (.inl false)) (.leaf (.inl (!((za x q1)==45)))))))) (.ite ((za x q1)==95) (.leaf (.inl false)) (.ite ((za x q1)==46) (.leaf (.inl false)) (.ite ((za x q1)==47) (.leaf (.inl false)) (.leaf (.inl (!((za x q1)==45))))))))) (.ite (decide ((za x q1)≥(48:Int))) (.ite (decide ((za x q1)≤(57:Int))) (.leaf (.inl false)) (.ite ((za x q1)==95) (.leaf (.inl false)) (.ite ((za x q1)==46) (.leaf (.inl false)) (.ite ((za x q1)==47) (.leaf (.inl false)) (.leaf (.inl (!((za x q1)==45)))))))) (.ite ((za x q1)==95) (.leaf (.inl false)) (.ite ((za x q1)==46) (.leaf (.inl false)) (.ite ((za x q1)==47) (.leaf (.inl false)) (.leaf (.inl (!((za x q1)==45)))))))))) fun s2=>.ite s2 (.leaf (.ret ())) (.leaf (.go (IntKind.i64.wrap (q1+(1:Int))))))) (.leaf (.out q1))
noncomputable def zw2 (n:Nat) (x:ByteArray) (v1:Unit):LCon P_ Ty_ []:=lcon (X:=Int) (Y:=Int) (Z:=Unit) (y0x n) (subC [1,1,0,1,0,0] (fnC P_ 84 y0y)) (fun q1=>.two .no (.two (.two (.two .no (.join Bool (zw4 x v1 q1) ⟨[(0,.any),(3,.any),(59,.any)],[]⟩ .no .no)) .no) .no)) 0 true ⟨[(0,.any),(3,.any)],[]⟩ ⟨[(0,.any),(3,.any),(15,.any)],[]⟩ ⟨[(2,.any)],[]⟩ (fun q1=>([(0,.sc (.string x)),(3,I_ q1)],[])) (fun p=>([(0,.sc (.string x)),(3,I_ p),(15,B_ false)],[])) (fun p=>([(2,B_ false)],[])) n (zw5 n x v1)
noncomputable def y0z (n:Nat) (x:ByteArray):Pt P_ Ty_ [] Bool:=.join (S:=Bool) (zw3 x) (.ite (x==(⟨#[]⟩:ByteArray)) (.leaf (.inl true)) (.leaf (.inl (decide ((x.size:Int) > (64:Int)))))) fun s1=>.ite s1 (.leaf false) (.loopR (V:=Unit) (zw2 n x) () (0:Int) (fun (v1:Unit) (y1:Int)=>.leaf true) fun (v1:Unit) (z1:Unit)=>.leaf false)
noncomputable def k63 (n:Nat):Con P_ Ty_:=zd (X:=ByteArray) (R:=Bool) (pro:=[]) (y0x n) 84 y0y (fun x=>.two .no (.two (.join Bool (zw3 x) ⟨[(0,.any),(11,.any)],[]⟩ .no .no) (.two (.two .no (.two (.loop Unit (zw2 n x) true ⟨[(0,.any),(3,.any)],[]⟩) .no)) .no))) [.any] [] [] ⟨[(2,.any)],[]⟩ [] true (fun x=>[.sc (.string x)]) (fun x=>[]) (fun y=>([(2,B_ y)],[])) (fun y=>B_ y) (fun y=>[]) (y0z n)
noncomputable def yaf (n:Nat):Cx P_ Ty_:=⟨[k63 n],[],[],[]⟩
abbrev yag:List (List Nat):=[[1],[2]]
noncomputable def y0j (n:Nat) (x:Xa):Pt P_ Ty_ [] Bool:=.call (k63 n) x.Name_ fun (y1:Bool)=>.ite y1 (.ite (x.Kind_==1) (.ite (decide (x.Len_≥(1:Int))) (.leaf (decide (x.Len_≤(4096:Int)))) (.leaf false)) (.ite (x.Kind_==2) (.ite (decide (x.Len_≥(1:Int))) (.leaf (decide (x.Len_≤(4096:Int)))) (.leaf false)) (.leaf false))) (.leaf false)
noncomputable def k55 (n:Nat):Con P_ Ty_:=zd (X:=Xa) (R:=Bool) (pro:=[]) (yaf n) 70 yag (fun x=>.no) [.ag [.any,.any,.any]] [] [] ⟨[(2,.any)],[]⟩ [] true (fun x=>[.ag [.sc (.string x.Name_),I_ x.Kind_,I_ x.Len_]]) (fun x=>[]) (fun y=>([(2,B_ y)],[])) (fun y=>B_ y) (fun y=>[]) (y0j n)
noncomputable def y0k (n:Nat):Cx P_ Ty_:=⟨[],[],[],[]⟩
abbrev y0l:List (List Nat):=[[0,1],[0,1,6],[0,1,6,10],[0,1,6,19],[4,5],[0,1,6],[4,5]]
noncomputable def zvj (n:Nat) (x:Ybf) (v1:Unit) (q1:Int):Pt P_ Ty_ [] (Bo Int Int Int):=.ite (decide (q1<(x.1.length:Int))) (.bnd (idx x.1 q1) fun y1=>.ite (y1.Name_==x.2) (.leaf (.ret q1)) (.leaf (.go (IntKind.i64.wrap (q1+(1:Int)))))) (.leaf (.out q1))
noncomputable def zvi (n:Nat) (x:Ybf) (v1:Unit):LCon P_ Ty_ []:=lcon (X:=Int) (Y:=Int) (Z:=Int) (y0k n) (subC [1,0,1,0,0] (fnC P_ 71 y0l)) (fun q1=>.no) 0 true ⟨[(0,.im 1),(1,.any),(6,.any)],[]⟩ ⟨[(0,.im 1),(1,.any),(6,.any),(10,.any)],[]⟩ ⟨[(4,.any),(5,.any)],[]⟩ (fun q1=>([(0,.im 1 x.1),(1,.sc (.string x.2)),(6,I_ q1)],[])) (fun p=>([(0,.im 1 x.1),(1,.sc (.string x.2)),(6,I_ p),(10,B_ false)],[])) (fun p=>([(4,I_ p),(5,B_ true)],[])) n (zvj n x v1)
noncomputable def y0m (n:Nat) (x:Ybf):Pt P_ Ty_ [] (Yag):=.loopR (V:=Unit) (zvi n x) () (0:Int) (fun (v1:Unit) (y2:Int)=>.leaf ((0:Int),false)) fun (v1:Unit) (z1:Int)=>.leaf (z1,true)
noncomputable def k56 (n:Nat):Con P_ Ty_:=zd (X:=Ybf) (R:=Yag) (pro:=[]) (y0k n) 71 y0l (fun x=>.two .no (.two (.two .no (.two (.loop Unit (zvi n x) true ⟨[(0,.im 1),(1,.any),(6,.any)],[]⟩) .no)) .no)) [.im 1,.any] [] [] ⟨[(4,.any),(5,.any)],[]⟩ [] true (fun x=>[.im 1 x.1,.sc (.string x.2)]) (fun x=>[]) (fun y=>([(4,I_ y.1),(5,B_ y.2)],[])) (fun y=>.tu [I_ y.1,B_ y.2]) (fun y=>[]) (y0m n)
noncomputable def yap (n:Nat):Cx P_ Ty_:=⟨[k55 n],[],[],[]⟩
abbrev yaq:List (List Nat):=[[1],[1,3],[2],[1,7],[2],[2]]
noncomputable def y1a (n:Nat) (x:Xa):Pt P_ Ty_ [] Int:=.call (k55 n) x fun (y1:Bool)=>.ite (!y1) (.leaf (0:Int)) (.ite (x.Kind_==2) (.leaf (IntKind.i64.wrap ((2:Int) * x.Len_))) (.leaf x.Len_))
noncomputable def k64 (n:Nat):Con P_ Ty_:=zd (X:=Xa) (R:=Int) (pro:=[]) (yap n) 85 yaq (fun x=>.no) [.ag [.any,.any,.any]] [] [] ⟨[(2,.any)],[]⟩ [] true (fun x=>[.ag [.sc (.string x.Name_),I_ x.Kind_,I_ x.Len_]]) (fun x=>[]) (fun y=>([(2,I_ y)],[])) (fun y=>I_ y) (fun y=>[]) (y1a n)
noncomputable def y0n (n:Nat):Cx P_ Ty_:=⟨[k64 n],[],[],[]⟩
abbrev y0o:List (List Nat):=[[0],[0,3],[0,3,4],[0,3,4,8],[0,3,4],[0,3,4],[2]]
noncomputable def zvl (n:Nat) (x:(List Xa)) (v1:Unit) (q1:Yaa):Pt P_ Ty_ [] (Bo (Yaa) (Yaa) Empty):=.ite (decide (q1.2<(x.length:Int))) (.bnd (idx x q1.2) fun y1=>.call (k64 n) y1 fun (y2:Int)=>.leaf (.go ((IntKind.i64.wrap (q1.1+y2)),(IntKind.i64.wrap (q1.2+(1:Int)))))) (.leaf (.out (q1.1,q1.2)))
noncomputable def zvk (n:Nat) (x:(List Xa)) (v1:Unit):LCon P_ Ty_ []:=lcon (X:=Yaa) (Y:=Yaa) (Z:=Empty) (y0n n) (subC [1,1,0,1,0,0] (fnC P_ 72 y0o)) (fun q1=>.no) 0 false ⟨[(0,.im 1),(3,.any),(4,.any)],[]⟩ ⟨[(0,.im 1),(3,.any),(4,.any),(8,.any)],[]⟩ ⟨[],[]⟩ (fun q1=>([(0,.im 1 x),(3,I_ q1.1),(4,I_ q1.2)],[])) (fun p=>([(0,.im 1 x),(3,I_ p.1),(4,I_ p.2),(8,B_ false)],[])) (fun p=>nomatch p) n (zvl n x v1)
noncomputable def y0p (n:Nat) (x:(List Xa)):Pt P_ Ty_ [] Int:=.loop (V:=Unit) (zvk n x) () ((0:Int),(0:Int)) fun (v1:Unit) (y3:Yaa)=>.leaf y3.1
noncomputable def k57 (n:Nat):Con P_ Ty_:=zd (X:=(List Xa)) (R:=Int) (pro:=[]) (y0n n) 72 y0o (fun x=>.two .no (.two .no (.two (.two .no (.two (.loop Unit (zvk n x) false ⟨[(0,.im 1),(3,.any),(4,.any)],[]⟩) .no)) .no))) [.im 1] [] [] ⟨[(2,.any)],[]⟩ [] true (fun x=>[.im 1 x]) (fun x=>[]) (fun y=>([(2,I_ y)],[])) (fun y=>I_ y) (fun y=>[]) (y0p n)
noncomputable def zqv (n:Nat):Cx P_ Ty_:=⟨[k55 n,k56 n,k57 n],[],[],[]⟩
abbrev zqw:List (List Nat):=[[0],[0,9],[2],[0,3],[0,3,13],[0,3,21],[2],[0,3],[0,4],[0,4,25],[0,4,5],[0,4,40],[2],[0,4],[43],[2],[2]]
noncomputable def zv4 (n:Nat) (x:(List Xa)) (v1:Unit) (q1:Int):Pt P_ Ty_ [] (Bo Int Int Unit):=.ite (decide (q1<(x.length:Int))) (.bnd (idx x q1) fun y1=>.call (k55 n) y1 fun (y2:Bool)=>.ite (!y2) (.leaf (.ret ())) (.leaf (.go (IntKind.i64.wrap (q1+(1:Int)))))) (.leaf (.out q1))
noncomputable def zv2 (n:Nat) (x:(List Xa)) (v1:Unit):LCon P_ Ty_ []:=lcon (X:=Int) (Y:=Int) (Z:=Unit) (zqv n) (subC [1,1,0,1,0,0] (fnC P_ 50 zqw)) (fun q1=>.no) 0 true ⟨[(0,.im 1),(3,.any)],[]⟩ ⟨[(0,.im 1),(3,.any),(13,.any)],[]⟩ ⟨[(2,.any)],[]⟩ (fun q1=>([(0,.im 1 x),(3,I_ q1)],[])) (fun p=>([(0,.im 1 x),(3,I_ p),(13,B_ false)],[])) (fun p=>([(2,I_ (100:Int))],[])) n (zv4 n x v1)
noncomputable def zv5 (n:Nat) (x:(List Xa)) (v2:Unit) (q2:Int):Pt P_ Ty_ [] (Bo Int Int Unit):=.ite (decide (q2<(x.length:Int))) (.bnd (idx x q2) fun y4=>.call (k56 n) (x,y4.Name_) fun (y5:Yag)=>.ite (y5.1 != q2) (.leaf (.ret ())) (.leaf (.go (IntKind.i64.wrap (q2+(1:Int)))))) (.leaf (.out q2))
noncomputable def zv3 (n:Nat) (x:(List Xa)) (v2:Unit):LCon P_ Ty_ []:=lcon (X:=Int) (Y:=Int) (Z:=Unit) (zqv n) (subC [1,1,1,0,1,0,0] (fnC P_ 50 zqw)) (fun q2=>.no) 2 true ⟨[(0,.im 1),(4,.any)],[]⟩ ⟨[(0,.im 1),(4,.any),(25,.any)],[]⟩ ⟨[(2,.any)],[]⟩ (fun q2=>([(0,.im 1 x),(4,I_ q2)],[])) (fun p=>([(0,.im 1 x),(4,I_ p),(25,B_ false)],[])) (fun p=>([(2,I_ (101:Int))],[])) n (zv5 n x v2)
noncomputable def zzz (n:Nat) (x:(List Xa)):Pt P_ Ty_ [] Int:=.ite (decide ((x.length:Int) > (64:Int))) (.leaf (2:Int)) (.loopR (V:=Unit) (zv2 n x) () (0:Int) (fun (v1:Unit) (y3:Int)=>.loopR (V:=Unit) (zv3 n x) () (0:Int) (fun (v2:Unit) (y6:Int)=>.call (k57 n) x fun (y7:Int)=>.ite (decide (y7 > (65536:Int))) (.leaf (102:Int)) (.leaf (0:Int))) fun (v2:Unit) (z2:Unit)=>.leaf (101:Int)) fun (v1:Unit) (z1:Unit)=>.leaf (100:Int))
noncomputable def k38 (n:Nat):Con P_ Ty_:=zd (X:=(List Xa)) (R:=Int) (pro:=[]) (zqv n) 50 zqw (fun x=>.two .no (.two .no (.two (.two .no (.two (.loop Unit (zv2 n x) true ⟨[(0,.im 1),(3,.any)],[]⟩) .no)) (.two (.two .no (.two (.loop Unit (zv3 n x) true ⟨[(0,.im 1),(4,.any)],[]⟩) .no)) .no)))) [.im 1] [] [] ⟨[(2,.any)],[]⟩ [] true (fun x=>[.im 1 x]) (fun x=>[]) (fun y=>([(2,I_ y)],[])) (fun y=>I_ y) (fun y=>[]) (zzz n)
noncomputable def ya1 (n:Nat):Cx P_ Ty_:=⟨[],[],[],[]⟩
abbrev ya2:List (List Nat):=[[1,2],[1,2,7],[4],[4]]
noncomputable def y00 (n:Nat) (x:Ycf):Pt P_ Ty_ [] Bool:=.ite (x.1.Kind_==3) (.ite (decide (x.1.Param_≥(0:Int))) (.leaf (decide (x.1.Param_<(x.2.length:Int)))) (.leaf false)) (.ite (x.1.Kind_==1) (.leaf (x.1.Param_==0)) (.ite (x.1.Kind_==2) (.leaf (x.1.Param_==0)) (.leaf false)))
noncomputable def k39 (n:Nat):Con P_ Ty_:=zd (X:=Ycf) (R:=Bool) (pro:=[]) (ya1 n) 51 ya2 (fun x=>.no) [.ag [.any,.any],.im 1] [] [] ⟨[(4,.any)],[]⟩ [] true (fun x=>[.ag [I_ x.1.Kind_,I_ x.1.Param_],.im 1 x.2]) (fun x=>[]) (fun y=>([(4,B_ y)],[])) (fun y=>B_ y) (fun y=>[]) (y00 n)
noncomputable def yaz (n:Nat):Cx P_ Ty_:=⟨[],[],[],[]⟩
abbrev yb0:List (List Nat):=[[0,2],[2,3],[2,3,4],[2,3,4,5],[2,4,5,6],[2,4,5,6,25],[2,4,6],[2,4],[2,4,5,6,34],[2,4],[2,4],[2,4,5],[2,4],[2]]
noncomputable def zw6 (x:Int) (p:Yct):EH Ty_:=([(2,.pt 2 [] 0 0),(4,.pt 4 [] 0 0)],[(2,.lit 5 [[B_ false,.sc (.int .u64 (0:Int)),I_ (0:Int),B_ false,B_ false]]),(4,.lit 5 [[B_ (((IntKind.u64.wrap x).fdiv (2 ^ min (31:Int).toNat IntKind.u64.bits))==1),.sc (.int .u64 p.1),I_ p.2.1,B_ p.2.2.1,B_ p.2.2.2]])])
noncomputable def zj0 (n:Nat) (x:Int):Pt P_ Ty_ [] (Yai):=.join (S:=Yct) (zw6 x) (.ite ((IntKind.i64.wrap (IntKind.u64.wrap (BitVec.ofInt IntKind.u64.bits ((IntKind.u64.wrap x).fdiv (2 ^ min (23:Int).toNat IntKind.u64.bits)) &&& BitVec.ofInt IntKind.u64.bits (255:Int)).toNat))==255) (.leaf (.inl ((0:Int),(0:Int),((IntKind.u64.wrap (BitVec.ofInt IntKind.u64.bits (IntKind.u64.wrap x) &&& BitVec.ofInt IntKind.u64.bits (8388607:Int)).toNat)==0),((IntKind.u64.wrap (BitVec.ofInt IntKind.u64.bits (IntKind.u64.wrap x) &&& BitVec.ofInt IntKind.u64.bits (8388607:Int)).toNat) != (0:Int))))) (.ite ((IntKind.i64.wrap (IntKind.u64.wrap (BitVec.ofInt IntKind.u64.bits ((IntKind.u64.wrap x).fdiv (2 ^ min (23:Int).toNat IntKind.u64.bits)) &&& BitVec.ofInt IntKind.u64.bits (255:Int)).toNat))==0) (.leaf (.inl ((IntKind.u64.wrap (BitVec.ofInt IntKind.u64.bits (IntKind.u64.wrap x) &&& BitVec.ofInt IntKind.u64.bits (8388607:Int)).toNat),(-149:Int),false,false))) (.leaf (.inl ((IntKind.u64.wrap ((8388608:Int)+(IntKind.u64.wrap (BitVec.ofInt IntKind.u64.bits (IntKind.u64.wrap x) &&& BitVec.ofInt IntKind.u64.bits (8388607:Int)).toNat))),(IntKind.i64.wrap ((IntKind.i64.wrap (IntKind.u64.wrap (BitVec.ofInt IntKind.u64.bits ((IntKind.u64.wrap x).fdiv (2 ^ min (23:Int).toNat IntKind.u64.bits)) &&& BitVec.ofInt IntKind.u64.bits (255:Int)).toNat)) - (150:Int))),false,false))))) fun s1=>.leaf ((((IntKind.u64.wrap x).fdiv (2 ^ min (31:Int).toNat IntKind.u64.bits))==1),s1.1,s1.2.1,s1.2.2.1,s1.2.2.2)
noncomputable def k69 (n:Nat):Con P_ Ty_:=zd (X:=Int) (R:=Yai) (pro:=[]) (yaz n) 100 yb0 (fun x=>.two .no (.two .no (.two .no (.two .no (.two .no (.join (Yct) (zw6 x) ⟨[(2,.ref 2),(4,.ref 4)],[(2,.any),(4,.any)]⟩ .no .no)))))) [.any] [] [] ⟨[(2,.ref 100000)],[(100000,.any)]⟩ [] true (fun x=>[I_ x]) (fun x=>[]) (fun y=>([(2,.pt 100000 [] 0 0)],[(100000,.lit 5 [[B_ y.1,.sc (.int .u64 y.2.1),I_ y.2.2.1,B_ y.2.2.2.1,B_ y.2.2.2.2]])])) (fun y=>.ag [B_ y.1,.sc (.int .u64 y.2.1),I_ y.2.2.1,B_ y.2.2.2.1,B_ y.2.2.2.2]) (fun y=>[]) (zj0 n)
noncomputable def yar (n:Nat):Cx P_ Ty_:=⟨[k69 n],[],[],[]⟩
abbrev yas:List (List Nat):=[[0],[0,5],[2],[2]]
noncomputable def ziz (n:Nat) (x:Int):Pt P_ Ty_ [] Int:=.call (k69 n) x fun (y1:Yai)=>.ite y1.2.2.2.2 (.leaf (2143289344:Int)) (.leaf x)
noncomputable def k65 (n:Nat):Con P_ Ty_:=zd (X:=Int) (R:=Int) (pro:=[]) (yar n) 86 yas (fun x=>.no) [.any] [] [] ⟨[(2,.any)],[]⟩ [] true (fun x=>[I_ x]) (fun x=>[]) (fun y=>([(2,I_ y)],[])) (fun y=>I_ y) (fun y=>[]) (ziz n)
noncomputable def yah (n:Nat):Cx P_ Ty_:=⟨[k65 n],[],[],[]⟩
abbrev yai:List (List Nat):=[[0],[2]]
noncomputable def y0q (n:Nat) (x:Int):Pt P_ Ty_ [] Bool:=.call (k65 n) (IntKind.i64.wrap x) fun (y1:Int)=>.leaf (y1==(IntKind.i64.wrap x))
noncomputable def k58 (n:Nat):Con P_ Ty_:=zd (X:=Int) (R:=Bool) (pro:=[]) (yah n) 73 yai (fun x=>.no) [.any] [] [] ⟨[(2,.any)],[]⟩ [] true (fun x=>[.sc (.int .u32 x)]) (fun x=>[]) (fun y=>([(2,B_ y)],[])) (fun y=>B_ y) (fun y=>[]) (y0q n)
noncomputable def ya3 (n:Nat):Cx P_ Ty_:=⟨[k39 n,k58 n],[],[],[]⟩
abbrev ya4:List (List Nat):=[[1,2],[2,9],[4],[2,13],[4],[4]]
noncomputable def y01 (n:Nat) (x:Ycg):Pt P_ Ty_ [] Bool:=.call (k39 n) (x.1.Type_,x.2) fun (y1:Bool)=>.ite (!y1) (.leaf false) (.ite (x.1.Type_.Kind_==2) (.ite (x.1.Bits_==0) (.ite (decide (x.1.Int_≥(0:Int))) (.leaf (decide (x.1.Int_≤(2147483647:Int)))) (.leaf false)) (.leaf false)) (.ite (x.1.Int_==0) (.call (k58 n) x.1.Bits_ fun (y2:Bool)=>.leaf y2) (.leaf false)))
noncomputable def k40 (n:Nat):Con P_ Ty_:=zd (X:=Ycg) (R:=Bool) (pro:=[]) (ya3 n) 52 ya4 (fun x=>.no) [.ag [.any,.any,.any,.any,.any],.im 1] [] [] ⟨[(4,.any)],[]⟩ [] true (fun x=>[.ag [I_ x.1.Type_.Kind_,I_ x.1.Type_.Param_,B_ x.1.Keep_,.sc (.int .u32 x.1.Bits_),I_ x.1.Int_],.im 1 x.2]) (fun x=>[]) (fun y=>([(4,B_ y)],[])) (fun y=>B_ y) (fun y=>[]) (y01 n)
noncomputable def y9n (n:Nat):Cx P_ Ty_:=⟨[],[],[],[]⟩
abbrev y9o:List (List Nat):=[[0],[4],[4,5],[2,3],[4,7],[2,3],[4,9],[2,3],[4,11],[4,11],[4,11],[4,11],[4,11],[4,11],[4,11],[2,3],[4,19],[4,19],[4,19],[4,19],[2,3],[4,24],[2,3],[4,26],[2,3],[4,28],[2,3],[4,30],[2,3],[4,32],[4,32],[2,3],[4,35],[4,35],[2,3],[4,38],[4,38],[4,38],[4,38],[4,38],[2,3],[4,44],[2,3],[4,46],[4,46],[2,3],[4,49],[2,3],[4,51],[2,3],[4,53],[2,3],[4,55],[2,3],[4,57],[4,57],[2,3],[60],[2,3],[2,3]]
noncomputable def zuc (x:Int) (p:Bool):EH Ty_:=([(4,I_ x),(11,B_ p)],[])
noncomputable def zud (x:Int) (p:Bool):EH Ty_:=([(4,I_ x),(19,B_ p)],[])
noncomputable def zue (x:Int) (p:Bool):EH Ty_:=([(4,I_ x),(32,B_ p)],[])
noncomputable def zuf (x:Int) (p:Bool):EH Ty_:=([(4,I_ x),(35,B_ p)],[])
noncomputable def zug (x:Int) (p:Bool):EH Ty_:=([(4,I_ x),(38,B_ p)],[])
noncomputable def zuh (x:Int) (p:Bool):EH Ty_:=([(4,I_ x),(46,B_ p)],[])
noncomputable def zui (x:Int) (p:Bool):EH Ty_:=([(4,I_ x),(57,B_ p)],[])
noncomputable def zzj (n:Nat) (x:Int):Pt P_ Ty_ [] (Yam):=.ite (x==1) (.leaf ((⟨#[110,45,45,45,45]⟩:ByteArray),true)) (.ite (x==2) (.leaf ((⟨#[119,45,45,45,105]⟩:ByteArray),true)) (.ite (x==3) (.leaf ((⟨#[97,99,45,45,45]⟩:ByteArray),true)) (.join (S:=Bool) (zuc x) (.ite (x==4) (.leaf (.inl true)) (.ite (x==5) (.leaf (.inl true)) (.ite (x==6) (.leaf (.inl true)) (.ite (x==7) (.leaf (.inl true)) (.ite (x==8) (.leaf (.inl true)) (.ite (x==9) (.leaf (.inl true)) (.leaf (.inl (x==10))))))))) fun s1=>.ite s1 (.leaf ((⟨#[100,120,120,45,45]⟩:ByteArray),true)) (.join (S:=Bool) (zud x) (.ite (x==11) (.leaf (.inl true)) (.ite (x==12) (.leaf (.inl true)) (.ite (x==13) (.leaf (.inl true)) (.leaf (.inl (x==14)))))) fun s2=>.ite s2 (.leaf ((⟨#[100,120,45,45,45]⟩:ByteArray),true)) (.ite (x==15) (.leaf ((⟨#[100,120,120,120,45]⟩:ByteArray),true)) (.ite (x==16) (.leaf ((⟨#[110,110,119,45,45]⟩:ByteArray),true)) (.ite (x==17) (.leaf ((⟨#[110,119,45,45,45]⟩:ByteArray),true)) (.ite (x==18) (.leaf ((⟨#[119,110,45,45,45]⟩:ByteArray),true)) (.join (S:=Bool) (zue x) (.ite (x==19) (.leaf (.inl true)) (.leaf (.inl (x==20)))) fun s3=>.ite s3 (.leaf ((⟨#[110,118,45,45,45]⟩:ByteArray),true)) (.join (S:=Bool) (zuf x) (.ite (x==21) (.leaf (.inl true)) (.leaf (.inl (x==25)))) fun s4=>.ite s4 (.leaf ((⟨#[119,119,45,45,45]⟩:ByteArray),true)) (.join (S:=Bool) (zug x) (.ite (x==22) (.leaf (.inl true)) (.ite (x==23) (.leaf (.inl true)) (.ite (x==24) (.leaf (.inl true)) (.ite (x==27) (.leaf (.inl true)) (.leaf (.inl (x==28))))))) fun s5=>.ite s5 (.leaf ((⟨#[119,119,119,45,45]⟩:ByteArray),true)) (.ite (x==26) (.leaf ((⟨#[119,119,119,119,45]⟩:ByteArray),true)) (.join (S:=Bool) (zuh x) (.ite (x==29) (.leaf (.inl true)) (.leaf (.inl (x==30)))) fun s6=>.ite s6 (.leaf ((⟨#[118,45,45,45,112]⟩:ByteArray),true)) (.ite (x==31) (.leaf ((⟨#[45,118,45,45,112]⟩:ByteArray),true)) (.ite (x==32) (.leaf ((⟨#[97,45,45,45,115]⟩:ByteArray),true)) (.ite (x==33) (.leaf ((⟨#[45,97,45,45,115]⟩:ByteArray),true)) (.ite (x==34) (.leaf ((⟨#[45,119,45,45,45]⟩:ByteArray),true)) (.join (S:=Bool) (zui x) (.ite (x==35) (.leaf (.inl true)) (.leaf (.inl (x==37)))) fun s7=>.ite s7 (.leaf ((⟨#[45,45,45,45,45]⟩:ByteArray),true)) (.ite (x==36) (.leaf ((⟨#[45,45,45,45,113]⟩:ByteArray),true)) (.leaf ((⟨#[]⟩:ByteArray),false)))))))))))))))))))))
noncomputable def k27 (n:Nat):Con P_ Ty_:=zd (X:=Int) (R:=Yam) (pro:=[]) (y9n n) 58 y9o (fun x=>.two .no (.two (.two .no (.two (.two .no (.two .no (.two .no (.two .no (.two .no (.two .no (.join Bool (zuc x) ⟨[(4,.any),(11,.any)],[]⟩ .no (.two .no (.join Bool (zud x) ⟨[(4,.any),(19,.any)],[]⟩ .no (.two .no (.two .no (.two .no (.two .no (.two .no (.two .no (.two .no (.two .no (.two .no (.join Bool (zue x) ⟨[(4,.any),(32,.any)],[]⟩ .no (.two .no (.join Bool (zuf x) ⟨[(4,.any),(35,.any)],[]⟩ .no (.two .no (.join Bool (zug x) ⟨[(4,.any),(38,.any)],[]⟩ .no (.two .no (.two .no (.two .no (.join Bool (zuh x) ⟨[(4,.any),(46,.any)],[]⟩ .no (.two .no (.two .no (.two .no (.two .no (.two .no (.two .no (.two .no (.two .no (.two .no (.join Bool (zui x) ⟨[(4,.any),(57,.any)],[]⟩ .no .no))))))))))))))))))))))))))))))))))))) .no)) .no)) [.any] [] [] ⟨[(2,.any),(3,.any)],[]⟩ [] true (fun x=>[I_ x]) (fun x=>[]) (fun y=>([(2,.sc (.string y.1)),(3,B_ y.2)],[])) (fun y=>.tu [.sc (.string y.1),B_ y.2]) (fun y=>[]) (zzj n)
noncomputable def yb1 (n:Nat):Cx P_ Ty_:=⟨[],[],[],[]⟩
abbrev yb2:List (List Nat):=[[1,2,4],[1,2,4,14],[4,5],[4,5]]
noncomputable def zw7 (x:Xe×Int) (p:Bool):EH Ty_:=([(1,I_ x.2),(2,.pt 2 [] 0 0),(4,.pt 4 [] 0 0),(14,B_ p)],[(2,.lit 4 [[.im 1 x.1.Sign_,.im 2 x.1.Regs_,.im 3 x.1.Slots_,.im 4 x.1.List_]]),(4,.lit 2 [[I_ (0:Int),I_ (0:Int)]])])
noncomputable def y1e (n:Nat) (x:Xe×Int):Pt P_ Ty_ [] (Ybg):=.join (S:=Bool) (zw7 x) (.ite (decide (x.2<(0:Int))) (.leaf (.inl true)) (.leaf (.inl (decide (x.2≥(x.1.Regs_.length:Int)))))) fun s1=>.ite s1 (.leaf (false,(0:Int),(0:Int))) (.bnd (idx x.1.Regs_ x.2) fun y1=>.leaf (true,y1.Kind_,y1.Param_))
noncomputable def k70 (n:Nat):Con P_ Ty_:=zd (X:=Xe×Int) (R:=Ybg) (pro:=[]) (yb1 n) 101 yb2 (fun x=>.two .no (.two (.join Bool (zw7 x) ⟨[(1,.any),(2,.ref 2),(4,.ref 4),(14,.any)],[(2,.any),(4,.any)]⟩ .no .no) .no)) [.ag [.im 1,.im 2,.im 3,.im 4],.any] [] [] ⟨[(4,.ref 100000),(5,.any)],[(100000,.any)]⟩ [] true (fun x=>[.ag [.im 1 x.1.Sign_,.im 2 x.1.Regs_,.im 3 x.1.Slots_,.im 4 x.1.List_],I_ x.2]) (fun x=>[]) (fun y=>([(4,.pt 100000 [] 0 0),(5,B_ y.1)],[(100000,.lit 2 [[I_ y.2.1,I_ y.2.2]])])) (fun y=>.tu [.ag [I_ y.2.1,I_ y.2.2],B_ y.1]) (fun y=>[]) (y1e n)
noncomputable def yat (n:Nat):Cx P_ Ty_:=⟨[k70 n],[],[],[]⟩
abbrev yau:List (List Nat):=[[1,2,4,7],[1,2,4,7,14],[8],[1,7,9,10],[1,7,9,24],[8],[1,7,9,11],[1,7,9,11,12],[7,9,11,12,31],[7,9,11,12,31,32],[8],[7,9,11,12,31,35],[8],[7,9,11,12,31,40],[8],[7,9,11,12,31,43],[8],[7,9,11,31,49],[8],[7,9,11,57],[8],[8]]
noncomputable def y1b (n:Nat) (x:Ych):Pt P_ Ty_ [] Bool:=.ite (x.2.1==45) (.leaf (x.2.2.1==0)) (.call (k70 n) (x.1,x.2.2.1) fun (y1:Ybg)=>.ite (!y1.1) (.leaf false) (.ite (x.2.1==110) (.leaf (y1.2.1==1)) (.ite (x.2.1==119) (.leaf (y1.2.1==2)) (.ite (x.2.1==118) (.leaf (y1.2.1==3)) (.ite (x.2.1==100) (.ite (y1.2.1==1) (.leaf true) (.leaf (y1.2.1==3))) (.ite (x.2.1==120) (.ite (y1.2.1==1) (.leaf true) (.leaf (y1.2.1==x.2.2.2.Kind_ && (y1.2.2==x.2.2.2.Param_ && true)))) (.ite (x.2.1==99) (.ite (y1.2.1==x.2.2.2.Kind_ && (y1.2.2==x.2.2.2.Param_ && true)) (.leaf true) (.ite (y1.2.1==1) (.leaf (x.2.2.2.Kind_==3)) (.leaf false))) (.leaf true))))))))
noncomputable def k66 (n:Nat):Con P_ Ty_:=zd (X:=Ych) (R:=Bool) (pro:=[]) (yat n) 87 yau (fun x=>.no) [.ag [.im 1,.im 2,.im 3,.im 4],.any,.any,.ag [.any,.any]] [] [] ⟨[(8,.any)],[]⟩ [] true (fun x=>[.ag [.im 1 x.1.Sign_,.im 2 x.1.Regs_,.im 3 x.1.Slots_,.im 4 x.1.List_],.sc (.int .u8 x.2.1),I_ x.2.2.1,.ag [I_ x.2.2.2.Kind_,I_ x.2.2.2.Param_]]) (fun x=>[]) (fun y=>([(8,B_ y)],[])) (fun y=>B_ y) (fun y=>[]) (y1b n)
noncomputable def yav (n:Nat):Cx P_ Ty_:=⟨[],[],[],[]⟩
abbrev yaw:List (List Nat):=[[1,2,3],[6]]
noncomputable def y1c (n:Nat) (x:Yci):Pt P_ Ty_ [] Bool:=.ite (x.2.1==0) (.leaf true) (.ite (x.2.1==1) (.bnd (idx x.1.Sign_ x.2.2) fun y1=>.leaf (y1.Kind_==2)) (.leaf false))
noncomputable def k67 (n:Nat):Con P_ Ty_:=zd (X:=Yci) (R:=Bool) (pro:=[]) (yav n) 88 yaw (fun x=>.no) [.ag [.im 1,.im 2,.im 3,.im 4],.any,.any] [] [] ⟨[(6,.any)],[]⟩ [] true (fun x=>[.ag [.im 1 x.1.Sign_,.im 2 x.1.Regs_,.im 3 x.1.Slots_,.im 4 x.1.List_],I_ x.2.1,I_ x.2.2]) (fun x=>[]) (fun y=>([(6,B_ y)],[])) (fun y=>B_ y) (fun y=>[]) (y1c n)
noncomputable def yaj (n:Nat):Cx P_ Ty_:=⟨[k27 n,k58 n,k66 n,k67 n],[],[],[]⟩
abbrev yak:List (List Nat):=[[2,3],[2,3,5,6],[2,3,5,32],[4],[2,3,5,7],[2,3,5,7,36],[2,3,5,7,44],[4],[2,3,5,7],[2,3,5,7,53],[4],[2,3,5,7,81],[4],[2,3,5,8],[2,3,5,8,90],[2,3,5,8],[2,3,8,98],[2,3,8,98,99],[4],[2,3,8,98,109],[4],[2,3,8,98,117],[4],[2,3,141],[4],[4]]
noncomputable def zvm (x:Yah) (p:Yam):EH Ty_:=([(2,.pt 2 [] 0 0),(3,.pt 3 [] 0 0),(5,.sc (.string p.1)),(32,B_ p.2)],[(2,.lit 4 [[.im 1 x.1.Sign_,.im 2 x.1.Regs_,.im 3 x.1.Slots_,.im 4 x.1.List_]]),(3,.lit 7 [[I_ x.2.Op_,I_ x.2.D_,I_ x.2.A_,I_ x.2.B_,I_ x.2.C_,I_ x.2.N_,.sc (.int .u32 x.2.Bits_)]])])
noncomputable def zvn (x:Yah) (p:Yay):EH Ty_:=([(2,.pt 2 [] 0 0),(3,.pt 3 [] 0 0),(5,.sc (.string p.1)),(7,.pt 7 [] 0 0)],[(2,.lit 4 [[.im 1 x.1.Sign_,.im 2 x.1.Regs_,.im 3 x.1.Slots_,.im 4 x.1.List_]]),(3,.lit 7 [[I_ x.2.Op_,I_ x.2.D_,I_ x.2.A_,I_ x.2.B_,I_ x.2.C_,I_ x.2.N_,.sc (.int .u32 x.2.Bits_)]]),(7,.lit 2 [[I_ p.2.1,I_ p.2.2]])])
noncomputable def zvo (x:Yah) (p:Ybu):EH Ty_:=([(2,.pt 2 [] 0 0),(3,.pt 3 [] 0 0),(5,.sc (.string p.1)),(7,.pt 7 [] 0 0),(81,B_ p.2.1)],[(2,.lit 4 [[.im 1 x.1.Sign_,.im 2 x.1.Regs_,.im 3 x.1.Slots_,.im 4 x.1.List_]]),(3,.lit 7 [[I_ x.2.Op_,I_ x.2.D_,I_ x.2.A_,I_ x.2.B_,I_ x.2.C_,I_ x.2.N_,.sc (.int .u32 x.2.Bits_)]]),(7,.lit 2 [[I_ p.2.2.1,I_ p.2.2.2]])])
noncomputable def zvp (x:Yah) (p:Ybu):EH Ty_:=([(2,.pt 2 [] 0 0),(3,.pt 3 [] 0 0),(5,.sc (.string p.1)),(8,.pt 8 [] 0 0),(90,B_ p.2.1)],[(2,.lit 4 [[.im 1 x.1.Sign_,.im 2 x.1.Regs_,.im 3 x.1.Slots_,.im 4 x.1.List_]]),(3,.lit 7 [[I_ x.2.Op_,I_ x.2.D_,I_ x.2.A_,I_ x.2.B_,I_ x.2.C_,I_ x.2.N_,.sc (.int .u32 x.2.Bits_)]]),(8,.lit 2 [[I_ p.2.2.1,I_ p.2.2.2]])])
noncomputable def zvq (x:Yah) (p:Yay):EH Ty_:=([(2,.pt 2 [] 0 0),(3,.pt 3 [] 0 0),(5,.sc (.string p.1)),(8,.pt 8 [] 0 0)],[(2,.lit 4 [[.im 1 x.1.Sign_,.im 2 x.1.Regs_,.im 3 x.1.Slots_,.im 4 x.1.List_]]),(3,.lit 7 [[I_ x.2.Op_,I_ x.2.D_,I_ x.2.A_,I_ x.2.B_,I_ x.2.C_,I_ x.2.N_,.sc (.int .u32 x.2.Bits_)]]),(8,.lit 2 [[I_ p.2.1,I_ p.2.2]])])
noncomputable def y0r (n:Nat) (x:Yah):Pt P_ Ty_ [] Bool:=.call (k27 n) x.2.Op_ fun (y1:Yam)=>.join (S:=Yam) (zvm x) (.ite (!y1.2) (.leaf (.inl (y1.1,true))) (.ite (x.2.Op_ != (1:Int)) (.ite (x.2.Bits_ != (0:Int)) (.leaf (.inl (y1.1,true))) (.call (k58 n) x.2.Bits_ fun (y2:Bool)=>.leaf (.inl (y1.1,(!y2))))) (.call (k58 n) x.2.Bits_ fun (y3:Bool)=>.leaf (.inl (y1.1,(!y3)))))) fun s1=>.ite s1.2 (.leaf false) (.join (S:=Yay) (zvn x) (.need (0≤(0:Int)∧(0:Int)<(s1.1.size:Int)) (.ite ((za s1.1 (0:Int)) != (45:Int)) (.need (0≤(0:Int)∧(0:Int)<(s1.1.size:Int)) (.call (k66 n) (x.1,(za s1.1 (0:Int)),x.2.D_,(⟨(0:Int),(0:Int)⟩:Xb)) fun (y4:Bool)=>.ite (!y4) (.leaf (.inr false)) (.bnd (idx x.1.Regs_ x.2.D_) fun y5=>.leaf (.inl (s1.1,y5.Kind_,y5.Param_))))) (.ite (x.2.D_ != (0:Int)) (.leaf (.inr false)) (.leaf (.inl (s1.1,(0:Int),(0:Int))))))) fun s2=>.join (S:=Ybu) (zvo x) (.need (0≤(1:Int)∧(1:Int)<(s2.1.size:Int)) (.call (k66 n) (x.1,(za s2.1 (1:Int)),x.2.A_,(⟨s2.2.1,s2.2.2⟩:Xb)) fun (y6:Bool)=>.ite (!y6) (.leaf (.inl (s2.1,true,s2.2.1,s2.2.2))) (.need (0≤(2:Int)∧(2:Int)<(s2.1.size:Int)) (.call (k66 n) (x.1,(za s2.1 (2:Int)),x.2.B_,(⟨s2.2.1,s2.2.2⟩:Xb)) fun (y7:Bool)=>.ite (!y7) (.leaf (.inl (s2.1,true,s2.2.1,s2.2.2))) (.need (0≤(3:Int)∧(3:Int)<(s2.1.size:Int)) (.call (k66 n) (x.1,(za s2.1 (3:Int)),x.2.C_,(⟨s2.2.1,s2.2.2⟩:Xb)) fun (y8:Bool)=>.leaf (.inl (s2.1,(!y8),s2.2.1,s2.2.2)))))))) fun s3=>.ite s3.2.1 (.leaf false) (.join (S:=Yay) (zvq x) (.join (S:=Ybu) (zvp x) (.need (0≤(0:Int)∧(0:Int)<(s3.1.size:Int)) (.ite ((za s3.1 (0:Int))==45) (.need (0≤(1:Int)∧(1:Int)<(s3.1.size:Int)) (.leaf (.inl (s3.1,((za s3.1 (1:Int)) != (45:Int)),s3.2.2.1,s3.2.2.2)))) (.leaf (.inl (s3.1,false,s3.2.2.1,s3.2.2.2))))) fun s4=>.ite s4.2.1 (.bnd (idx x.1.Regs_ x.2.A_) fun y9=>.leaf (.inl (s4.1,y9.Kind_,y9.Param_))) (.leaf (.inl (s4.1,s4.2.2.1,s4.2.2.2)))) fun s5=>.need (0≤(4:Int)∧(4:Int)<(s5.1.size:Int)) (.ite ((za s5.1 (4:Int))==105) (.ite (decide (x.2.N_≥(0:Int))) (.leaf (decide (x.2.N_≤(2147483647:Int)))) (.leaf false)) (.ite ((za s5.1 (4:Int))==112) (.call (k67 n) (x.1,x.2.N_,s5.2.2) fun (y10:Bool)=>.leaf y10) (.ite ((za s5.1 (4:Int))==115) (.ite (decide (x.2.N_≥(0:Int))) (.ite (decide (x.2.N_<(x.1.Slots_.length:Int))) (.bnd (idx x.1.Slots_ x.2.N_) fun y11=>.leaf (y11.Type_.Kind_==s5.2.1 && (y11.Type_.Param_==s5.2.2 && true))) (.leaf false)) (.leaf false)) (.ite ((za s5.1 (4:Int))==113) (.ite (decide (x.2.N_≥(0:Int))) (.leaf (decide (x.2.N_<(x.1.Sign_.length:Int)))) (.leaf false)) (.leaf (x.2.N_==0))))))))
noncomputable def k59 (n:Nat):Con P_ Ty_:=zd (X:=Yah) (R:=Bool) (pro:=[]) (yaj n) 74 yak (fun x=>.two .no (.two .no (.two (.join (Yam) (zvm x) ⟨[(2,.ref 2),(3,.ref 3),(5,.any),(32,.any)],[(2,.any),(3,.any)]⟩ .no .no) (.two .no (.join (Yay) (zvn x) ⟨[(2,.ref 2),(3,.ref 3),(5,.any),(7,.ref 7)],[(2,.any),(3,.any),(7,.any)]⟩ .no (.two (.join (Ybu) (zvo x) ⟨[(2,.ref 2),(3,.ref 3),(5,.any),(7,.ref 7),(81,.any)],[(2,.any),(3,.any),(7,.any)]⟩ .no .no) (.two .no (.join (Yay) (zvq x) ⟨[(2,.ref 2),(3,.ref 3),(5,.any),(8,.ref 8)],[(2,.any),(3,.any),(8,.any)]⟩ (.join (Ybu) (zvp x) ⟨[(2,.ref 2),(3,.ref 3),(5,.any),(8,.ref 8),(90,.any)],[(2,.any),(3,.any),(8,.any)]⟩ .no .no) .no)))))))) [.ag [.im 1,.im 2,.im 3,.im 4],.ag [.any,.any,.any,.any,.any,.any,.any]] [] [] ⟨[(4,.any)],[]⟩ [] true (fun x=>[.ag [.im 1 x.1.Sign_,.im 2 x.1.Regs_,.im 3 x.1.Slots_,.im 4 x.1.List_],.ag [I_ x.2.Op_,I_ x.2.D_,I_ x.2.A_,I_ x.2.B_,I_ x.2.C_,I_ x.2.N_,.sc (.int .u32 x.2.Bits_)]]) (fun x=>[]) (fun y=>([(4,B_ y)],[])) (fun y=>B_ y) (fun y=>[]) (y0r n)
noncomputable def y9j (n:Nat):Cx P_ Ty_:=⟨[],[],[],[]⟩
abbrev y9k:List (List Nat):=[[0],[2]]
noncomputable def zzd (n:Nat) (x:Int):Pt P_ Ty_ [] Bool:=.ite (decide (x≥(3:Int))) (.leaf (decide (x≤(15:Int)))) (.leaf false)
noncomputable def k14 (n:Nat):Con P_ Ty_:=zd (X:=Int) (R:=Bool) (pro:=[]) (y9j n) 59 y9k (fun x=>.no) [.any] [] [] ⟨[(2,.any)],[]⟩ [] true (fun x=>[I_ x]) (fun x=>[]) (fun y=>([(2,B_ y)],[])) (fun y=>B_ y) (fun y=>[]) (zzd n)
noncomputable def yal (n:Nat):Cx P_ Ty_:=⟨[k14 n],[],[],[]⟩
abbrev yam:List (List Nat):=[[2,3],[2,3,5],[2,3,5,6],[2,3,5,6],[2,3,5,6],[2,3,5,6],[2,5],[2,3,5,21],[2,3,5,21],[2,5],[2,5,47],[4],[4]]
noncomputable def zvr (x:Yah) (p:Bool):EH Ty_:=([(2,.pt 2 [] 0 0),(3,.pt 3 [] 0 0),(5,I_ (-1:Int)),(6,B_ p)],[(2,.lit 4 [[.im 1 x.1.Sign_,.im 2 x.1.Regs_,.im 3 x.1.Slots_,.im 4 x.1.List_]]),(3,.lit 7 [[I_ x.2.Op_,I_ x.2.D_,I_ x.2.A_,I_ x.2.B_,I_ x.2.C_,I_ x.2.N_,.sc (.int .u32 x.2.Bits_)]])])
noncomputable def zvs (x:Yah) (p:Bool):EH Ty_:=([(2,.pt 2 [] 0 0),(3,.pt 3 [] 0 0),(5,I_ (-1:Int)),(21,B_ p)],[(2,.lit 4 [[.im 1 x.1.Sign_,.im 2 x.1.Regs_,.im 3 x.1.Slots_,.im 4 x.1.List_]]),(3,.lit 7 [[I_ x.2.Op_,I_ x.2.D_,I_ x.2.A_,I_ x.2.B_,I_ x.2.C_,I_ x.2.N_,.sc (.int .u32 x.2.Bits_)]])])
noncomputable def zvt (x:Yah) (p:Int):EH Ty_:=([(2,.pt 2 [] 0 0),(5,I_ p)],[(2,.lit 4 [[.im 1 x.1.Sign_,.im 2 x.1.Regs_,.im 3 x.1.Slots_,.im 4 x.1.List_]])])
noncomputable def zvu (x:Yah) (p:Yag):EH Ty_:=([(2,.pt 2 [] 0 0),(5,I_ p.1),(47,B_ p.2)],[(2,.lit 4 [[.im 1 x.1.Sign_,.im 2 x.1.Regs_,.im 3 x.1.Slots_,.im 4 x.1.List_]])])
noncomputable def y0s (n:Nat) (x:Yah):Pt P_ Ty_ [] Int:=.join (S:=Int) (zvt x) (.join (S:=Bool) (zvr x) (.call (k14 n) x.2.Op_ fun (y1:Bool)=>.ite y1 (.leaf (.inl true)) (.ite (x.2.Op_==29) (.leaf (.inl true)) (.ite (x.2.Op_==30) (.leaf (.inl true)) (.leaf (.inl (x.2.Op_==32)))))) fun s1=>.ite s1 (.leaf (.inl x.2.D_)) (.join (S:=Bool) (zvs x) (.ite (x.2.Op_==31) (.leaf (.inl true)) (.leaf (.inl (x.2.Op_==33)))) fun s2=>.ite s2 (.leaf (.inl x.2.A_)) (.leaf (.inl (-1:Int))))) fun s3=>.join (S:=Yag) (zvu x) (.ite (decide (s3<(0:Int))) (.leaf (.inl (s3,true))) (.ite (decide (s3≥(x.1.Regs_.length:Int))) (.leaf (.inl (s3,true))) (.bnd (idx x.1.Regs_ s3) fun y2=>.leaf (.inl (s3,(y2.Kind_ != (3:Int))))))) fun s4=>.ite s4.2 (.leaf (-1:Int)) (.bnd (idx x.1.Regs_ s4.1) fun y3=>.leaf y3.Param_)
noncomputable def k60 (n:Nat):Con P_ Ty_:=zd (X:=Yah) (R:=Int) (pro:=[]) (yal n) 34 yam (fun x=>.two .no (.two .no (.join Int (zvt x) ⟨[(2,.ref 2),(5,.any)],[(2,.any)]⟩ (.two (.join Bool (zvr x) ⟨[(2,.ref 2),(3,.ref 3),(5,.any),(6,.any)],[(2,.any),(3,.any)]⟩ .no (.two .no (.join Bool (zvs x) ⟨[(2,.ref 2),(3,.ref 3),(5,.any),(21,.any)],[(2,.any),(3,.any)]⟩ .no .no))) .no) (.two (.join (Yag) (zvu x) ⟨[(2,.ref 2),(5,.any),(47,.any)],[(2,.any)]⟩ .no .no) .no)))) [.ag [.im 1,.im 2,.im 3,.im 4],.ag [.any,.any,.any,.any,.any,.any,.any]] [] [] ⟨[(4,.any)],[]⟩ [] true (fun x=>[.ag [.im 1 x.1.Sign_,.im 2 x.1.Regs_,.im 3 x.1.Slots_,.im 4 x.1.List_],.ag [I_ x.2.Op_,I_ x.2.D_,I_ x.2.A_,I_ x.2.B_,I_ x.2.C_,I_ x.2.N_,.sc (.int .u32 x.2.Bits_)]]) (fun x=>[]) (fun y=>([(4,I_ y)],[])) (fun y=>I_ y) (fun y=>[]) (y0s n)
noncomputable def zz7 (n:Nat):Cx P_ Ty_:=⟨[k27 n],[(20,false,9),(38,false,9),(39,false,9)],[],[]⟩
abbrev zz8:List (List Nat):=[[1],[1,3],[1,3,4,5],[3,4,5,6],[3,4,5,6,7],[3,4,5,6,7,25],[3,4,5,6,7,32],[3,4,5,6,7],[3,4,5,6,7],[2]]
noncomputable def zsp (x:Xd) (v1:Yam) (q1:Yab) (p:Bool):EH Ty_:=([(3,.sw 600001 []),(4,.sc (.string v1.1)),(5,B_ v1.2),(6,.sw 20 []),(7,I_ q1.1),(25,B_ p)],[(600001,.typ false 9 q1.2),(20,.typ false 9 ([x.A_,x.B_,x.C_]:List Int))])
noncomputable def zsq (n:Nat) (x:Xd) (v1:Yam) (q1:Yab):Pt P_ Ty_ [] (Bo (Yab) (Yab) Empty):=.join (S:=Bool) (zsp x v1 q1) (.ite v1.2 (.leaf (.inl (decide (q1.1<(3:Int))))) (.leaf (.inl false))) fun s1=>.ite s1 (.need (0≤(IntKind.i64.wrap (q1.1+(1:Int)))∧(IntKind.i64.wrap (q1.1+(1:Int)))<(v1.1.size:Int)) (.ite ((za v1.1 (IntKind.i64.wrap (q1.1+(1:Int)))) != (45:Int)) (.need (0≤q1.1∧q1.1<(([x.A_,x.B_,x.C_]:List Int).length:Int)) (.bnd (([x.A_,x.B_,x.C_]:List Int)[q1.1.toNat]?) fun y2=>.need ((q1.2.length+([y2]:List Int).length) * 8≤140737488355328) (.leaf (.go ((IntKind.i64.wrap (q1.1+(1:Int))),(q1.2++([y2]:List Int))))))) (.leaf (.go ((IntKind.i64.wrap (q1.1+(1:Int))),q1.2))))) (.leaf (.out (q1.1,q1.2)))
noncomputable def zso (n:Nat) (x:Xd) (v1:Yam):LCon P_ Ty_ []:=lcon (X:=Yab) (Y:=Yab) (Z:=Empty) (zz7 n) (subC [1,1,1,1,0,1,0,0] (fnC P_ 75 zz8)) (fun q1=>.two (.join Bool (zsp x v1 q1) ⟨[(3,.ref 600001),(4,.any),(5,.any),(6,.ref 20),(7,.any),(25,.any)],[(600001,.any),(20,.any)]⟩ .no .no) .no) 0 false ⟨[(3,.own 600001 false 9),(4,.any),(5,.any),(6,.ref 20),(7,.any)],[(600001,.any),(20,.any)]⟩ ⟨[(3,.ref 600001),(4,.any),(5,.any),(6,.ref 20),(7,.any),(25,.any)],[(600001,.any),(20,.any)]⟩ ⟨[],[]⟩ (fun q1=>([(3,.sw 600001 []),(4,.sc (.string v1.1)),(5,B_ v1.2),(6,.sw 20 []),(7,I_ q1.1)],[(600001,.typ false 9 q1.2),(20,.typ false 9 ([x.A_,x.B_,x.C_]:List Int))])) (fun p=>([(3,.sw 600001 []),(4,.sc (.string v1.1)),(5,B_ v1.2),(6,.sw 20 []),(7,I_ p.1),(25,B_ false)],[(600001,.typ false 9 p.2),(20,.typ false 9 ([x.A_,x.B_,x.C_]:List Int))])) (fun p=>nomatch p) n (zsq n x v1)
noncomputable def zz9 (n:Nat) (x:Xd):Pt P_ Ty_ [] (List Int):=.call (k27 n) x.Op_ fun (y1:Yam)=>.loop (V:=Yam) (zso n x) (y1.1,y1.2) ((0:Int),([]:List Int)) fun (v1:Yam) (y3:Yab)=>.leaf y3.2
noncomputable def k10 (n:Nat):Con P_ Ty_:=zd (X:=Xd) (R:=(List Int)) (pro:=[]) (zz7 n) 75 zz8 (fun x=>.two .no (.two .no (.two .no (.two .no (.two (.two .no (.two (.loop (Yam) (zso n x) false ⟨[(3,.own 600001 false 9),(4,.any),(5,.any),(6,.ref 20),(7,.any)],[(600001,.any),(20,.any)]⟩) .no)) .no))))) [.ag [.any,.any,.any,.any,.any,.any,.any]] [] [100000] ⟨[(2,.ref 100000)],[(100000,.any)]⟩ [100000] true (fun x=>[.ag [I_ x.Op_,I_ x.D_,I_ x.A_,I_ x.B_,I_ x.C_,I_ x.N_,.sc (.int .u32 x.Bits_)]]) (fun x=>[]) (fun y=>([(2,.sw 100000 [])],[(100000,.typ false 9 y)])) (fun y=>.sw 100000 []) (fun y=>[(100000,.typ false 9 y)]) (zz9 n)
noncomputable def y02 (n:Nat):Cx P_ Ty_:=⟨[k59 n,k60 n,k10 n],[],[],[]⟩
abbrev y03:List (List Nat):=[[2,3,4,5],[2,3,4,5,9],[2,3,5,9,49],[8],[2,3,5,9,10],[2,3,5,9,10,11],[2,3,5,9,10,11,55],[2,3,5,9,10,11,65],[8],[2,3,5,9,10,11],[3,9,67],[3,9,67,68],[3,9,67,68],[8],[3,9,67,74],[8],[9,83],[8],[8]]
noncomputable def zv7 (x:Yaz) (p:Bool):EH Ty_:=([(2,.im 8 x.2.2.1),(3,.im 11 x.2.2.2),(4,.pt 4 [] 0 0),(5,.pt 5 [] 0 0),(9,B_ p)],[(4,.lit 4 [[.im 1 x.1.Sign_,.im 2 x.1.Regs_,.im 3 x.1.Slots_,.im 4 x.1.List_]]),(5,.lit 7 [[I_ x.2.1.Op_,I_ x.2.1.D_,I_ x.2.1.A_,I_ x.2.1.B_,I_ x.2.1.C_,I_ x.2.1.N_,.sc (.int .u32 x.2.1.Bits_)]])])
noncomputable def zv8 (x:Yaz) (p:Ybv):EH Ty_:=([(2,.im 8 x.2.2.1),(3,.im 11 x.2.2.2),(5,.pt 5 [] 0 0),(9,B_ p.1),(49,B_ p.2)],[(5,.lit 7 [[I_ x.2.1.Op_,I_ x.2.1.D_,I_ x.2.1.A_,I_ x.2.1.B_,I_ x.2.1.C_,I_ x.2.1.N_,.sc (.int .u32 x.2.1.Bits_)]])])
noncomputable def zv9 (x:Yaz) (p:Ybv):EH Ty_:=([(3,.im 11 x.2.2.2),(9,B_ p.1),(67,I_ x.2.1.Op_),(68,B_ p.2)],[])
noncomputable def zva (n:Nat) (x:Yaz) (v1:Ybh) (q1:Int):Pt P_ Ty_ [] (Bo Int Int Unit):=.ite (decide (q1<(v1.2.length:Int))) (.need (0≤q1∧q1<(v1.2.length:Int)) (.bnd (v1.2[q1.toNat]?) fun y6=>.bnd (idx x.2.2.1 y6) fun y7=>.ite (!y7) (.leaf (.ret ())) (.leaf (.go (IntKind.i64.wrap (q1+(1:Int))))))) (.leaf (.out q1))
noncomputable def zv6 (n:Nat) (x:Yaz) (v1:Ybh):LCon P_ Ty_ []:=lcon (X:=Int) (Y:=Int) (Z:=Unit) (y02 n) (subC [1,1,1,1,0,1,0,0] (fnC P_ 53 y03)) (fun q1=>.no) 0 true ⟨[(2,.im 8),(3,.im 11),(5,.ref 5),(9,.any),(10,.ref 51),(11,.any)],[(5,.any),(51,.any)]⟩ ⟨[(2,.im 8),(3,.im 11),(5,.ref 5),(9,.any),(10,.ref 51),(11,.any),(55,.any)],[(5,.any),(51,.any)]⟩ ⟨[(8,.any)],[]⟩ (fun q1=>([(2,.im 8 x.2.2.1),(3,.im 11 x.2.2.2),(5,.pt 5 [] 0 0),(9,B_ v1.1),(10,.sw 51 []),(11,I_ q1)],[(5,.lit 7 [[I_ x.2.1.Op_,I_ x.2.1.D_,I_ x.2.1.A_,I_ x.2.1.B_,I_ x.2.1.C_,I_ x.2.1.N_,.sc (.int .u32 x.2.1.Bits_)]]),(51,.typ false 9 v1.2)])) (fun p=>([(2,.im 8 x.2.2.1),(3,.im 11 x.2.2.2),(5,.pt 5 [] 0 0),(9,B_ v1.1),(10,.sw 51 []),(11,I_ p),(55,B_ false)],[(5,.lit 7 [[I_ x.2.1.Op_,I_ x.2.1.D_,I_ x.2.1.A_,I_ x.2.1.B_,I_ x.2.1.C_,I_ x.2.1.N_,.sc (.int .u32 x.2.1.Bits_)]]),(51,.typ false 9 v1.2)])) (fun p=>([(8,B_ false)],[])) n (zva n x v1)
noncomputable def y04 (n:Nat) (x:Yaz):Pt P_ Ty_ [] Bool:=.join (S:=Bool) (zv7 x) (.ite (decide ((x.2.2.2.length:Int) > (0:Int))) (.bnd (idx x.2.2.2 (IntKind.i64.wrap ((x.2.2.2.length:Int) - (1:Int)))) fun y1=>.leaf (.inl (y1.Op_==36))) (.leaf (.inl false))) fun s1=>.join (S:=Ybv) (zv8 x) (.call (k59 n) (x.1,x.2.1) fun (y2:Bool)=>.ite (!y2) (.leaf (.inl (s1,true))) (.ite s1 (.ite (x.2.1.Op_ != (37:Int)) (.call (k60 n) (x.1,x.2.1) fun (y3:Int)=>.bnd (idx x.2.2.2 (IntKind.i64.wrap ((x.2.2.2.length:Int) - (1:Int)))) fun y4=>.leaf (.inl (s1,(y3 != y4.Param_)))) (.leaf (.inl (s1,false)))) (.leaf (.inl (s1,false))))) fun s2=>.ite s2.2 (.leaf false) (.call (k10 n) x.2.1 fun (y5:(List Int))=>.loopR (V:=Ybh) (zv6 n x) (s2.1,y5) (0:Int) (fun (v1:Ybh) (y8:Int)=>.join (S:=Ybv) (zv9 x) (.ite (x.2.1.Op_==34) (.leaf (.inl (v1.1,true))) (.leaf (.inl (v1.1,(x.2.1.Op_==36))))) fun s3=>.ite s3.2 (.leaf (decide ((x.2.2.2.length:Int)<(64:Int)))) (.ite (x.2.1.Op_==35) (.ite (decide ((x.2.2.2.length:Int) > (0:Int))) (.leaf (!s3.1)) (.leaf false)) (.ite (x.2.1.Op_==37) (.leaf s3.1) (.leaf true)))) fun (v1:Ybh) (z1:Unit)=>.leaf false)
noncomputable def k41 (n:Nat):Con P_ Ty_:=zd (X:=Yaz) (R:=Bool) (pro:=[]) (y02 n) 53 y03 (fun x=>.two .no (.join Bool (zv7 x) ⟨[(2,.im 8),(3,.im 11),(4,.ref 4),(5,.ref 5),(9,.any)],[(4,.any),(5,.any)]⟩ .no (.two (.join (Ybv) (zv8 x) ⟨[(2,.im 8),(3,.im 11),(5,.ref 5),(9,.any),(49,.any)],[(5,.any)]⟩ .no .no) (.two .no (.two (.two .no (.two (.loop (Ybh) (zv6 n x) true ⟨[(2,.im 8),(3,.im 11),(5,.ref 5),(9,.any),(10,.ref 51),(11,.any)],[(5,.any),(51,.any)]⟩) .no)) (.two (.two .no (.two (.join (Ybv) (zv9 x) ⟨[(3,.im 11),(9,.any),(67,.any),(68,.any)],[]⟩ .no .no) .no)) .no)))))) [.ag [.im 1,.im 2,.im 3,.im 4],.ag [.any,.any,.any,.any,.any,.any,.any],.im 8,.im 11] [] [] ⟨[(8,.any)],[]⟩ [] true (fun x=>[.ag [.im 1 x.1.Sign_,.im 2 x.1.Regs_,.im 3 x.1.Slots_,.im 4 x.1.List_],.ag [I_ x.2.1.Op_,I_ x.2.1.D_,I_ x.2.1.A_,I_ x.2.1.B_,I_ x.2.1.C_,I_ x.2.1.N_,.sc (.int .u32 x.2.1.Bits_)],.im 8 x.2.2.1,.im 11 x.2.2.2]) (fun x=>[]) (fun y=>([(8,B_ y)],[])) (fun y=>B_ y) (fun y=>[]) (y04 n)
noncomputable def ya5 (n:Nat):Cx P_ Ty_:=⟨[],[(6,false,8)],[],[]⟩
abbrev ya6:List (List Nat):=[[0],[0,3],[2]]
noncomputable def y05 (n:Nat) (x:(List Bool)):Pt P_ Ty_ [] (List Bool):=.need (x.length * 1≤140737488355328) (.leaf x)
noncomputable def k42 (n:Nat):Con P_ Ty_:=zd (X:=(List Bool)) (R:=(List Bool)) (pro:=[]) (ya5 n) 54 ya6 (fun x=>.no) [.im 8] [] [100000] ⟨[(2,.ref 100000)],[(100000,.any)]⟩ [100000] true (fun x=>[.im 8 x]) (fun x=>[]) (fun y=>([(2,.sw 100000 [])],[(100000,.typ false 8 y)])) (fun y=>.sw 100000 []) (fun y=>[(100000,.typ false 8 y)]) (y05 n)
noncomputable def y9f (n:Nat):Cx P_ Ty_:=⟨[k27 n],[],[],[]⟩
abbrev y9g:List (List Nat):=[[1],[3,4],[2]]
noncomputable def zzb (n:Nat) (x:Xd):Pt P_ Ty_ [] Bool:=.call (k27 n) x.Op_ fun (y1:Yam)=>.ite y1.2 (.need (0≤(0:Int)∧(0:Int)<(y1.1.size:Int)) (.leaf ((za y1.1 (0:Int)) != (45:Int)))) (.leaf false)
noncomputable def k12 (n:Nat):Con P_ Ty_:=zd (X:=Xd) (R:=Bool) (pro:=[]) (y9f n) 33 y9g (fun x=>.no) [.ag [.any,.any,.any,.any,.any,.any,.any]] [] [] ⟨[(2,.any)],[]⟩ [] true (fun x=>[.ag [I_ x.Op_,I_ x.D_,I_ x.A_,I_ x.B_,I_ x.C_,I_ x.N_,.sc (.int .u32 x.Bits_)]]) (fun x=>[]) (fun y=>([(2,B_ y)],[])) (fun y=>B_ y) (fun y=>[]) (zzb n)
noncomputable def zft (n:Nat):Cx P_ Ty_:=⟨[k38 n,k39 n,k40 n,k41 n,k42 n,k12 n],[(75,false,8),(76,false,8),(113,true,11),(114,true,11)],[113],[]⟩
abbrev zfu:List (List Nat):=[[1],[1,4],[1,4,15],[2,3],[1,19],[2,3],[1,30],[2,3],[1,5],[1,5,39],[1,5,50],[2,3],[1,5],[1,6],[1,6,55],[1,6,66],[2,3],[1,6],[1,7],[1,7,8],[1,7,8,71],[1,7,8],[1,7,8],[1,7,9],[1,7,9,10],[1,7,9,10,81],[1,7,9,10,11],[1,7,9,10,11,94],[2,3],[1,7,9,10,11,96],[1,7,9,10],[1,7,9,10,11,115],[1,7,9,10],[1,7,9,10],[1,7,9,10,11,132],[1,7,9,10],[1,7,9,10,11,141],[1,7,9,10],[1,7,9,10],[1,150],[2,3],[2,3]]
noncomputable def ztz (x:Xe) (p:Bool):EH Ty_:=([(1,.pt 1 [] 0 0),(19,B_ p)],[(1,.lit 4 [[.im 1 x.Sign_,.im 2 x.Regs_,.im 3 x.Slots_,.im 4 x.List_]])])
noncomputable def zu0 (x:Xe) (v4:Unit) (q4:Yba) (p:Ybs):EH Ty_:=([(1,.pt 1 [] 0 0),(7,.sw 600002 []),(9,.sw 600003 []),(10,I_ q4.1),(11,.pt 11 [] 0 0),(96,B_ p.1)],[(1,.lit 4 [[.im 1 x.Sign_,.im 2 x.Regs_,.im 3 x.Slots_,.im 4 x.List_]]),(600002,.typ false 8 q4.2.1),(600003,.typ true 11 q4.2.2),(11,.lit 7 [[I_ p.2.1,I_ p.2.2.1,I_ p.2.2.2.1,I_ p.2.2.2.2.1,I_ p.2.2.2.2.2.1,I_ p.2.2.2.2.2.2.1,.sc (.int .u32 p.2.2.2.2.2.2.2)]])])
noncomputable def zu1 (n:Nat) (x:Xe) (v1:Unit) (q1:Int):Pt P_ Ty_ [] (Bo Int Int Unit):=.ite (decide (q1<(x.Regs_.length:Int))) (.bnd (idx x.Regs_ q1) fun y2=>.call (k39 n) (y2,x.Sign_) fun (y3:Bool)=>.ite (!y3) (.leaf (.ret ())) (.leaf (.go (IntKind.i64.wrap (q1+(1:Int)))))) (.leaf (.out q1))
noncomputable def ztv (n:Nat) (x:Xe) (v1:Unit):LCon P_ Ty_ []:=lcon (X:=Int) (Y:=Int) (Z:=Unit) (zft n) (subC [1,1,1,0,1,0,0] (fnC P_ 27 zfu)) (fun q1=>.no) 1 true ⟨[(1,.ref 1),(5,.any)],[(1,.any)]⟩ ⟨[(1,.ref 1),(5,.any),(39,.any)],[(1,.any)]⟩ ⟨[(2,.any),(3,.any)],[]⟩ (fun q1=>([(1,.pt 1 [] 0 0),(5,I_ q1)],[(1,.lit 4 [[.im 1 x.Sign_,.im 2 x.Regs_,.im 3 x.Slots_,.im 4 x.List_]])])) (fun p=>([(1,.pt 1 [] 0 0),(5,I_ p),(39,B_ false)],[(1,.lit 4 [[.im 1 x.Sign_,.im 2 x.Regs_,.im 3 x.Slots_,.im 4 x.List_]])])) (fun p=>([(2,I_ (160:Int)),(3,I_ (-1:Int))],[])) n (zu1 n x v1)
noncomputable def zu2 (n:Nat) (x:Xe) (v2:Unit) (q2:Int):Pt P_ Ty_ [] (Bo Int Int Unit):=.ite (decide (q2<(x.Slots_.length:Int))) (.bnd (idx x.Slots_ q2) fun y5=>.call (k40 n) (y5,x.Sign_) fun (y6:Bool)=>.ite (!y6) (.leaf (.ret ())) (.leaf (.go (IntKind.i64.wrap (q2+(1:Int)))))) (.leaf (.out q2))
noncomputable def ztw (n:Nat) (x:Xe) (v2:Unit):LCon P_ Ty_ []:=lcon (X:=Int) (Y:=Int) (Z:=Unit) (zft n) (subC [1,1,1,1,0,1,0,0] (fnC P_ 27 zfu)) (fun q2=>.no) 3 true ⟨[(1,.ref 1),(6,.any)],[(1,.any)]⟩ ⟨[(1,.ref 1),(6,.any),(55,.any)],[(1,.any)]⟩ ⟨[(2,.any),(3,.any)],[]⟩ (fun q2=>([(1,.pt 1 [] 0 0),(6,I_ q2)],[(1,.lit 4 [[.im 1 x.Sign_,.im 2 x.Regs_,.im 3 x.Slots_,.im 4 x.List_]])])) (fun p=>([(1,.pt 1 [] 0 0),(6,I_ p),(55,B_ false)],[(1,.lit 4 [[.im 1 x.Sign_,.im 2 x.Regs_,.im 3 x.Slots_,.im 4 x.List_]])])) (fun p=>([(2,I_ (160:Int)),(3,I_ (-1:Int))],[])) n (zu2 n x v2)
noncomputable def zu3 (n:Nat) (x:Xe) (v3:Unit) (q3:Yad):Pt P_ Ty_ [] (Bo (Yad) (Yad) Empty):=.ite (decide (q3.1<(x.Regs_.length:Int))) (.need ((q3.2.length+([false]:List Bool).length) * 1≤140737488355328) (.leaf (.go ((IntKind.i64.wrap (q3.1+(1:Int))),(q3.2++([false]:List Bool)))))) (.leaf (.out (q3.1,q3.2)))
noncomputable def ztx (n:Nat) (x:Xe) (v3:Unit):LCon P_ Ty_ []:=lcon (X:=Yad) (Y:=Yad) (Z:=Empty) (zft n) (subC [1,1,1,1,1,1,0,1,0,0] (fnC P_ 27 zfu)) (fun q3=>.no) 5 false ⟨[(1,.ref 1),(7,.own 600001 false 8),(8,.any)],[(1,.any),(600001,.any)]⟩ ⟨[(1,.ref 1),(7,.ref 600001),(8,.any),(71,.any)],[(1,.any),(600001,.any)]⟩ ⟨[],[]⟩ (fun q3=>([(1,.pt 1 [] 0 0),(7,.sw 600001 []),(8,I_ q3.1)],[(1,.lit 4 [[.im 1 x.Sign_,.im 2 x.Regs_,.im 3 x.Slots_,.im 4 x.List_]]),(600001,.typ false 8 q3.2)])) (fun p=>([(1,.pt 1 [] 0 0),(7,.sw 600001 []),(8,I_ p.1),(71,B_ false)],[(1,.lit 4 [[.im 1 x.Sign_,.im 2 x.Regs_,.im 3 x.Slots_,.im 4 x.List_]]),(600001,.typ false 8 p.2)])) (fun p=>nomatch p) n (zu3 n x v3)
noncomputable def zu4 (n:Nat) (x:Xe) (v4:Unit) (q4:Yba):Pt P_ Ty_ [] (Bo (Yba) (Yba) Int):=.ite (decide (q4.1<(x.List_.length:Int))) (.bnd (idx x.List_ q4.1) fun y9=>.call (k41 n) (x,y9,q4.2.1,q4.2.2) fun (y10:Bool)=>.ite (!y10) (.leaf (.ret q4.1)) (.join (S:=Ybs) (zu0 x v4 q4) (.ite (y9.Op_==34) (.leaf (.inl (true,y9.Op_,y9.D_,y9.A_,y9.B_,y9.C_,y9.N_,y9.Bits_))) (.leaf (.inl ((y9.Op_==36),y9.Op_,y9.D_,y9.A_,y9.B_,y9.C_,y9.N_,y9.Bits_)))) fun s2=>.ite s2.1 (.call (k42 n) q4.2.1 fun (y11:(List Bool))=>.need ((q4.2.2.length+([(⟨s2.2.1,s2.2.2.2.2.2.2.1,y11⟩:Xg)]:List Xg).length) * 40≤140737488355328) (.leaf (.go ((IntKind.i64.wrap (q4.1+(1:Int))),q4.2.1,(q4.2.2++([(⟨s2.2.1,s2.2.2.2.2.2.2.1,y11⟩:Xg)]:List Xg)))))) (.ite (s2.2.1==35) (.need (0≤(IntKind.i64.wrap ((q4.2.2.length:Int) - (1:Int)))∧(IntKind.i64.wrap ((q4.2.2.length:Int) - (1:Int)))<(q4.2.2.length:Int)) (.bnd (q4.2.2[(IntKind.i64.wrap ((q4.2.2.length:Int) - (1:Int))).toNat]?) fun y12=>.bnd (q4.2.2[(IntKind.i64.wrap ((q4.2.2.length:Int) - (1:Int))).toNat]?) fun y13=>.call (k42 n) y13.Set_ fun (y14:(List Bool))=>.need (0≤(IntKind.i64.wrap ((q4.2.2.length:Int) - (1:Int)))∧(IntKind.i64.wrap ((q4.2.2.length:Int) - (1:Int)))≤(q4.2.2.length:Int)) (.need ((IntKind.i64.wrap ((q4.2.2.length:Int) - (1:Int))).toNat≤q4.2.2.length) (.leaf (.go ((IntKind.i64.wrap (q4.1+(1:Int))),y14,(q4.2.2.take ((IntKind.i64.wrap ((q4.2.2.length:Int) - (1:Int))).toNat)))))))) (.ite (s2.2.1==37) (.need (0≤(IntKind.i64.wrap ((q4.2.2.length:Int) - (1:Int)))∧(IntKind.i64.wrap ((q4.2.2.length:Int) - (1:Int)))≤(q4.2.2.length:Int)) (.need ((IntKind.i64.wrap ((q4.2.2.length:Int) - (1:Int))).toNat≤q4.2.2.length) (.leaf (.go ((IntKind.i64.wrap (q4.1+(1:Int))),q4.2.1,(q4.2.2.take ((IntKind.i64.wrap ((q4.2.2.length:Int) - (1:Int))).toNat))))))) (.call (k12 n) (⟨s2.2.1,s2.2.2.1,s2.2.2.2.1,s2.2.2.2.2.1,s2.2.2.2.2.2.1,s2.2.2.2.2.2.2.1,s2.2.2.2.2.2.2.2⟩:Xd) fun (y15:Bool)=>.ite y15 (.need (0≤s2.2.2.1∧s2.2.2.1<(q4.2.1.length:Int)) (.bnd (q4.2.1[s2.2.2.1.toNat]?) fun y16=>.leaf (.go ((IntKind.i64.wrap (q4.1+(1:Int))),(q4.2.1.set s2.2.2.1.toNat true),q4.2.2)))) (.leaf (.go ((IntKind.i64.wrap (q4.1+(1:Int))),q4.2.1,q4.2.2)))))))) (.leaf (.out (q4.1,q4.2.1,q4.2.2)))
noncomputable def zty (n:Nat) (x:Xe) (v4:Unit):LCon P_ Ty_ []:=lcon (X:=Yba) (Y:=Yba) (Z:=Int) (zft n) (subC [1,1,1,1,1,1,1,1,0,1,0,0] (fnC P_ 27 zfu)) (fun q4=>.two .no (.two (.two (.two .no (.two .no (.two (.join (Ybs) (zu0 x v4 q4) ⟨[(1,.ref 1),(7,.ref 600002),(9,.ref 600003),(10,.any),(11,.ref 11),(96,.any)],[(1,.any),(600002,.any),(600003,.any),(11,.any)]⟩ .no .no) .no))) .no) .no)) 7 true ⟨[(1,.ref 1),(7,.ref 600002),(9,.own 600003 true 11),(10,.any)],[(1,.any),(600002,.any),(600003,.any)]⟩ ⟨[(1,.ref 1),(7,.ref 600002),(9,.ref 600003),(10,.any),(81,.any)],[(1,.any),(600002,.any),(600003,.any)]⟩ ⟨[(2,.any),(3,.any)],[]⟩ (fun q4=>([(1,.pt 1 [] 0 0),(7,.sw 600002 []),(9,.sw 600003 []),(10,I_ q4.1)],[(1,.lit 4 [[.im 1 x.Sign_,.im 2 x.Regs_,.im 3 x.Slots_,.im 4 x.List_]]),(600002,.typ false 8 q4.2.1),(600003,.typ true 11 q4.2.2)])) (fun p=>([(1,.pt 1 [] 0 0),(7,.sw 600002 []),(9,.sw 600003 []),(10,I_ p.1),(81,B_ false)],[(1,.lit 4 [[.im 1 x.Sign_,.im 2 x.Regs_,.im 3 x.Slots_,.im 4 x.List_]]),(600002,.typ false 8 p.2.1),(600003,.typ true 11 p.2.2)])) (fun p=>([(2,I_ (160:Int)),(3,I_ p)],[])) n (zu4 n x v4)
noncomputable def zzh (n:Nat) (x:Xe):Pt P_ Ty_ [] (Yaa):=.call (k38 n) x.Sign_ fun (y1:Int)=>.ite (y1 != (0:Int)) (.leaf (y1,(-1:Int))) (.join (S:=Bool) (ztz x) (.ite (decide ((x.Regs_.length:Int) > (16384:Int))) (.leaf (.inl true)) (.leaf (.inl (decide ((x.List_.length:Int) > (32768:Int)))))) fun s1=>.ite s1 (.leaf ((181:Int),(-1:Int))) (.ite (decide ((x.Slots_.length:Int) > (4096:Int))) (.leaf ((180:Int),(-1:Int))) (.loopR (V:=Unit) (ztv n x) () (0:Int) (fun (v1:Unit) (y4:Int)=>.loopR (V:=Unit) (ztw n x) () (0:Int) (fun (v2:Unit) (y7:Int)=>.loop (V:=Unit) (ztx n x) () ((0:Int),([]:List Bool)) fun (v3:Unit) (y8:Yad)=>.loopR (V:=Unit) (zty n x) () ((0:Int),y8.2,([]:List Xg)) (fun (v4:Unit) (y17:Yba)=>.ite (decide ((y17.2.2.length:Int) > (0:Int))) (.leaf ((160:Int),(x.List_.length:Int))) (.leaf ((0:Int),(0:Int)))) fun (v4:Unit) (z3:Int)=>.leaf ((160:Int),z3)) fun (v2:Unit) (z2:Unit)=>.leaf ((160:Int),(-1:Int))) fun (v1:Unit) (z1:Unit)=>.leaf ((160:Int),(-1:Int)))))
noncomputable def k21 (n:Nat):Con P_ Ty_:=zd (X:=Xe) (R:=Yaa) (pro:=[]) (zft n) 27 zfu (fun x=>.two .no (.two .no (.two (.two (.two .no (.two .no (.join Bool (ztz x) ⟨[(1,.ref 1),(19,.any)],[(1,.any)]⟩ .no .no))) .no) (.two (.two .no (.two (.loop Unit (ztv n x) true ⟨[(1,.ref 1),(5,.any)],[(1,.any)]⟩) .no)) (.two (.two .no (.two (.loop Unit (ztw n x) true ⟨[(1,.ref 1),(6,.any)],[(1,.any)]⟩) .no)) (.two .no (.two (.two .no (.two (.loop Unit (ztx n x) false ⟨[(1,.ref 1),(7,.own 600001 false 8),(8,.any)],[(1,.any),(600001,.any)]⟩) .no)) (.two .no (.two (.two .no (.two (.loop Unit (zty n x) true ⟨[(1,.ref 1),(7,.ref 600002),(9,.own 600003 true 11),(10,.any)],[(1,.any),(600002,.any),(600003,.any)]⟩) .no)) .no))))))))) [.ag [.im 1,.im 2,.im 3,.im 4]] [] [] ⟨[(2,.any),(3,.any)],[]⟩ [] true (fun x=>[.ag [.im 1 x.Sign_,.im 2 x.Regs_,.im 3 x.Slots_,.im 4 x.List_]]) (fun x=>[]) (fun y=>([(2,I_ y.1),(3,I_ y.2)],[])) (fun y=>.tu [I_ y.1,I_ y.2]) (fun y=>[]) (zzh n)
noncomputable def y62 (n:Nat):Cx P_ Ty_:=⟨[k21 n],[],[],[]⟩
abbrev y63:List (List Nat):=[[1],[3],[2]]
noncomputable def zsv (n:Nat) (x:Xe):Pt P_ Ty_ [] Bool:=.call (k21 n) x fun (y1:Yaa)=>.leaf (y1.1==0)
noncomputable def k125 (n:Nat):Con P_ Ty_:=zd (X:=Xe) (R:=Bool) (pro:=[]) (y62 n) 11 y63 (fun x=>.no) [.ag [.im 1,.im 2,.im 3,.im 4]] [] [] ⟨[(2,.any)],[]⟩ [] true (fun x=>[.ag [.im 1 x.Sign_,.im 2 x.Regs_,.im 3 x.Slots_,.im 4 x.List_]]) (fun x=>[]) (fun y=>([(2,B_ y)],[])) (fun y=>B_ y) (fun y=>[]) (zsv n)
noncomputable def y66 (n:Nat):Cx P_ Ty_:=⟨[],[(7,false,4),(9,false,1),(12,false,2)],[],[]⟩
abbrev y67:List (List Nat):=[[0],[0,1],[0,1,2],[0]]
noncomputable def y68 (n:Nat) (x:Unit):Pt P_ Ty_ [] Unit:=.leaf ()
noncomputable def k127 (n:Nat):Con P_ Ty_:=zd (X:=Unit) (R:=Unit) (pro:=[]) (y66 n) 28 y67 (fun x=>.no) [] [] [100000] ⟨[(0,.ref 100000)],[(100000,.any)]⟩ [100000] true (fun x=>[]) (fun x=>[]) (fun y=>([(0,.pt 100000 [] 0 0)],[(100000,.lit 4 [[.ow false 1 ([(⟨(⟨#[119]⟩:ByteArray),(1:Int),(2:Int)⟩:Xa)]:List Xa),.ow false 2 ([(⟨(3:Int),(0:Int)⟩:Xb),(⟨(3:Int),(0:Int)⟩:Xb)]:List Xb),.zs,.ow false 4 ([(⟨(29:Int),(0:Int),(0:Int),(0:Int),(0:Int),(0:Int),(0:Int)⟩:Xd),(⟨(12:Int),(1:Int),(0:Int),(0:Int),(0:Int),(0:Int),(0:Int)⟩:Xd),(⟨(31:Int),(0:Int),(1:Int),(0:Int),(0:Int),(0:Int),(0:Int)⟩:Xd)]:List Xd)]])])) (fun y=>.ag [.sw 100000 [(0,0)],.sw 100000 [(0,1)],.zs,.sw 100000 [(0,3)]]) (fun y=>[(100000,.lit 4 [[.ow false 1 ([(⟨(⟨#[119]⟩:ByteArray),(1:Int),(2:Int)⟩:Xa)]:List Xa),.ow false 2 ([(⟨(3:Int),(0:Int)⟩:Xb),(⟨(3:Int),(0:Int)⟩:Xb)]:List Xb),.zs,.ow false 4 ([(⟨(29:Int),(0:Int),(0:Int),(0:Int),(0:Int),(0:Int),(0:Int)⟩:Xd),(⟨(12:Int),(1:Int),(0:Int),(0:Int),(0:Int),(0:Int),(0:Int)⟩:Xd),(⟨(31:Int),(0:Int),(1:Int),(0:Int),(0:Int),(0:Int),(0:Int)⟩:Xd)]:List Xd)]])]) (y68 n)
noncomputable def y6b (n:Nat):Cx P_ Ty_:=⟨[],[],[],[]⟩
abbrev y6c:List (List Nat):=[[2,3],[2,3,7],[4],[4]]
noncomputable def zkf (n:Nat) (x:Xe×Xb):Pt P_ Ty_ [] Int:=.ite (x.2.Kind_==3) (.bnd (idx x.1.Sign_ x.2.Param_) fun y1=>.leaf y1.Len_) (.leaf (1:Int))
noncomputable def k134 (n:Nat):Con P_ Ty_:=zd (X:=Xe×Xb) (R:=Int) (pro:=[]) (y6b n) 77 y6c (fun x=>.no) [.ag [.im 1,.im 2,.im 3,.im 4],.ag [.any,.any]] [] [] ⟨[(4,.any)],[]⟩ [] true (fun x=>[.ag [.im 1 x.1.Sign_,.im 2 x.1.Regs_,.im 3 x.1.Slots_,.im 4 x.1.List_],.ag [I_ x.2.Kind_,I_ x.2.Param_]]) (fun x=>[]) (fun y=>([(4,I_ y)],[])) (fun y=>I_ y) (fun y=>[]) (zkf n)
noncomputable def y6f (n:Nat):Cx P_ Ty_:=⟨[],[],[],[]⟩
abbrev y6g:List (List Nat):=[[0],[2]]
noncomputable def zki (n:Nat) (x:Int):Pt P_ Ty_ [] Bool:=.leaf (decide ((x.tmod (2147483648:Int)) > (2139095040:Int)))
noncomputable def k137 (n:Nat):Con P_ Ty_:=zd (X:=Int) (R:=Bool) (pro:=[]) (y6f n) 102 y6g (fun x=>.no) [.any] [] [] ⟨[(2,.any)],[]⟩ [] true (fun x=>[I_ x]) (fun x=>[]) (fun y=>([(2,B_ y)],[])) (fun y=>B_ y) (fun y=>[]) (zki n)
noncomputable def y6d (n:Nat):Cx P_ Ty_:=⟨[k137 n],[],[],[]⟩
abbrev y6e:List (List Nat):=[[0],[0,4],[2],[2]]
noncomputable def zkh (n:Nat) (x:Int):Pt P_ Ty_ [] Int:=.call (k137 n) x fun (y1:Bool)=>.ite y1 (.leaf (2143289344:Int)) (.leaf x)
noncomputable def k136 (n:Nat):Con P_ Ty_:=zd (X:=Int) (R:=Int) (pro:=[]) (y6d n) 89 y6e (fun x=>.no) [.any] [] [] ⟨[(2,.any)],[]⟩ [] true (fun x=>[I_ x]) (fun x=>[]) (fun y=>([(2,I_ y)],[])) (fun y=>I_ y) (fun y=>[]) (zkh n)
noncomputable def zt1 (n:Nat):Cx P_ Ty_:=⟨[k136 n],[(22,false,9),(23,false,9)],[],[]⟩
abbrev zt2:List (List Nat):=[[0,1],[0,1,13],[4,5],[0,1,6],[0,1,6,7],[0,1,6,7,16],[0,1,6,7],[0,1,6,7],[4,5]]
noncomputable def znu (x:Yaa) (p:Bool):EH Ty_:=([(0,I_ x.1),(1,I_ x.2),(13,B_ p)],[])
noncomputable def za1 (n:Nat) (x:Yaa) (v1:Unit) (q1:Yab):Pt P_ Ty_ [] (Bo (Yab) (Yab) Empty):=.ite (decide (q1.1<x.1)) (.call (k136 n) x.2 fun (y1:Int)=>.need ((q1.2.length+([y1]:List Int).length) * 8≤140737488355328) (.leaf (.go ((IntKind.i64.wrap (q1.1+(1:Int))),(q1.2++([y1]:List Int)))))) (.leaf (.out (q1.1,q1.2)))
noncomputable def znt (n:Nat) (x:Yaa) (v1:Unit):LCon P_ Ty_ []:=lcon (X:=Yab) (Y:=Yab) (Z:=Empty) (zt1 n) (subC [1,1,1,0,1,0,0] (fnC P_ 76 zt2)) (fun q1=>.no) 0 false ⟨[(0,.any),(1,.any),(6,.own 600001 false 9),(7,.any)],[(600001,.any)]⟩ ⟨[(0,.any),(1,.any),(6,.ref 600001),(7,.any),(16,.any)],[(600001,.any)]⟩ ⟨[],[]⟩ (fun q1=>([(0,I_ x.1),(1,I_ x.2),(6,.sw 600001 []),(7,I_ q1.1)],[(600001,.typ false 9 q1.2)])) (fun p=>([(0,I_ x.1),(1,I_ x.2),(6,.sw 600001 []),(7,I_ p.1),(16,B_ false)],[(600001,.typ false 9 p.2)])) (fun p=>nomatch p) n (za1 n x v1)
noncomputable def zkg (n:Nat) (x:Yaa):Pt P_ Ty_ [] (Yab):=.join (S:=Bool) (znu x) (.ite (decide (x.1<(0:Int))) (.leaf (.inl true)) (.leaf (.inl (decide (x.1 > (65536:Int)))))) fun s1=>.ite s1 (.leaf ((1:Int),([]:List Int))) (.loop (V:=Unit) (znt n x) () ((0:Int),([]:List Int)) fun (v1:Unit) (y2:Yab)=>.leaf ((0:Int),y2.2))
noncomputable def k135 (n:Nat):Con P_ Ty_:=zd (X:=Yaa) (R:=Yab) (pro:=[]) (zt1 n) 76 zt2 (fun x=>.two .no (.two (.join Bool (znu x) ⟨[(0,.any),(1,.any),(13,.any)],[]⟩ .no .no) (.two .no (.two (.two .no (.two (.loop Unit (znt n x) false ⟨[(0,.any),(1,.any),(6,.own 600001 false 9),(7,.any)],[(600001,.any)]⟩) .no)) .no)))) [.any,.any] [] [100000] ⟨[(4,.own 100000 false 9),(5,.any)],[(100000,.any)]⟩ [100000] true (fun x=>[I_ x.1,I_ x.2]) (fun x=>[]) (fun y=>([(4,.sw 100000 []),(5,I_ y.1)],[(100000,.typ false 9 y.2)])) (fun y=>.tu [.sw 100000 [],I_ y.1]) (fun y=>[(100000,.typ false 9 y.2)]) (zkg n)
noncomputable def y69 (n:Nat):Cx P_ Ty_:=⟨[k134 n,k135 n],[],[],[]⟩
abbrev y6a:List (List Nat):=[[2,3,4],[2,3,4,10],[4],[4,5],[4]]
noncomputable def zke (n:Nat) (x:Xe×Xc):Pt P_ Ty_ [] (Yat):=.ite (x.2.Type_.Kind_==2) (.leaf (([]:List Int),x.2.Int_)) (.call (k134 n) (x.1,x.2.Type_) fun (y1:Int)=>.call (k135 n) (y1,(IntKind.i64.wrap x.2.Bits_)) fun (y2:Yab)=>.leaf (y2.2,(0:Int)))
noncomputable def k133 (n:Nat):Con P_ Ty_:=zd (X:=Xe×Xc) (R:=Yat) (pro:=[]) (y69 n) 55 y6a (fun x=>.no) [.ag [.im 1,.im 2,.im 3,.im 4],.ag [.any,.any,.any,.any,.any]] [] [] ⟨[(4,.ref 100000)],[(100000,.fix [.im 9,.no])]⟩ [] false (fun x=>[.ag [.im 1 x.1.Sign_,.im 2 x.1.Regs_,.im 3 x.1.Slots_,.im 4 x.1.List_],.ag [I_ x.2.Type_.Kind_,I_ x.2.Type_.Param_,B_ x.2.Keep_,.sc (.int .u32 x.2.Bits_),I_ x.2.Int_]]) (fun x=>[]) (fun y=>([(4,.pt 100000 [] 0 0)],[(100000,.lit 2 [[.im 9 y.1,I_ y.2]])])) (fun y=>.ag [.im 9 y.1,I_ y.2]) (fun y=>[]) (zke n)
noncomputable def zsz (n:Nat):Cx P_ Ty_:=⟨[k21 n,k133 n],[(35,false,12),(36,false,12)],[],[]⟩
abbrev zt0:List (List Nat):=[[1,2],[1,2,4],[1,2,4,14],[2,3],[1,2,6],[1,2,6,7],[1,2,6,7,23],[1,2,6,7],[1,2,6,7],[2,3]]
noncomputable def z5d (n:Nat) (x:Xe) (v1:Unit) (q1:Yau):Pt P_ Ty_ [] (Bo (Yau) (Yau) Empty):=.ite (decide (q1.1<(x.Slots_.length:Int))) (.bnd (idx x.Slots_ q1.1) fun y2=>.call (k133 n) (x,y2) fun (y3:Yat)=>.need ((q1.2.length+([(⟨y3.1,y3.2⟩:Xh)]:List Xh).length) * 32≤140737488355328) (.leaf (.go ((IntKind.i64.wrap (q1.1+(1:Int))),(q1.2++([(⟨y3.1,y3.2⟩:Xh)]:List Xh)))))) (.leaf (.out (q1.1,q1.2)))
noncomputable def zns (n:Nat) (x:Xe) (v1:Unit):LCon P_ Ty_ []:=lcon (X:=Yau) (Y:=Yau) (Z:=Empty) (zsz n) (subC [1,1,1,1,0,1,0,0] (fnC P_ 29 zt0)) (fun q1=>.no) 0 false ⟨[(1,.ref 1),(2,.ref 2),(6,.ref 6),(7,.any)],[(1,.any),(2,.any),(6,.fix [.no,.no,.no,.no,.ow false 12])]⟩ ⟨[(1,.ref 1),(2,.ref 2),(6,.ref 6),(7,.any),(23,.any)],[(1,.any),(2,.any),(6,.any)]⟩ ⟨[],[]⟩ (fun q1=>([(1,.pt 1 [] 0 0),(2,.pt 2 [] 0 0),(6,.pt 6 [] 0 0),(7,I_ q1.1)],[(1,.lit 4 [[.im 1 x.Sign_,.im 2 x.Regs_,.im 3 x.Slots_,.im 4 x.List_]]),(2,.lit 5 [[.zs,.zs,.zs,.zs,.zs]]),(6,.lit 5 [[.im 1 x.Sign_,.im 2 x.Regs_,.im 3 x.Slots_,.im 4 x.List_,.ow false 12 q1.2]])])) (fun p=>([(1,.pt 1 [] 0 0),(2,.pt 2 [] 0 0),(6,.pt 6 [] 0 0),(7,I_ p.1),(23,B_ false)],[(1,.lit 4 [[.im 1 x.Sign_,.im 2 x.Regs_,.im 3 x.Slots_,.im 4 x.List_]]),(2,.lit 5 [[.zs,.zs,.zs,.zs,.zs]]),(6,.lit 5 [[.im 1 x.Sign_,.im 2 x.Regs_,.im 3 x.Slots_,.im 4 x.List_,.ow false 12 p.2]])])) (fun p=>nomatch p) n (z5d n x v1)
noncomputable def zkd (n:Nat) (x:Xe):Pt P_ Ty_ [] (Ybi):=.call (k21 n) x fun (y1:Yaa)=>.ite (y1.1 != (0:Int)) (.leaf (y1.1,([]:List Xa),([]:List Xb),([]:List Xc),([]:List Xd),([]:List Xh))) (.loop (V:=Unit) (zns n x) () ((0:Int),([]:List Xh)) fun (v1:Unit) (y4:Yau)=>.leaf ((0:Int),x.Sign_,x.Regs_,x.Slots_,x.List_,y4.2))
noncomputable def k132 (n:Nat):Con P_ Ty_:=zd (X:=Xe) (R:=Ybi) (pro:=[]) (zsz n) 29 zt0 (fun x=>.two .no (.two .no (.two .no (.two .no (.two (.two .no (.two (.loop Unit (zns n x) false ⟨[(1,.ref 1),(2,.ref 2),(6,.ref 6),(7,.any)],[(1,.any),(2,.any),(6,.fix [.no,.no,.no,.no,.ow false 12])]⟩) .no)) .no))))) [.ag [.im 1,.im 2,.im 3,.im 4]] [] [] ⟨[(2,.ref 100000),(3,.any)],[(100000,.fix [.im 1,.im 2,.im 3,.im 4,.im 12])]⟩ [] false (fun x=>[.ag [.im 1 x.Sign_,.im 2 x.Regs_,.im 3 x.Slots_,.im 4 x.List_]]) (fun x=>[]) (fun y=>([(2,.pt 100000 [] 0 0),(3,I_ y.1)],[(100000,.lit 5 [[.im 1 y.2.1,.im 2 y.2.2.1,.im 3 y.2.2.2.1,.im 4 y.2.2.2.2.1,.im 12 y.2.2.2.2.2]])])) (fun y=>.tu [.ag [.im 1 y.2.1,.im 2 y.2.2.1,.im 3 y.2.2.2.1,.im 4 y.2.2.2.2.1,.im 12 y.2.2.2.2.2],I_ y.1]) (fun y=>[]) (zkd n)
noncomputable def zt6 (n:Nat):Cx P_ Ty_:=⟨[k64 n],[],[],[]⟩
abbrev zt7:List (List Nat):=[[0,1],[0,1,10],[4],[0,1,5],[0,1,5,14],[0,1,5,27],[4],[0,1,5],[4]]
noncomputable def za2 (n:Nat) (x:Ycj) (v1:Unit) (q1:Int):Pt P_ Ty_ [] (Bo Int Int Unit):=.ite (decide (q1<(x.1.length:Int))) (.bnd (idx x.2 q1) fun y1=>.bnd (idx x.1 q1) fun y2=>.call (k64 n) y2 fun (y3:Int)=>.ite ((y1.length:Int) != y3) (.leaf (.ret ())) (.leaf (.go (IntKind.i64.wrap (q1+(1:Int)))))) (.leaf (.out q1))
noncomputable def zo7 (n:Nat) (x:Ycj) (v1:Unit):LCon P_ Ty_ []:=lcon (X:=Int) (Y:=Int) (Z:=Unit) (zt6 n) (subC [1,1,0,1,0,0] (fnC P_ 78 zt7)) (fun q1=>.no) 0 true ⟨[(0,.im 1),(1,.im 6),(5,.any)],[]⟩ ⟨[(0,.im 1),(1,.im 6),(5,.any),(14,.any)],[]⟩ ⟨[(4,.any)],[]⟩ (fun q1=>([(0,.im 1 x.1),(1,.im 6 x.2),(5,I_ q1)],[])) (fun p=>([(0,.im 1 x.1),(1,.im 6 x.2),(5,I_ p),(14,B_ false)],[])) (fun p=>([(4,B_ false)],[])) n (za2 n x v1)
noncomputable def zkn (n:Nat) (x:Ycj):Pt P_ Ty_ [] Bool:=.ite ((x.2.length:Int) != (x.1.length:Int)) (.leaf false) (.loopR (V:=Unit) (zo7 n x) () (0:Int) (fun (v1:Unit) (y4:Int)=>.leaf true) fun (v1:Unit) (z1:Unit)=>.leaf false)
noncomputable def k149 (n:Nat):Con P_ Ty_:=zd (X:=Ycj) (R:=Bool) (pro:=[]) (zt6 n) 78 zt7 (fun x=>.two .no (.two .no (.two (.two .no (.two (.loop Unit (zo7 n x) true ⟨[(0,.im 1),(1,.im 6),(5,.any)],[]⟩) .no)) .no))) [.im 1,.im 6] [] [] ⟨[(4,.any)],[]⟩ [] true (fun x=>[.im 1 x.1,.im 6 x.2]) (fun x=>[]) (fun y=>([(4,B_ y)],[])) (fun y=>B_ y) (fun y=>[]) (zkn n)
noncomputable def y6q (n:Nat):Cx P_ Ty_:=⟨[k134 n],[],[],[]⟩
abbrev y6r:List (List Nat):=[[2,3],[2,3,5],[2,3,5],[2,3,5],[2,3,5],[4],[2,3,31],[4],[2,3,35],[2,3,35],[2,3,35],[2,3,35],[4],[4]]
noncomputable def zod (x:Yah) (p:Bool):EH Ty_:=([(2,.pt 2 [] 0 0),(3,.pt 3 [] 0 0),(5,B_ p)],[(2,.lit 4 [[.im 1 x.1.Sign_,.im 2 x.1.Regs_,.im 3 x.1.Slots_,.im 4 x.1.List_]]),(3,.lit 7 [[I_ x.2.Op_,I_ x.2.D_,I_ x.2.A_,I_ x.2.B_,I_ x.2.C_,I_ x.2.N_,.sc (.int .u32 x.2.Bits_)]])])
noncomputable def zoe (x:Yah) (p:Bool):EH Ty_:=([(2,.pt 2 [] 0 0),(3,.pt 3 [] 0 0),(5,B_ p)],[(2,.lit 4 [[.im 1 x.1.Sign_,.im 2 x.1.Regs_,.im 3 x.1.Slots_,.im 4 x.1.List_]]),(3,.lit 7 [[I_ x.2.Op_,I_ x.2.D_,I_ x.2.A_,I_ x.2.B_,I_ x.2.C_,I_ x.2.N_,.sc (.int .u32 x.2.Bits_)]])])
noncomputable def zof (x:Yah) (p:Bool):EH Ty_:=([(2,.pt 2 [] 0 0),(3,.pt 3 [] 0 0),(35,B_ p)],[(2,.lit 4 [[.im 1 x.1.Sign_,.im 2 x.1.Regs_,.im 3 x.1.Slots_,.im 4 x.1.List_]]),(3,.lit 7 [[I_ x.2.Op_,I_ x.2.D_,I_ x.2.A_,I_ x.2.B_,I_ x.2.C_,I_ x.2.N_,.sc (.int .u32 x.2.Bits_)]])])
noncomputable def zkt (n:Nat) (x:Yah):Pt P_ Ty_ [] Int:=.join (S:=Bool) (zoe x) (.join (S:=Bool) (zod x) (.ite (decide (x.2.Op_≥(3:Int))) (.leaf (.inl (decide (x.2.Op_≤(15:Int))))) (.leaf (.inl false))) fun s1=>.ite s1 (.leaf (.inl true)) (.ite (x.2.Op_==29) (.leaf (.inl true)) (.ite (x.2.Op_==30) (.leaf (.inl true)) (.leaf (.inl (x.2.Op_==32)))))) fun s2=>.ite s2 (.bnd (idx x.1.Regs_ x.2.D_) fun y1=>.call (k134 n) (x.1,y1) fun (y2:Int)=>.leaf y2) (.ite (x.2.Op_==16) (.leaf (62:Int)) (.join (S:=Bool) (zof x) (.ite (x.2.Op_==31) (.leaf (.inl true)) (.ite (x.2.Op_==33) (.leaf (.inl true)) (.ite (x.2.Op_==19) (.leaf (.inl true)) (.leaf (.inl (x.2.Op_==20)))))) fun s3=>.ite s3 (.bnd (idx x.1.Regs_ x.2.A_) fun y3=>.call (k134 n) (x.1,y3) fun (y4:Int)=>.leaf y4) (.leaf (1:Int))))
noncomputable def k153 (n:Nat):Con P_ Ty_:=zd (X:=Yah) (R:=Int) (pro:=[]) (y6q n) 79 y6r (fun x=>.two .no (.two (.two (.join Bool (zoe x) ⟨[(2,.ref 2),(3,.ref 3),(5,.any)],[(2,.any),(3,.any)]⟩ (.join Bool (zod x) ⟨[(2,.ref 2),(3,.ref 3),(5,.any)],[(2,.any),(3,.any)]⟩ .no .no) (.two .no (.two .no (.two .no (.join Bool (zof x) ⟨[(2,.ref 2),(3,.ref 3),(35,.any)],[(2,.any),(3,.any)]⟩ .no .no))))) .no) .no)) [.ag [.im 1,.im 2,.im 3,.im 4],.ag [.any,.any,.any,.any,.any,.any,.any]] [] [] ⟨[(4,.any)],[]⟩ [] true (fun x=>[.ag [.im 1 x.1.Sign_,.im 2 x.1.Regs_,.im 3 x.1.Slots_,.im 4 x.1.List_],.ag [I_ x.2.Op_,I_ x.2.D_,I_ x.2.A_,I_ x.2.B_,I_ x.2.C_,I_ x.2.N_,.sc (.int .u32 x.2.Bits_)]]) (fun x=>[]) (fun y=>([(4,I_ y)],[])) (fun y=>I_ y) (fun y=>[]) (zkt n)
noncomputable def y7o (n:Nat):Cx P_ Ty_:=⟨[],[],[],[]⟩
abbrev y7p:List (List Nat):=[[0],[3],[3,4],[3,4],[3,4],[3,4],[3,4],[2],[3,10],[3,10],[3,10],[3,10],[3,10],[3,10],[3,10],[2],[18],[2],[2]]
noncomputable def zp3 (x:Int) (p:Bool):EH Ty_:=([(3,I_ x),(4,B_ p)],[])
noncomputable def zp4 (x:Int) (p:Bool):EH Ty_:=([(3,I_ x),(10,B_ p)],[])
noncomputable def y7q (n:Nat) (x:Int):Pt P_ Ty_ [] Int:=.join (S:=Bool) (zp3 x) (.ite (x==3) (.leaf (.inl true)) (.ite (x==11) (.leaf (.inl true)) (.ite (x==12) (.leaf (.inl true)) (.ite (x==13) (.leaf (.inl true)) (.leaf (.inl (x==14))))))) fun s1=>.ite s1 (.leaf (1:Int)) (.join (S:=Bool) (zp4 x) (.ite (x==4) (.leaf (.inl true)) (.ite (x==5) (.leaf (.inl true)) (.ite (x==6) (.leaf (.inl true)) (.ite (x==7) (.leaf (.inl true)) (.ite (x==8) (.leaf (.inl true)) (.ite (x==9) (.leaf (.inl true)) (.leaf (.inl (x==10))))))))) fun s2=>.ite s2 (.leaf (2:Int)) (.ite (x==15) (.leaf (3:Int)) (.leaf (0:Int))))
noncomputable def k176 (n:Nat):Con P_ Ty_:=zd (X:=Int) (R:=Int) (pro:=[]) (y7o n) 104 y7p (fun x=>.two .no (.two (.two .no (.two (.join Bool (zp3 x) ⟨[(3,.any),(4,.any)],[]⟩ .no (.two .no (.join Bool (zp4 x) ⟨[(3,.any),(10,.any)],[]⟩ .no .no))) .no)) .no)) [.any] [] [] ⟨[(2,.any)],[]⟩ [] true (fun x=>[I_ x]) (fun x=>[]) (fun y=>([(2,I_ y)],[])) (fun y=>I_ y) (fun y=>[]) (y7q n)
noncomputable def y7r (n:Nat):Cx P_ Ty_:=⟨[],[],[],[]⟩
abbrev y7s:List (List Nat):=[[0,1],[0,1,7],[4],[4]]
noncomputable def zlh (n:Nat) (x:Yat):Pt P_ Ty_ [] Int:=.ite ((x.1.length:Int)==1) (.bnd (idx x.1 (0:Int)) fun y1=>.leaf y1) (.bnd (idx x.1 x.2) fun y2=>.leaf y2)
noncomputable def k177 (n:Nat):Con P_ Ty_:=zd (X:=Yat) (R:=Int) (pro:=[]) (y7r n) 111 y7s (fun x=>.no) [.im 9,.any] [] [] ⟨[(4,.any)],[]⟩ [] true (fun x=>[.im 9 x.1,I_ x.2]) (fun x=>[]) (fun y=>([(4,I_ y)],[])) (fun y=>I_ y) (fun y=>[]) (zlh n)
noncomputable def ztt (n:Nat):Cx P_ Ty_:=⟨[],[],[],[]⟩
abbrev ztu:List (List Nat):=[[1,2],[1,2,5],[1,2],[1,2],[2]]
noncomputable def zh5 (n:Nat) (x:Xk) (v1:Unit) (q1:Yaa):Pt P_ Ty_ [] (Bo (Yaa) (Yaa) Empty):=.ite (decide (q1.1<(8388608:Int))) (.leaf (.go ((IntKind.u64.wrap (q1.1 * (2:Int))),(IntKind.i64.wrap (q1.2 - (1:Int)))))) (.leaf (.out (q1.1,q1.2)))
noncomputable def zp9 (n:Nat) (x:Xk) (v1:Unit):LCon P_ Ty_ []:=lcon (X:=Yaa) (Y:=Yaa) (Z:=Empty) (ztt n) (subC [1,0,0,0] (fnC P_ 131 ztu)) (fun q1=>.no) 0 false ⟨[(1,.ref 1),(2,.ref 2)],[(1,.any),(2,.any)]⟩ ⟨[(1,.ref 1),(2,.ref 2),(5,.any)],[(1,.any),(2,.any)]⟩ ⟨[],[]⟩ (fun q1=>([(1,.pt 1 [] 0 0),(2,.pt 2 [] 0 0)],[(1,.lit 5 [[B_ x.Minus_,.sc (.int .u64 q1.1),I_ q1.2,B_ x.Inf_,B_ x.Nan_]]),(2,.lit 5 [[B_ false,.sc (.int .u64 (0:Int)),I_ (0:Int),B_ false,B_ false]])])) (fun p=>([(1,.pt 1 [] 0 0),(2,.pt 2 [] 0 0),(5,B_ false)],[(1,.lit 5 [[B_ x.Minus_,.sc (.int .u64 p.1),I_ p.2,B_ x.Inf_,B_ x.Nan_]]),(2,.lit 5 [[B_ false,.sc (.int .u64 (0:Int)),I_ (0:Int),B_ false,B_ false]])])) (fun p=>nomatch p) n (zh5 n x v1)
noncomputable def zlk (n:Nat) (x:Xk):Pt P_ Ty_ [] (Yai):=.loop (V:=Unit) (zp9 n x) () (x.M_,x.E_) fun (v1:Unit) (y1:Yaa)=>.leaf (x.Minus_,y1.1,y1.2,x.Inf_,x.Nan_)
noncomputable def k180 (n:Nat):Con P_ Ty_:=zd (X:=Xk) (R:=Yai) (pro:=[]) (ztt n) 131 ztu (fun x=>.two .no (.two (.two (.loop Unit (zp9 n x) false ⟨[(1,.ref 1),(2,.ref 2)],[(1,.any),(2,.any)]⟩) .no) .no)) [.ag [.any,.any,.any,.any,.any]] [] [] ⟨[(2,.ref 100000)],[(100000,.any)]⟩ [] true (fun x=>[.ag [B_ x.Minus_,.sc (.int .u64 x.M_),I_ x.E_,B_ x.Inf_,B_ x.Nan_]]) (fun x=>[]) (fun y=>([(2,.pt 100000 [] 0 0)],[(100000,.lit 5 [[B_ y.1,.sc (.int .u64 y.2.1),I_ y.2.2.1,B_ y.2.2.2.1,B_ y.2.2.2.2]])])) (fun y=>.ag [B_ y.1,.sc (.int .u64 y.2.1),I_ y.2.2.1,B_ y.2.2.2.1,B_ y.2.2.2.2]) (fun y=>[]) (zlk n)
noncomputable def y70 (n:Nat):Cx P_ Ty_:=⟨[],[],[],[]⟩
abbrev y71:List (List Nat):=[[0],[3],[2],[2]]
noncomputable def zl2 (n:Nat) (x:Bool):Pt P_ Ty_ [] Int:=.ite x (.leaf (2147483648:Int)) (.leaf (0:Int))
noncomputable def k161 (n:Nat):Con P_ Ty_:=zd (X:=Bool) (R:=Int) (pro:=[]) (y70 n) 117 y71 (fun x=>.no) [.any] [] [] ⟨[(2,.any)],[]⟩ [] true (fun x=>[B_ x]) (fun x=>[]) (fun y=>([(2,.sc (.int .u64 y))],[])) (fun y=>.sc (.int .u64 y)) (fun y=>[]) (zl2 n)
noncomputable def y74 (n:Nat):Cx P_ Ty_:=⟨[k161 n],[],[],[]⟩
abbrev y75:List (List Nat):=[[0],[2]]
noncomputable def zl4 (n:Nat) (x:Bool):Pt P_ Ty_ [] Int:=.call (k161 n) x fun (y1:Int)=>.leaf (IntKind.i64.wrap y1)
noncomputable def k163 (n:Nat):Con P_ Ty_:=zd (X:=Bool) (R:=Int) (pro:=[]) (y74 n) 115 y75 (fun x=>.no) [.any] [] [] ⟨[(2,.any)],[]⟩ [] true (fun x=>[B_ x]) (fun x=>[]) (fun y=>([(2,I_ y)],[])) (fun y=>I_ y) (fun y=>[]) (zl4 n)
noncomputable def zte (n:Nat):Cx P_ Ty_:=⟨[],[],[],[]⟩
abbrev ztf:List (List Nat):=[[0],[0,3],[0,3,5],[0,3],[0,3],[2]]
noncomputable def zh3 (n:Nat) (x:Int) (v1:Unit) (q1:Yaa):Pt P_ Ty_ [] (Bo (Yaa) (Yaa) Empty):=.ite (decide (q1.1 > (0:Int))) (.leaf (.go ((q1.1.fdiv (2 ^ min (1:Int).toNat IntKind.u64.bits)),(IntKind.i64.wrap (q1.2+(1:Int)))))) (.leaf (.out (q1.1,q1.2)))
noncomputable def zom (n:Nat) (x:Int) (v1:Unit):LCon P_ Ty_ []:=lcon (X:=Yaa) (Y:=Yaa) (Z:=Empty) (zte n) (subC [1,1,0,0,0] (fnC P_ 105 ztf)) (fun q1=>.no) 0 false ⟨[(0,.any),(3,.any)],[]⟩ ⟨[(0,.any),(3,.any),(5,.any)],[]⟩ ⟨[],[]⟩ (fun q1=>([(0,.sc (.int .u64 q1.1)),(3,I_ q1.2)],[])) (fun p=>([(0,.sc (.int .u64 p.1)),(3,I_ p.2),(5,B_ false)],[])) (fun p=>nomatch p) n (zh3 n x v1)
noncomputable def zky (n:Nat) (x:Int):Pt P_ Ty_ [] Int:=.loop (V:=Unit) (zom n x) () (x,(0:Int)) fun (v1:Unit) (y1:Yaa)=>.leaf y1.2
noncomputable def k157 (n:Nat):Con P_ Ty_:=zd (X:=Int) (R:=Int) (pro:=[]) (zte n) 105 ztf (fun x=>.two .no (.two .no (.two (.two (.loop Unit (zom n x) false ⟨[(0,.any),(3,.any)],[]⟩) .no) .no))) [.any] [] [] ⟨[(2,.any)],[]⟩ [] true (fun x=>[.sc (.int .u64 x)]) (fun x=>[]) (fun y=>([(2,I_ y)],[])) (fun y=>I_ y) (fun y=>[]) (zky n)
noncomputable def y76 (n:Nat):Cx P_ Ty_:=⟨[],[],[],[]⟩
abbrev y77:List (List Nat):=[[0,1],[0,1,9],[4],[0,1,5],[0,1,5,6],[0,1,5,6,12],[0,1,5],[1,5,6],[5,6,7],[5,39],[5],[4]]
noncomputable def zor (x:Yaa) (p:Yaa):EH Ty_:=([(1,I_ x.2),(5,.sc (.int .u64 p.1)),(6,.sc (.int .u64 p.2))],[])
noncomputable def zos (x:Yaa) (p:Yag):EH Ty_:=([(5,.sc (.int .u64 p.1)),(39,B_ p.2)],[])
noncomputable def zl5 (n:Nat) (x:Yaa):Pt P_ Ty_ [] Int:=.ite (decide (x.2 > (64:Int))) (.leaf (0:Int)) (.join (S:=Yaa) (zor x) (.ite (decide (x.2<(64:Int))) (.need (0≤(IntKind.u64.wrap x.2)) (.need (0≤(IntKind.u64.wrap x.2)) (.leaf (.inl ((x.1.fdiv (2 ^ min (IntKind.u64.wrap x.2).toNat IntKind.u64.bits)),(IntKind.u64.wrap (BitVec.ofInt IntKind.u64.bits x.1 &&& BitVec.ofInt IntKind.u64.bits (IntKind.u64.wrap ((IntKind.u64.wrap ((1:Int) * 2 ^ min (IntKind.u64.wrap x.2).toNat IntKind.u64.bits)) - (1:Int)))).toNat)))))) (.leaf (.inl ((0:Int),x.1)))) fun s1=>.need (0≤(IntKind.u64.wrap (IntKind.i64.wrap (x.2 - (1:Int))))) (.join (S:=Yag) (zos x) (.ite (decide (s1.2 > (IntKind.u64.wrap ((1:Int) * 2 ^ min (IntKind.u64.wrap (IntKind.i64.wrap (x.2 - (1:Int)))).toNat IntKind.u64.bits)))) (.leaf (.inl (s1.1,true))) (.ite (s1.2==(IntKind.u64.wrap ((1:Int) * 2 ^ min (IntKind.u64.wrap (IntKind.i64.wrap (x.2 - (1:Int)))).toNat IntKind.u64.bits))) (.leaf (.inl (s1.1,((s1.1.tmod (2:Int))==1)))) (.leaf (.inl (s1.1,false))))) fun s2=>.ite s2.2 (.leaf (IntKind.u64.wrap (s2.1+(1:Int)))) (.leaf s2.1)))
noncomputable def k164 (n:Nat):Con P_ Ty_:=zd (X:=Yaa) (R:=Int) (pro:=[]) (y76 n) 116 y77 (fun x=>.two .no (.two .no (.two .no (.two .no (.join (Yaa) (zor x) ⟨[(1,.any),(5,.any),(6,.any)],[]⟩ .no (.two .no (.two (.join (Yag) (zos x) ⟨[(5,.any),(39,.any)],[]⟩ .no .no) .no))))))) [.any,.any] [] [] ⟨[(4,.any)],[]⟩ [] true (fun x=>[.sc (.int .u64 x.1),I_ x.2]) (fun x=>[]) (fun y=>([(4,.sc (.int .u64 y))],[])) (fun y=>.sc (.int .u64 y)) (fun y=>[]) (zl5 n)
noncomputable def y6y (n:Nat):Cx P_ Ty_:=⟨[k161 n],[],[],[]⟩
abbrev y6z:List (List Nat):=[[0],[2]]
noncomputable def zl1 (n:Nat) (x:Bool):Pt P_ Ty_ [] Int:=.call (k161 n) x fun (y1:Int)=>.leaf (IntKind.i64.wrap (IntKind.u64.wrap (y1+(2139095040:Int))))
noncomputable def k160 (n:Nat):Con P_ Ty_:=zd (X:=Bool) (R:=Int) (pro:=[]) (y6y n) 114 y6z (fun x=>.no) [.any] [] [] ⟨[(2,.any)],[]⟩ [] true (fun x=>[B_ x]) (fun x=>[]) (fun y=>([(2,I_ y)],[])) (fun y=>I_ y) (fun y=>[]) (zl1 n)
noncomputable def y72 (n:Nat):Cx P_ Ty_:=⟨[k163 n,k157 n,k164 n,k161 n,k160 n],[],[],[]⟩
abbrev y73:List (List Nat):=[[0,1,2],[0,1,2,12],[6],[0,1,2,7],[0,1,7,8],[0,1,7,8],[0,1,7,8,26],[0,7,9],[0,7,9],[0,7,9,36],[0,7,9],[0,7,9],[0,7,9,40],[6],[0,9,10],[0,9,10,49],[6],[6]]
noncomputable def zop (x:Ybg) (p:Yaa):EH Ty_:=([(0,B_ x.1),(7,I_ p.1),(9,.sc (.int .u64 p.2))],[])
noncomputable def zoq (x:Ybg) (p:Yaa):EH Ty_:=([(0,B_ x.1),(7,I_ p.1),(9,.sc (.int .u64 p.2))],[])
noncomputable def zl3 (n:Nat) (x:Ybg):Pt P_ Ty_ [] Int:=.ite (x.2.1==0) (.call (k163 n) x.1 fun (y1:Int)=>.leaf y1) (.call (k157 n) x.2.1 fun (y2:Int)=>.join (S:=Yaa) (zop x) (.ite (decide ((IntKind.i64.wrap ((if (-149:Int) > (IntKind.i64.wrap ((IntKind.i64.wrap (x.2.2+y2)) - (24:Int))) then (-149:Int) else (IntKind.i64.wrap ((IntKind.i64.wrap (x.2.2+y2)) - (24:Int)))) - x.2.2))≤(0:Int))) (.need (0≤(IntKind.u64.wrap (IntKind.i64.wrap (0 - (IntKind.i64.wrap ((if (-149:Int) > (IntKind.i64.wrap ((IntKind.i64.wrap (x.2.2+y2)) - (24:Int))) then (-149:Int) else (IntKind.i64.wrap ((IntKind.i64.wrap (x.2.2+y2)) - (24:Int)))) - x.2.2)))))) (.leaf (.inl ((if (-149:Int) > (IntKind.i64.wrap ((IntKind.i64.wrap (x.2.2+y2)) - (24:Int))) then (-149:Int) else (IntKind.i64.wrap ((IntKind.i64.wrap (x.2.2+y2)) - (24:Int)))),(IntKind.u64.wrap (x.2.1 * 2 ^ min (IntKind.u64.wrap (IntKind.i64.wrap (0 - (IntKind.i64.wrap ((if (-149:Int) > (IntKind.i64.wrap ((IntKind.i64.wrap (x.2.2+y2)) - (24:Int))) then (-149:Int) else (IntKind.i64.wrap ((IntKind.i64.wrap (x.2.2+y2)) - (24:Int)))) - x.2.2))))).toNat IntKind.u64.bits)))))) (.call (k164 n) (x.2.1,(IntKind.i64.wrap ((if (-149:Int) > (IntKind.i64.wrap ((IntKind.i64.wrap (x.2.2+y2)) - (24:Int))) then (-149:Int) else (IntKind.i64.wrap ((IntKind.i64.wrap (x.2.2+y2)) - (24:Int)))) - x.2.2))) fun (y3:Int)=>.leaf (.inl ((if (-149:Int) > (IntKind.i64.wrap ((IntKind.i64.wrap (x.2.2+y2)) - (24:Int))) then (-149:Int) else (IntKind.i64.wrap ((IntKind.i64.wrap (x.2.2+y2)) - (24:Int)))),y3)))) fun s1=>.join (S:=Yaa) (zoq x) (.ite (s1.2==16777216) (.leaf (.inl ((IntKind.i64.wrap (s1.1+(1:Int))),(8388608:Int)))) (.leaf (.inl (s1.1,s1.2)))) fun s2=>.ite (decide (s2.2<(8388608:Int))) (.call (k161 n) x.1 fun (y4:Int)=>.leaf (IntKind.i64.wrap (IntKind.u64.wrap (y4+s2.2)))) (.ite (decide ((IntKind.i64.wrap (s2.1+(150:Int)))≥(255:Int))) (.call (k160 n) x.1 fun (y5:Int)=>.leaf y5) (.call (k161 n) x.1 fun (y6:Int)=>.leaf (IntKind.i64.wrap (IntKind.u64.wrap ((IntKind.u64.wrap ((IntKind.u64.wrap (y6+(IntKind.u64.wrap ((IntKind.u64.wrap (IntKind.i64.wrap (s2.1+(150:Int)))) * 2 ^ min (23:Int).toNat IntKind.u64.bits))))+s2.2)) - (8388608:Int)))))))
noncomputable def k162 (n:Nat):Con P_ Ty_:=zd (X:=Ybg) (R:=Int) (pro:=[]) (y72 n) 107 y73 (fun x=>.two .no (.two .no (.two .no (.two .no (.two .no (.join (Yaa) (zop x) ⟨[(0,.any),(7,.any),(9,.any)],[]⟩ .no (.join (Yaa) (zoq x) ⟨[(0,.any),(7,.any),(9,.any)],[]⟩ .no .no))))))) [.any,.any,.any] [] [] ⟨[(6,.any)],[]⟩ [] true (fun x=>[B_ x.1,.sc (.int .u64 x.2.1),I_ x.2.2]) (fun x=>[]) (fun y=>([(6,I_ y)],[])) (fun y=>I_ y) (fun y=>[]) (zl3 n)
noncomputable def ztr (n:Nat):Cx P_ Ty_:=⟨[k69 n,k180 n,k162 n],[],[],[]⟩
abbrev zts:List (List Nat):=[[0],[0,3],[0,3,11],[2],[0,3,14],[2],[0,3,24],[2],[0,3,27],[2],[3],[3,4],[4,5],[4,5,41],[4,5],[4,5],[4,5,6],[4,5,6,7],[4,5,6,7,47],[4,5,6,7,58],[4,5,6,7],[4,5,6,7],[4,5,6,8],[5,8,68],[5,8],[2]]
noncomputable def zp6 (x:Int) (p:Yck):EH Ty_:=([(0,I_ x),(3,.pt 3 [] 0 0),(14,B_ p.1)],[(3,.lit 5 [[B_ p.2.1,.sc (.int .u64 p.2.2.1),I_ p.2.2.2.1,B_ p.2.2.2.2.1,B_ p.2.2.2.2.2]])])
noncomputable def zp7 (x:Int) (p:Yaa):EH Ty_:=([(4,.sc (.int .u64 p.1)),(5,I_ p.2)],[])
noncomputable def zp8 (x:Int) (p:Yaa):EH Ty_:=([(5,I_ p.1),(8,.sc (.int .u64 p.2))],[])
noncomputable def zh4 (n:Nat) (x:Int) (v1:Yaa) (q1:Yaa):Pt P_ Ty_ [] (Bo (Yaa) (Yaa) Empty):=.ite (decide (q1.2 > (0:Int))) (.ite (decide ((IntKind.u64.wrap ((IntKind.u64.wrap (q1.1+q1.2)) * (IntKind.u64.wrap (q1.1+q1.2))))≤v1.1)) (.leaf (.go ((IntKind.u64.wrap (q1.1+q1.2)),(IntKind.u64.wrap (q1.2.tdiv (2:Int)))))) (.leaf (.go (q1.1,(IntKind.u64.wrap (q1.2.tdiv (2:Int))))))) (.leaf (.out (q1.1,q1.2)))
noncomputable def zp5 (n:Nat) (x:Int) (v1:Yaa):LCon P_ Ty_ []:=lcon (X:=Yaa) (Y:=Yaa) (Z:=Empty) (ztr n) (subC [1,1,1,1,1,1,1,1,0,1,0,0] (fnC P_ 121 zts)) (fun q1=>.no) 1 false ⟨[(4,.any),(5,.any),(6,.any),(7,.any)],[]⟩ ⟨[(4,.any),(5,.any),(6,.any),(7,.any),(47,.any)],[]⟩ ⟨[],[]⟩ (fun q1=>([(4,.sc (.int .u64 v1.1)),(5,I_ v1.2),(6,.sc (.int .u64 q1.1)),(7,.sc (.int .u64 q1.2))],[])) (fun p=>([(4,.sc (.int .u64 v1.1)),(5,I_ v1.2),(6,.sc (.int .u64 p.1)),(7,.sc (.int .u64 p.2)),(47,B_ false)],[])) (fun p=>nomatch p) n (zh4 n x v1)
noncomputable def zlj (n:Nat) (x:Int):Pt P_ Ty_ [] Int:=.call (k69 n) x fun (y1:Yai)=>.ite y1.2.2.2.2 (.leaf (2143289344:Int)) (.join (S:=Yck) (zp6 x) (.ite (!y1.2.2.2.1) (.leaf (.inl ((y1.2.1==0),y1.1,y1.2.1,y1.2.2.1,y1.2.2.2.1,y1.2.2.2.2))) (.leaf (.inl (false,y1.1,y1.2.1,y1.2.2.1,y1.2.2.2.1,y1.2.2.2.2)))) fun s1=>.ite s1.1 (.leaf x) (.ite s1.2.1 (.leaf (2143289344:Int)) (.ite s1.2.2.2.2.1 (.leaf x) (.call (k180 n) (⟨s1.2.1,s1.2.2.1,s1.2.2.2.1,s1.2.2.2.2.1,s1.2.2.2.2.2⟩:Xk) fun (y2:Yai)=>.join (S:=Yaa) (zp7 x) (.ite (((IntKind.i64.wrap (y2.2.2.1 - (36:Int))).tmod (2:Int)) != (0:Int)) (.leaf (.inl ((IntKind.u64.wrap ((IntKind.u64.wrap (y2.2.1 * 2 ^ min (36:Int).toNat IntKind.u64.bits)) * (2:Int))),(IntKind.i64.wrap ((IntKind.i64.wrap (y2.2.2.1 - (36:Int))) - (1:Int)))))) (.leaf (.inl ((IntKind.u64.wrap (y2.2.1 * 2 ^ min (36:Int).toNat IntKind.u64.bits)),(IntKind.i64.wrap (y2.2.2.1 - (36:Int))))))) fun s2=>.loop (V:=Yaa) (zp5 n x) (s2.1,s2.2) ((0:Int),(2147483648:Int)) fun (v1:Yaa) (y3:Yaa)=>.join (S:=Yaa) (zp8 x) (.ite (decide ((IntKind.u64.wrap (y3.1 * y3.1))<v1.1)) (.leaf (.inl (v1.2,(IntKind.u64.wrap ((IntKind.u64.wrap (y3.1 * (2:Int)))+(1:Int)))))) (.leaf (.inl (v1.2,(IntKind.u64.wrap (y3.1 * (2:Int))))))) fun s3=>.call (k162 n) (false,s3.2,(IntKind.i64.wrap ((IntKind.i64.wrap (s3.1.tdiv (2:Int))) - (1:Int)))) fun (y4:Int)=>.leaf y4))))
noncomputable def k179 (n:Nat):Con P_ Ty_:=zd (X:=Int) (R:=Int) (pro:=[]) (ztr n) 121 zts (fun x=>.two .no (.two .no (.two (.two (.two .no (.two .no (.join (Yck) (zp6 x) ⟨[(0,.any),(3,.ref 3),(14,.any)],[(3,.any)]⟩ .no .no))) .no) (.two .no (.two .no (.two .no (.join (Yaa) (zp7 x) ⟨[(4,.any),(5,.any)],[]⟩ .no (.two .no (.two (.two .no (.two (.loop (Yaa) (zp5 n x) false ⟨[(4,.any),(5,.any),(6,.any),(7,.any)],[]⟩) .no)) (.two .no (.join (Yaa) (zp8 x) ⟨[(5,.any),(8,.any)],[]⟩ .no .no))))))))))) [.any] [] [] ⟨[(2,.any)],[]⟩ [] true (fun x=>[I_ x]) (fun x=>[]) (fun y=>([(2,I_ y)],[])) (fun y=>I_ y) (fun y=>[]) (zlj n)
noncomputable def y7v (n:Nat):Cx P_ Ty_:=⟨[k69 n],[],[],[]⟩
abbrev y7w:List (List Nat):=[[0],[0,5],[2],[2]]
noncomputable def zll (n:Nat) (x:Int):Pt P_ Ty_ [] Int:=.call (k69 n) x fun (y1:Yai)=>.ite y1.2.2.2.2 (.leaf (2143289344:Int)) (.leaf (IntKind.i64.wrap (BitVec.ofInt IntKind.i64.bits x ^^^ BitVec.ofInt IntKind.i64.bits (2147483648:Int)).toNat))
noncomputable def k181 (n:Nat):Con P_ Ty_:=zd (X:=Int) (R:=Int) (pro:=[]) (y7v n) 122 y7w (fun x=>.no) [.any] [] [] ⟨[(2,.any)],[]⟩ [] true (fun x=>[I_ x]) (fun x=>[]) (fun y=>([(2,I_ y)],[])) (fun y=>I_ y) (fun y=>[]) (zll n)
noncomputable def y7x (n:Nat):Cx P_ Ty_:=⟨[k69 n],[],[],[]⟩
abbrev y7y:List (List Nat):=[[0],[0,5],[2],[2]]
noncomputable def zlm (n:Nat) (x:Int):Pt P_ Ty_ [] Int:=.call (k69 n) x fun (y1:Yai)=>.ite y1.2.2.2.2 (.leaf (2143289344:Int)) (.leaf (IntKind.i64.wrap (BitVec.ofInt IntKind.i64.bits x &&& ~~~BitVec.ofInt IntKind.i64.bits (2147483648:Int)).toNat))
noncomputable def k182 (n:Nat):Con P_ Ty_:=zd (X:=Int) (R:=Int) (pro:=[]) (y7x n) 123 y7y (fun x=>.no) [.any] [] [] ⟨[(2,.any)],[]⟩ [] true (fun x=>[I_ x]) (fun x=>[]) (fun y=>([(2,I_ y)],[])) (fun y=>I_ y) (fun y=>[]) (zlm n)
noncomputable def y7z (n:Nat):Cx P_ Ty_:=⟨[],[],[],[]⟩
abbrev y80:List (List Nat):=[[0],[2]]
noncomputable def zln (n:Nat) (x:Int):Pt P_ Ty_ [] Bool:=.leaf (decide ((x.tmod (2147483648:Int))<(2139095040:Int)))
noncomputable def k183 (n:Nat):Con P_ Ty_:=zd (X:=Int) (R:=Bool) (pro:=[]) (y7z n) 125 y80 (fun x=>.no) [.any] [] [] ⟨[(2,.any)],[]⟩ [] true (fun x=>[I_ x]) (fun x=>[]) (fun y=>([(2,B_ y)],[])) (fun y=>B_ y) (fun y=>[]) (zln n)
noncomputable def y81 (n:Nat):Cx P_ Ty_:=⟨[],[],[],[]⟩
abbrev y82:List (List Nat):=[[0],[3],[2],[2]]
noncomputable def zlo (n:Nat) (x:Bool):Pt P_ Ty_ [] Int:=.ite x (.leaf (1065353216:Int)) (.leaf (0:Int))
noncomputable def k184 (n:Nat):Con P_ Ty_:=zd (X:=Bool) (R:=Int) (pro:=[]) (y81 n) 124 y82 (fun x=>.no) [.any] [] [] ⟨[(2,.any)],[]⟩ [] true (fun x=>[B_ x]) (fun x=>[]) (fun y=>([(2,I_ y)],[])) (fun y=>I_ y) (fun y=>[]) (zlo n)
noncomputable def y6w (n:Nat):Cx P_ Ty_:=⟨[],[],[],[]⟩
abbrev y6x:List (List Nat):=[[2,3],[4]]
noncomputable def zl0 (n:Nat) (x:Ybd):Pt P_ Ty_ [] Bool:=.ite x.1.Nan_ (.leaf true) (.leaf x.2.Nan_)
noncomputable def k159 (n:Nat):Con P_ Ty_:=zd (X:=Ybd) (R:=Bool) (pro:=[]) (y6w n) 113 y6x (fun x=>.no) [.ag [.any,.any,.any,.any,.any],.ag [.any,.any,.any,.any,.any]] [] [] ⟨[(4,.any)],[]⟩ [] true (fun x=>[.ag [B_ x.1.Minus_,.sc (.int .u64 x.1.M_),I_ x.1.E_,B_ x.1.Inf_,B_ x.1.Nan_],.ag [B_ x.2.Minus_,.sc (.int .u64 x.2.M_),I_ x.2.E_,B_ x.2.Inf_,B_ x.2.Nan_]]) (fun x=>[]) (fun y=>([(4,B_ y)],[])) (fun y=>B_ y) (fun y=>[]) (zl0 n)
noncomputable def y7e (n:Nat):Cx P_ Ty_:=⟨[k163 n,k162 n],[],[],[]⟩
abbrev y7f:List (List Nat):=[[2,3],[2,3,5],[2,3,5],[2,3,5,7],[2,3,5,7,16],[2,3,6,7],[2,3,6],[2,3,6,7],[2,3,6,7],[3,6,7,32],[3,6,7],[3,6,7,36],[6,7],[6,7],[6,7,48],[4],[6,7,51],[4],[4]]
noncomputable def zox (x:Ybd) (p:Yal):EH Ty_:=([(2,.pt 2 [] 0 0),(3,.pt 3 [] 0 0),(6,I_ p.1),(7,I_ p.2.1)],[(2,.lit 5 [[B_ x.1.Minus_,.sc (.int .u64 x.1.M_),I_ x.1.E_,B_ x.1.Inf_,B_ x.1.Nan_]]),(3,.lit 5 [[B_ x.2.Minus_,.sc (.int .u64 p.2.2),I_ x.2.E_,B_ x.2.Inf_,B_ x.2.Nan_]])])
noncomputable def zoy (x:Ybd) (p:Yal):EH Ty_:=([(3,.pt 3 [] 0 0),(6,I_ p.1),(7,I_ p.2.1)],[(3,.lit 5 [[B_ x.2.Minus_,.sc (.int .u64 p.2.2),I_ x.2.E_,B_ x.2.Inf_,B_ x.2.Nan_]])])
noncomputable def zoz (x:Ybd) (p:Yaa):EH Ty_:=([(6,I_ p.1),(7,I_ p.2)],[])
noncomputable def zla (n:Nat) (x:Ybd):Pt P_ Ty_ [] Int:=.join (S:=Yal) (zox x) (.ite (decide ((IntKind.i64.wrap (x.1.E_ - x.2.E_))≤(36:Int))) (.need (0≤(IntKind.u64.wrap (IntKind.i64.wrap (x.1.E_ - x.2.E_)))) (.leaf (.inl ((IntKind.i64.wrap (IntKind.u64.wrap (x.1.M_ * 2 ^ min (IntKind.u64.wrap (IntKind.i64.wrap (x.1.E_ - x.2.E_))).toNat IntKind.u64.bits))),x.2.E_,x.2.M_)))) (.leaf (.inl ((IntKind.i64.wrap (IntKind.u64.wrap (x.1.M_ * 2 ^ min (36:Int).toNat IntKind.u64.bits))),(IntKind.i64.wrap (x.1.E_ - (36:Int))),(1:Int))))) fun s1=>.join (S:=Yal) (zoy x) (.ite x.1.Minus_ (.leaf (.inl ((IntKind.i64.wrap (0 - s1.1)),s1.2.1,s1.2.2))) (.leaf (.inl (s1.1,s1.2.1,s1.2.2)))) fun s2=>.join (S:=Yaa) (zoz x) (.ite x.2.Minus_ (.leaf (.inl ((IntKind.i64.wrap (s2.1 - (IntKind.i64.wrap s2.2.2))),s2.2.1))) (.leaf (.inl ((IntKind.i64.wrap (s2.1+(IntKind.i64.wrap s2.2.2))),s2.2.1)))) fun s3=>.ite (s3.1==0) (.call (k163 n) false fun (y1:Int)=>.leaf y1) (.ite (decide (s3.1<(0:Int))) (.call (k162 n) (true,(IntKind.u64.wrap (IntKind.i64.wrap (0 - s3.1))),s3.2) fun (y2:Int)=>.leaf y2) (.call (k162 n) (false,(IntKind.u64.wrap s3.1),s3.2) fun (y3:Int)=>.leaf y3))
noncomputable def k169 (n:Nat):Con P_ Ty_:=zd (X:=Ybd) (R:=Int) (pro:=[]) (y7e n) 118 y7f (fun x=>.two .no (.two .no (.two .no (.two .no (.join (Yal) (zox x) ⟨[(2,.ref 2),(3,.ref 3),(6,.any),(7,.any)],[(2,.any),(3,.any)]⟩ .no (.join (Yal) (zoy x) ⟨[(3,.ref 3),(6,.any),(7,.any)],[(3,.any)]⟩ .no (.join (Yaa) (zoz x) ⟨[(6,.any),(7,.any)],[]⟩ .no .no))))))) [.ag [.any,.any,.any,.any,.any],.ag [.any,.any,.any,.any,.any]] [] [] ⟨[(4,.any)],[]⟩ [] true (fun x=>[.ag [B_ x.1.Minus_,.sc (.int .u64 x.1.M_),I_ x.1.E_,B_ x.1.Inf_,B_ x.1.Nan_],.ag [B_ x.2.Minus_,.sc (.int .u64 x.2.M_),I_ x.2.E_,B_ x.2.Inf_,B_ x.2.Nan_]]) (fun x=>[]) (fun y=>([(4,I_ y)],[])) (fun y=>I_ y) (fun y=>[]) (zla n)
noncomputable def y7c (n:Nat):Cx P_ Ty_:=⟨[k69 n,k159 n,k160 n,k163 n,k162 n,k169 n],[],[],[]⟩
abbrev y7d:List (List Nat):=[[0,1],[1,5],[5,6],[5,6,11],[4],[5,6,30],[4],[5,6,36],[4],[5,6,42],[4],[5,6,58],[4],[5,6,69],[4],[5,6,84],[5,6],[4]]
noncomputable def zou (x:Yaa) (p:Ybo):EH Ty_:=([(5,.pt 5 [] 0 0),(6,.pt 6 [] 0 0),(11,B_ p.1)],[(5,.lit 5 [[B_ p.2.1,.sc (.int .u64 p.2.2.1),I_ p.2.2.2.1,B_ p.2.2.2.2.1,B_ p.2.2.2.2.2.1]]),(6,.lit 5 [[B_ p.2.2.2.2.2.2.1,.sc (.int .u64 p.2.2.2.2.2.2.2.1),I_ p.2.2.2.2.2.2.2.2.1,B_ p.2.2.2.2.2.2.2.2.2.1,B_ p.2.2.2.2.2.2.2.2.2.2]])])
noncomputable def zov (x:Yaa) (p:Ybo):EH Ty_:=([(5,.pt 5 [] 0 0),(6,.pt 6 [] 0 0),(42,B_ p.1)],[(5,.lit 5 [[B_ p.2.1,.sc (.int .u64 p.2.2.1),I_ p.2.2.2.1,B_ p.2.2.2.2.1,B_ p.2.2.2.2.2.1]]),(6,.lit 5 [[B_ p.2.2.2.2.2.2.1,.sc (.int .u64 p.2.2.2.2.2.2.2.1),I_ p.2.2.2.2.2.2.2.2.1,B_ p.2.2.2.2.2.2.2.2.2.1,B_ p.2.2.2.2.2.2.2.2.2.2]])])
noncomputable def zow (x:Yaa) (p:Ycu):EH Ty_:=([(5,.pt 5 [] 0 0),(6,.pt 6 [] 0 0)],[(5,.lit 5 [[B_ p.1,.sc (.int .u64 p.2.1),I_ p.2.2.1,B_ p.2.2.2.1,B_ p.2.2.2.2.1]]),(6,.lit 5 [[B_ p.2.2.2.2.2.1,.sc (.int .u64 p.2.2.2.2.2.2.1),I_ p.2.2.2.2.2.2.2.1,B_ p.2.2.2.2.2.2.2.2.1,B_ p.2.2.2.2.2.2.2.2.2]])])
noncomputable def zl9 (n:Nat) (x:Yaa):Pt P_ Ty_ [] Int:=.call (k69 n) x.1 fun (y1:Yai)=>.call (k69 n) x.2 fun (y2:Yai)=>.join (S:=Ybo) (zou x) (.call (k159 n) ((⟨y1.1,y1.2.1,y1.2.2.1,y1.2.2.2.1,y1.2.2.2.2⟩:Xk),(⟨y2.1,y2.2.1,y2.2.2.1,y2.2.2.2.1,y2.2.2.2.2⟩:Xk)) fun (y3:Bool)=>.ite y3 (.leaf (.inl (true,y1.1,y1.2.1,y1.2.2.1,y1.2.2.2.1,y1.2.2.2.2,y2.1,y2.2.1,y2.2.2.1,y2.2.2.2.1,y2.2.2.2.2))) (.ite y1.2.2.2.1 (.ite y2.2.2.2.1 (.leaf (.inl ((y1.1 != y2.1),y1.1,y1.2.1,y1.2.2.1,y1.2.2.2.1,y1.2.2.2.2,y2.1,y2.2.1,y2.2.2.1,y2.2.2.2.1,y2.2.2.2.2))) (.leaf (.inl (false,y1.1,y1.2.1,y1.2.2.1,y1.2.2.2.1,y1.2.2.2.2,y2.1,y2.2.1,y2.2.2.1,y2.2.2.2.1,y2.2.2.2.2)))) (.leaf (.inl (false,y1.1,y1.2.1,y1.2.2.1,y1.2.2.2.1,y1.2.2.2.2,y2.1,y2.2.1,y2.2.2.1,y2.2.2.2.1,y2.2.2.2.2))))) fun s1=>.ite s1.1 (.leaf (2143289344:Int)) (.ite s1.2.2.2.2.1 (.call (k160 n) s1.2.1 fun (y4:Int)=>.leaf y4) (.ite s1.2.2.2.2.2.2.2.2.2.1 (.call (k160 n) s1.2.2.2.2.2.2.1 fun (y5:Int)=>.leaf y5) (.join (S:=Ybo) (zov x) (.ite (s1.2.2.1==0) (.leaf (.inl ((s1.2.2.2.2.2.2.2.1==0),s1.2.1,s1.2.2.1,s1.2.2.2.1,s1.2.2.2.2.1,s1.2.2.2.2.2.1,s1.2.2.2.2.2.2.1,s1.2.2.2.2.2.2.2.1,s1.2.2.2.2.2.2.2.2.1,s1.2.2.2.2.2.2.2.2.2.1,s1.2.2.2.2.2.2.2.2.2.2))) (.leaf (.inl (false,s1.2.1,s1.2.2.1,s1.2.2.2.1,s1.2.2.2.2.1,s1.2.2.2.2.2.1,s1.2.2.2.2.2.2.1,s1.2.2.2.2.2.2.2.1,s1.2.2.2.2.2.2.2.2.1,s1.2.2.2.2.2.2.2.2.2.1,s1.2.2.2.2.2.2.2.2.2.2)))) fun s2=>.ite s2.1 (.ite s2.2.1 (.call (k163 n) s2.2.2.2.2.2.2.1 fun (y6:Int)=>.leaf y6) (.call (k163 n) false fun (y7:Int)=>.leaf y7)) (.ite (s2.2.2.1==0) (.call (k162 n) (s2.2.2.2.2.2.2.1,s2.2.2.2.2.2.2.2.1,s2.2.2.2.2.2.2.2.2.1) fun (y8:Int)=>.leaf y8) (.ite (s2.2.2.2.2.2.2.2.1==0) (.call (k162 n) (s2.2.1,s2.2.2.1,s2.2.2.2.1) fun (y9:Int)=>.leaf y9) (.join (S:=Ycu) (zow x) (.ite (decide (s2.2.2.2.1<s2.2.2.2.2.2.2.2.2.1)) (.leaf (.inl (s2.2.2.2.2.2.2.1,s2.2.2.2.2.2.2.2.1,s2.2.2.2.2.2.2.2.2.1,s2.2.2.2.2.2.2.2.2.2.1,s2.2.2.2.2.2.2.2.2.2.2,s2.2.1,s2.2.2.1,s2.2.2.2.1,s2.2.2.2.2.1,s2.2.2.2.2.2.1))) (.leaf (.inl (s2.2.1,s2.2.2.1,s2.2.2.2.1,s2.2.2.2.2.1,s2.2.2.2.2.2.1,s2.2.2.2.2.2.2.1,s2.2.2.2.2.2.2.2.1,s2.2.2.2.2.2.2.2.2.1,s2.2.2.2.2.2.2.2.2.2.1,s2.2.2.2.2.2.2.2.2.2.2)))) fun s3=>.call (k169 n) ((⟨s3.1,s3.2.1,s3.2.2.1,s3.2.2.2.1,s3.2.2.2.2.1⟩:Xk),(⟨s3.2.2.2.2.2.1,s3.2.2.2.2.2.2.1,s3.2.2.2.2.2.2.2.1,s3.2.2.2.2.2.2.2.2.1,s3.2.2.2.2.2.2.2.2.2⟩:Xk)) fun (y10:Int)=>.leaf y10))))))
noncomputable def k168 (n:Nat):Con P_ Ty_:=zd (X:=Yaa) (R:=Int) (pro:=[]) (y7c n) 108 y7d (fun x=>.two .no (.two .no (.two .no (.two (.two (.join (Ybo) (zou x) ⟨[(5,.ref 5),(6,.ref 6),(11,.any)],[(5,.any),(6,.any)]⟩ .no (.two .no (.two .no (.two .no (.two .no (.two .no (.join (Ybo) (zov x) ⟨[(5,.ref 5),(6,.ref 6),(42,.any)],[(5,.any),(6,.any)]⟩ .no .no))))))) .no) (.join (Ycu) (zow x) ⟨[(5,.ref 5),(6,.ref 6)],[(5,.any),(6,.any)]⟩ .no .no))))) [.any,.any] [] [] ⟨[(4,.any)],[]⟩ [] true (fun x=>[I_ x.1,I_ x.2]) (fun x=>[]) (fun y=>([(4,I_ y)],[])) (fun y=>I_ y) (fun y=>[]) (zl9 n)
noncomputable def y83 (n:Nat):Cx P_ Ty_:=⟨[k181 n,k168 n],[],[],[]⟩
abbrev y84:List (List Nat):=[[0,1],[4]]
noncomputable def zlp (n:Nat) (x:Yaa):Pt P_ Ty_ [] Int:=.call (k181 n) x.2 fun (y1:Int)=>.call (k168 n) (x.1,y1) fun (y2:Int)=>.leaf y2
noncomputable def k185 (n:Nat):Con P_ Ty_:=zd (X:=Yaa) (R:=Int) (pro:=[]) (y83 n) 126 y84 (fun x=>.no) [.any,.any] [] [] ⟨[(4,.any)],[]⟩ [] true (fun x=>[I_ x.1,I_ x.2]) (fun x=>[]) (fun y=>([(4,I_ y)],[])) (fun y=>I_ y) (fun y=>[]) (zlp n)
noncomputable def y6u (n:Nat):Cx P_ Ty_:=⟨[k69 n,k159 n,k160 n,k162 n],[],[],[]⟩
abbrev y6v:List (List Nat):=[[0,1],[1,5],[5,6],[5,6,7],[5,6,7,17],[4],[5,6,7,49],[4],[4]]
noncomputable def zon (x:Yaa) (p:Yaq):EH Ty_:=([(5,.pt 5 [] 0 0),(6,.pt 6 [] 0 0),(7,B_ p.1),(17,B_ p.2.1)],[(5,.lit 5 [[B_ p.2.2.1,.sc (.int .u64 p.2.2.2.1),I_ p.2.2.2.2.1,B_ p.2.2.2.2.2.1,B_ p.2.2.2.2.2.2.1]]),(6,.lit 5 [[B_ p.2.2.2.2.2.2.2.1,.sc (.int .u64 p.2.2.2.2.2.2.2.2.1),I_ p.2.2.2.2.2.2.2.2.2.1,B_ p.2.2.2.2.2.2.2.2.2.2.1,B_ p.2.2.2.2.2.2.2.2.2.2.2]])])
noncomputable def zoo (x:Yaa) (p:Yaq):EH Ty_:=([(5,.pt 5 [] 0 0),(6,.pt 6 [] 0 0),(7,B_ p.1),(49,B_ p.2.1)],[(5,.lit 5 [[B_ p.2.2.1,.sc (.int .u64 p.2.2.2.1),I_ p.2.2.2.2.1,B_ p.2.2.2.2.2.1,B_ p.2.2.2.2.2.2.1]]),(6,.lit 5 [[B_ p.2.2.2.2.2.2.2.1,.sc (.int .u64 p.2.2.2.2.2.2.2.2.1),I_ p.2.2.2.2.2.2.2.2.2.1,B_ p.2.2.2.2.2.2.2.2.2.2.1,B_ p.2.2.2.2.2.2.2.2.2.2.2]])])
noncomputable def zkz (n:Nat) (x:Yaa):Pt P_ Ty_ [] Int:=.call (k69 n) x.1 fun (y1:Yai)=>.call (k69 n) x.2 fun (y2:Yai)=>.join (S:=Yaq) (zon x) (.call (k159 n) ((⟨y1.1,y1.2.1,y1.2.2.1,y1.2.2.2.1,y1.2.2.2.2⟩:Xk),(⟨y2.1,y2.2.1,y2.2.2.1,y2.2.2.2.1,y2.2.2.2.2⟩:Xk)) fun (y3:Bool)=>.ite y3 (.leaf (.inl ((y1.1 != y2.1),true,y1.1,y1.2.1,y1.2.2.1,y1.2.2.2.1,y1.2.2.2.2,y2.1,y2.2.1,y2.2.2.1,y2.2.2.2.1,y2.2.2.2.2))) (.ite y1.2.2.2.1 (.ite (!y2.2.2.2.1) (.ite (y2.2.1==0) (.leaf (.inl ((y1.1 != y2.1),true,y1.1,y1.2.1,y1.2.2.1,y1.2.2.2.1,y1.2.2.2.2,y2.1,y2.2.1,y2.2.2.1,y2.2.2.2.1,y2.2.2.2.2))) (.ite y2.2.2.2.1 (.ite (!y1.2.2.2.1) (.leaf (.inl ((y1.1 != y2.1),(y1.2.1==0),y1.1,y1.2.1,y1.2.2.1,y1.2.2.2.1,y1.2.2.2.2,y2.1,y2.2.1,y2.2.2.1,y2.2.2.2.1,y2.2.2.2.2))) (.leaf (.inl ((y1.1 != y2.1),false,y1.1,y1.2.1,y1.2.2.1,y1.2.2.2.1,y1.2.2.2.2,y2.1,y2.2.1,y2.2.2.1,y2.2.2.2.1,y2.2.2.2.2)))) (.leaf (.inl ((y1.1 != y2.1),false,y1.1,y1.2.1,y1.2.2.1,y1.2.2.2.1,y1.2.2.2.2,y2.1,y2.2.1,y2.2.2.1,y2.2.2.2.1,y2.2.2.2.2))))) (.ite y2.2.2.2.1 (.ite (!y1.2.2.2.1) (.leaf (.inl ((y1.1 != y2.1),(y1.2.1==0),y1.1,y1.2.1,y1.2.2.1,y1.2.2.2.1,y1.2.2.2.2,y2.1,y2.2.1,y2.2.2.1,y2.2.2.2.1,y2.2.2.2.2))) (.leaf (.inl ((y1.1 != y2.1),false,y1.1,y1.2.1,y1.2.2.1,y1.2.2.2.1,y1.2.2.2.2,y2.1,y2.2.1,y2.2.2.1,y2.2.2.2.1,y2.2.2.2.2)))) (.leaf (.inl ((y1.1 != y2.1),false,y1.1,y1.2.1,y1.2.2.1,y1.2.2.2.1,y1.2.2.2.2,y2.1,y2.2.1,y2.2.2.1,y2.2.2.2.1,y2.2.2.2.2))))) (.ite y2.2.2.2.1 (.ite (!y1.2.2.2.1) (.leaf (.inl ((y1.1 != y2.1),(y1.2.1==0),y1.1,y1.2.1,y1.2.2.1,y1.2.2.2.1,y1.2.2.2.2,y2.1,y2.2.1,y2.2.2.1,y2.2.2.2.1,y2.2.2.2.2))) (.leaf (.inl ((y1.1 != y2.1),false,y1.1,y1.2.1,y1.2.2.1,y1.2.2.2.1,y1.2.2.2.2,y2.1,y2.2.1,y2.2.2.1,y2.2.2.2.1,y2.2.2.2.2)))) (.leaf (.inl ((y1.1 != y2.1),false,y1.1,y1.2.1,y1.2.2.1,y1.2.2.2.1,y1.2.2.2.2,y2.1,y2.2.1,y2.2.2.1,y2.2.2.2.1,y2.2.2.2.2)))))) fun s1=>.ite s1.2.1 (.leaf (2143289344:Int)) (.join (S:=Yaq) (zoo x) (.ite s1.2.2.2.2.2.1 (.leaf (.inl (s1.1,true,s1.2.2.1,s1.2.2.2.1,s1.2.2.2.2.1,s1.2.2.2.2.2.1,s1.2.2.2.2.2.2.1,s1.2.2.2.2.2.2.2.1,s1.2.2.2.2.2.2.2.2.1,s1.2.2.2.2.2.2.2.2.2.1,s1.2.2.2.2.2.2.2.2.2.2.1,s1.2.2.2.2.2.2.2.2.2.2.2))) (.leaf (.inl (s1.1,s1.2.2.2.2.2.2.2.2.2.2.1,s1.2.2.1,s1.2.2.2.1,s1.2.2.2.2.1,s1.2.2.2.2.2.1,s1.2.2.2.2.2.2.1,s1.2.2.2.2.2.2.2.1,s1.2.2.2.2.2.2.2.2.1,s1.2.2.2.2.2.2.2.2.2.1,s1.2.2.2.2.2.2.2.2.2.2.1,s1.2.2.2.2.2.2.2.2.2.2.2)))) fun s2=>.ite s2.2.1 (.call (k160 n) s2.1 fun (y4:Int)=>.leaf y4) (.call (k162 n) (s2.1,(IntKind.u64.wrap (s2.2.2.2.1 * s2.2.2.2.2.2.2.2.2.1)),(IntKind.i64.wrap (s2.2.2.2.2.1+s2.2.2.2.2.2.2.2.2.2.1))) fun (y5:Int)=>.leaf y5))
noncomputable def k158 (n:Nat):Con P_ Ty_:=zd (X:=Yaa) (R:=Int) (pro:=[]) (y6u n) 106 y6v (fun x=>.two .no (.two .no (.two .no (.two .no (.two (.two (.join (Yaq) (zon x) ⟨[(5,.ref 5),(6,.ref 6),(7,.any),(17,.any)],[(5,.any),(6,.any)]⟩ .no (.two .no (.join (Yaq) (zoo x) ⟨[(5,.ref 5),(6,.ref 6),(7,.any),(49,.any)],[(5,.any),(6,.any)]⟩ .no .no))) .no) .no))))) [.any,.any] [] [] ⟨[(4,.any)],[]⟩ [] true (fun x=>[I_ x.1,I_ x.2]) (fun x=>[]) (fun y=>([(4,I_ y)],[])) (fun y=>I_ y) (fun y=>[]) (zkz n)
noncomputable def y85 (n:Nat):Cx P_ Ty_:=⟨[k69 n,k159 n,k160 n,k163 n,k180 n,k162 n],[],[],[]⟩
abbrev y86:List (List Nat):=[[0,1],[1,5],[5,6],[5,6,7],[5,6,7,20],[4],[5,6,7,52],[4],[5,6,7,67],[4],[5,6,7],[5,6,7],[5,6,7,8],[5,6,7,8,9],[5,6,7,9,10],[5,6,7,9,10],[5,6,7,9,95],[5,6,7,9],[4]]
noncomputable def zpa (x:Yaa) (p:Yaq):EH Ty_:=([(5,.pt 5 [] 0 0),(6,.pt 6 [] 0 0),(7,B_ p.1),(20,B_ p.2.1)],[(5,.lit 5 [[B_ p.2.2.1,.sc (.int .u64 p.2.2.2.1),I_ p.2.2.2.2.1,B_ p.2.2.2.2.2.1,B_ p.2.2.2.2.2.2.1]]),(6,.lit 5 [[B_ p.2.2.2.2.2.2.2.1,.sc (.int .u64 p.2.2.2.2.2.2.2.2.1),I_ p.2.2.2.2.2.2.2.2.2.1,B_ p.2.2.2.2.2.2.2.2.2.2.1,B_ p.2.2.2.2.2.2.2.2.2.2.2]])])
noncomputable def zpb (x:Yaa) (p:Yaq):EH Ty_:=([(5,.pt 5 [] 0 0),(6,.pt 6 [] 0 0),(7,B_ p.1),(52,B_ p.2.1)],[(5,.lit 5 [[B_ p.2.2.1,.sc (.int .u64 p.2.2.2.1),I_ p.2.2.2.2.1,B_ p.2.2.2.2.2.1,B_ p.2.2.2.2.2.2.1]]),(6,.lit 5 [[B_ p.2.2.2.2.2.2.2.1,.sc (.int .u64 p.2.2.2.2.2.2.2.2.1),I_ p.2.2.2.2.2.2.2.2.2.1,B_ p.2.2.2.2.2.2.2.2.2.2.1,B_ p.2.2.2.2.2.2.2.2.2.2.2]])])
noncomputable def zpc (x:Yaa) (p:Yaq):EH Ty_:=([(5,.pt 5 [] 0 0),(6,.pt 6 [] 0 0),(7,B_ p.1),(67,B_ p.2.1)],[(5,.lit 5 [[B_ p.2.2.1,.sc (.int .u64 p.2.2.2.1),I_ p.2.2.2.2.1,B_ p.2.2.2.2.2.1,B_ p.2.2.2.2.2.2.1]]),(6,.lit 5 [[B_ p.2.2.2.2.2.2.2.1,.sc (.int .u64 p.2.2.2.2.2.2.2.2.1),I_ p.2.2.2.2.2.2.2.2.2.1,B_ p.2.2.2.2.2.2.2.2.2.2.1,B_ p.2.2.2.2.2.2.2.2.2.2.2]])])
noncomputable def zpd (x:Yaa) (p:Ycl):EH Ty_:=([(5,.pt 5 [] 0 0),(6,.pt 6 [] 0 0),(7,B_ p.1),(9,.sc (.int .u64 p.2.1))],[(5,.lit 5 [[B_ p.2.2.1,.sc (.int .u64 p.2.2.2.1),I_ p.2.2.2.2.1,B_ p.2.2.2.2.2.1,B_ p.2.2.2.2.2.2.1]]),(6,.lit 5 [[B_ p.2.2.2.2.2.2.2.1,.sc (.int .u64 p.2.2.2.2.2.2.2.2.1),I_ p.2.2.2.2.2.2.2.2.2.1,B_ p.2.2.2.2.2.2.2.2.2.2.1,B_ p.2.2.2.2.2.2.2.2.2.2.2]])])
noncomputable def zlq (n:Nat) (x:Yaa):Pt P_ Ty_ [] Int:=.call (k69 n) x.1 fun (y1:Yai)=>.call (k69 n) x.2 fun (y2:Yai)=>.join (S:=Yaq) (zpa x) (.call (k159 n) ((⟨y1.1,y1.2.1,y1.2.2.1,y1.2.2.2.1,y1.2.2.2.2⟩:Xk),(⟨y2.1,y2.2.1,y2.2.2.1,y2.2.2.2.1,y2.2.2.2.2⟩:Xk)) fun (y3:Bool)=>.ite y3 (.leaf (.inl ((y1.1 != y2.1),true,y1.1,y1.2.1,y1.2.2.1,y1.2.2.2.1,y1.2.2.2.2,y2.1,y2.2.1,y2.2.2.1,y2.2.2.2.1,y2.2.2.2.2))) (.ite y1.2.2.2.1 (.ite y2.2.2.2.1 (.leaf (.inl ((y1.1 != y2.1),true,y1.1,y1.2.1,y1.2.2.1,y1.2.2.2.1,y1.2.2.2.2,y2.1,y2.2.1,y2.2.2.1,y2.2.2.2.1,y2.2.2.2.2))) (.ite (!y1.2.2.2.1) (.ite (!y2.2.2.2.1) (.ite (y1.2.1==0) (.leaf (.inl ((y1.1 != y2.1),(y2.2.1==0),y1.1,y1.2.1,y1.2.2.1,y1.2.2.2.1,y1.2.2.2.2,y2.1,y2.2.1,y2.2.2.1,y2.2.2.2.1,y2.2.2.2.2))) (.leaf (.inl ((y1.1 != y2.1),false,y1.1,y1.2.1,y1.2.2.1,y1.2.2.2.1,y1.2.2.2.2,y2.1,y2.2.1,y2.2.2.1,y2.2.2.2.1,y2.2.2.2.2)))) (.leaf (.inl ((y1.1 != y2.1),false,y1.1,y1.2.1,y1.2.2.1,y1.2.2.2.1,y1.2.2.2.2,y2.1,y2.2.1,y2.2.2.1,y2.2.2.2.1,y2.2.2.2.2)))) (.leaf (.inl ((y1.1 != y2.1),false,y1.1,y1.2.1,y1.2.2.1,y1.2.2.2.1,y1.2.2.2.2,y2.1,y2.2.1,y2.2.2.1,y2.2.2.2.1,y2.2.2.2.2))))) (.ite (!y1.2.2.2.1) (.ite (!y2.2.2.2.1) (.ite (y1.2.1==0) (.leaf (.inl ((y1.1 != y2.1),(y2.2.1==0),y1.1,y1.2.1,y1.2.2.1,y1.2.2.2.1,y1.2.2.2.2,y2.1,y2.2.1,y2.2.2.1,y2.2.2.2.1,y2.2.2.2.2))) (.leaf (.inl ((y1.1 != y2.1),false,y1.1,y1.2.1,y1.2.2.1,y1.2.2.2.1,y1.2.2.2.2,y2.1,y2.2.1,y2.2.2.1,y2.2.2.2.1,y2.2.2.2.2)))) (.leaf (.inl ((y1.1 != y2.1),false,y1.1,y1.2.1,y1.2.2.1,y1.2.2.2.1,y1.2.2.2.2,y2.1,y2.2.1,y2.2.2.1,y2.2.2.2.1,y2.2.2.2.2)))) (.leaf (.inl ((y1.1 != y2.1),false,y1.1,y1.2.1,y1.2.2.1,y1.2.2.2.1,y1.2.2.2.2,y2.1,y2.2.1,y2.2.2.1,y2.2.2.2.1,y2.2.2.2.2)))))) fun s1=>.ite s1.2.1 (.leaf (2143289344:Int)) (.join (S:=Yaq) (zpb x) (.ite s1.2.2.2.2.2.1 (.leaf (.inl (s1.1,true,s1.2.2.1,s1.2.2.2.1,s1.2.2.2.2.1,s1.2.2.2.2.2.1,s1.2.2.2.2.2.2.1,s1.2.2.2.2.2.2.2.1,s1.2.2.2.2.2.2.2.2.1,s1.2.2.2.2.2.2.2.2.2.1,s1.2.2.2.2.2.2.2.2.2.2.1,s1.2.2.2.2.2.2.2.2.2.2.2))) (.ite (!s1.2.2.2.2.2.2.2.2.2.2.1) (.leaf (.inl (s1.1,(s1.2.2.2.2.2.2.2.2.1==0),s1.2.2.1,s1.2.2.2.1,s1.2.2.2.2.1,s1.2.2.2.2.2.1,s1.2.2.2.2.2.2.1,s1.2.2.2.2.2.2.2.1,s1.2.2.2.2.2.2.2.2.1,s1.2.2.2.2.2.2.2.2.2.1,s1.2.2.2.2.2.2.2.2.2.2.1,s1.2.2.2.2.2.2.2.2.2.2.2))) (.leaf (.inl (s1.1,false,s1.2.2.1,s1.2.2.2.1,s1.2.2.2.2.1,s1.2.2.2.2.2.1,s1.2.2.2.2.2.2.1,s1.2.2.2.2.2.2.2.1,s1.2.2.2.2.2.2.2.2.1,s1.2.2.2.2.2.2.2.2.2.1,s1.2.2.2.2.2.2.2.2.2.2.1,s1.2.2.2.2.2.2.2.2.2.2.2))))) fun s2=>.ite s2.2.1 (.call (k160 n) s2.1 fun (y4:Int)=>.leaf y4) (.join (S:=Yaq) (zpc x) (.ite s2.2.2.2.2.2.2.2.2.2.2.1 (.leaf (.inl (s2.1,true,s2.2.2.1,s2.2.2.2.1,s2.2.2.2.2.1,s2.2.2.2.2.2.1,s2.2.2.2.2.2.2.1,s2.2.2.2.2.2.2.2.1,s2.2.2.2.2.2.2.2.2.1,s2.2.2.2.2.2.2.2.2.2.1,s2.2.2.2.2.2.2.2.2.2.2.1,s2.2.2.2.2.2.2.2.2.2.2.2))) (.leaf (.inl (s2.1,(s2.2.2.2.1==0),s2.2.2.1,s2.2.2.2.1,s2.2.2.2.2.1,s2.2.2.2.2.2.1,s2.2.2.2.2.2.2.1,s2.2.2.2.2.2.2.2.1,s2.2.2.2.2.2.2.2.2.1,s2.2.2.2.2.2.2.2.2.2.1,s2.2.2.2.2.2.2.2.2.2.2.1,s2.2.2.2.2.2.2.2.2.2.2.2)))) fun s3=>.ite s3.2.1 (.call (k163 n) s3.1 fun (y5:Int)=>.leaf y5) (.call (k180 n) (⟨s3.2.2.1,s3.2.2.2.1,s3.2.2.2.2.1,s3.2.2.2.2.2.1,s3.2.2.2.2.2.2.1⟩:Xk) fun (y6:Yai)=>.call (k180 n) (⟨s3.2.2.2.2.2.2.2.1,s3.2.2.2.2.2.2.2.2.1,s3.2.2.2.2.2.2.2.2.2.1,s3.2.2.2.2.2.2.2.2.2.2.1,s3.2.2.2.2.2.2.2.2.2.2.2⟩:Xk) fun (y7:Yai)=>.need (y7.2.1 ≠ 0) (.need (y7.2.1 ≠ 0) (.join (S:=Ycl) (zpd x) (.ite (decide (((IntKind.u64.wrap (y6.2.1 * 2 ^ min (38:Int).toNat IntKind.u64.bits)).tmod y7.2.1) > (0:Int))) (.leaf (.inl (s3.1,(IntKind.u64.wrap ((IntKind.u64.wrap ((IntKind.u64.wrap ((IntKind.u64.wrap (y6.2.1 * 2 ^ min (38:Int).toNat IntKind.u64.bits)).tdiv y7.2.1)) * (2:Int)))+(1:Int))),y6.1,y6.2.1,y6.2.2.1,y6.2.2.2.1,y6.2.2.2.2,y7.1,y7.2.1,y7.2.2.1,y7.2.2.2.1,y7.2.2.2.2))) (.leaf (.inl (s3.1,(IntKind.u64.wrap ((IntKind.u64.wrap ((IntKind.u64.wrap (y6.2.1 * 2 ^ min (38:Int).toNat IntKind.u64.bits)).tdiv y7.2.1)) * (2:Int))),y6.1,y6.2.1,y6.2.2.1,y6.2.2.2.1,y6.2.2.2.2,y7.1,y7.2.1,y7.2.2.1,y7.2.2.2.1,y7.2.2.2.2)))) fun s4=>.call (k162 n) (s4.1,s4.2.1,(IntKind.i64.wrap ((IntKind.i64.wrap (s4.2.2.2.2.1 - s4.2.2.2.2.2.2.2.2.2.1)) - (39:Int)))) fun (y8:Int)=>.leaf y8)))))
noncomputable def k186 (n:Nat):Con P_ Ty_:=zd (X:=Yaa) (R:=Int) (pro:=[]) (y85 n) 127 y86 (fun x=>.two .no (.two .no (.two .no (.two .no (.two (.two (.join (Yaq) (zpa x) ⟨[(5,.ref 5),(6,.ref 6),(7,.any),(20,.any)],[(5,.any),(6,.any)]⟩ .no (.two .no (.join (Yaq) (zpb x) ⟨[(5,.ref 5),(6,.ref 6),(7,.any),(52,.any)],[(5,.any),(6,.any)]⟩ .no (.two .no (.join (Yaq) (zpc x) ⟨[(5,.ref 5),(6,.ref 6),(7,.any),(67,.any)],[(5,.any),(6,.any)]⟩ .no .no))))) .no) (.two .no (.two .no (.two .no (.two .no (.two .no (.two .no (.join (Ycl) (zpd x) ⟨[(5,.ref 5),(6,.ref 6),(7,.any),(9,.any)],[(5,.any),(6,.any)]⟩ .no .no)))))))))))) [.any,.any] [] [] ⟨[(4,.any)],[]⟩ [] true (fun x=>[I_ x.1,I_ x.2]) (fun x=>[]) (fun y=>([(4,I_ y)],[])) (fun y=>I_ y) (fun y=>[]) (zlq n)
noncomputable def y7i (n:Nat):Cx P_ Ty_:=⟨[],[],[],[]⟩
abbrev y7j:List (List Nat):=[[0],[0,3],[3,8],[2],[2]]
noncomputable def zld (n:Nat) (x:Int):Pt P_ Ty_ [] Int:=.ite ((x.fdiv (2 ^ min (31:Int).toNat IntKind.i64.bits))==1) (.leaf (IntKind.i64.wrap ((IntKind.i64.wrap (0 - (IntKind.i64.wrap (BitVec.ofInt IntKind.i64.bits x &&& ~~~BitVec.ofInt IntKind.i64.bits (2147483648:Int)).toNat))) - (1:Int)))) (.leaf (IntKind.i64.wrap (BitVec.ofInt IntKind.i64.bits x &&& ~~~BitVec.ofInt IntKind.i64.bits (2147483648:Int)).toNat))
noncomputable def k172 (n:Nat):Con P_ Ty_:=zd (X:=Int) (R:=Int) (pro:=[]) (y7i n) 119 y7j (fun x=>.no) [.any] [] [] ⟨[(2,.any)],[]⟩ [] true (fun x=>[I_ x]) (fun x=>[]) (fun y=>([(2,I_ y)],[])) (fun y=>I_ y) (fun y=>[]) (zld n)
noncomputable def y7g (n:Nat):Cx P_ Ty_:=⟨[k69 n,k159 n,k172 n],[],[],[]⟩
abbrev y7h:List (List Nat):=[[0,1],[0,1,9],[4],[0,1,14],[4],[4]]
noncomputable def zlc (n:Nat) (x:Yaa):Pt P_ Ty_ [] Int:=.call (k69 n) x.1 fun (y1:Yai)=>.call (k69 n) x.2 fun (y2:Yai)=>.call (k159 n) ((⟨y1.1,y1.2.1,y1.2.2.1,y1.2.2.2.1,y1.2.2.2.2⟩:Xk),(⟨y2.1,y2.2.1,y2.2.2.1,y2.2.2.2.1,y2.2.2.2.2⟩:Xk)) fun (y3:Bool)=>.ite y3 (.leaf (2143289344:Int)) (.call (k172 n) x.2 fun (y4:Int)=>.call (k172 n) x.1 fun (y5:Int)=>.ite (decide (y4<y5)) (.leaf x.2) (.leaf x.1))
noncomputable def k171 (n:Nat):Con P_ Ty_:=zd (X:=Yaa) (R:=Int) (pro:=[]) (y7g n) 109 y7h (fun x=>.no) [.any,.any] [] [] ⟨[(4,.any)],[]⟩ [] true (fun x=>[I_ x.1,I_ x.2]) (fun x=>[]) (fun y=>([(4,I_ y)],[])) (fun y=>I_ y) (fun y=>[]) (zlc n)
noncomputable def y87 (n:Nat):Cx P_ Ty_:=⟨[k69 n,k159 n,k172 n],[],[],[]⟩
abbrev y88:List (List Nat):=[[0,1],[0,1,9],[4],[0,1,14],[4],[4]]
noncomputable def zlr (n:Nat) (x:Yaa):Pt P_ Ty_ [] Int:=.call (k69 n) x.1 fun (y1:Yai)=>.call (k69 n) x.2 fun (y2:Yai)=>.call (k159 n) ((⟨y1.1,y1.2.1,y1.2.2.1,y1.2.2.2.1,y1.2.2.2.2⟩:Xk),(⟨y2.1,y2.2.1,y2.2.2.1,y2.2.2.2.1,y2.2.2.2.2⟩:Xk)) fun (y3:Bool)=>.ite y3 (.leaf (2143289344:Int)) (.call (k172 n) x.2 fun (y4:Int)=>.call (k172 n) x.1 fun (y5:Int)=>.ite (decide (y4 > y5)) (.leaf x.2) (.leaf x.1))
noncomputable def k187 (n:Nat):Con P_ Ty_:=zd (X:=Yaa) (R:=Int) (pro:=[]) (y87 n) 128 y88 (fun x=>.no) [.any,.any] [] [] ⟨[(4,.any)],[]⟩ [] true (fun x=>[I_ x.1,I_ x.2]) (fun x=>[]) (fun y=>([(4,I_ y)],[])) (fun y=>I_ y) (fun y=>[]) (zlr n)
noncomputable def y8b (n:Nat):Cx P_ Ty_:=⟨[],[],[],[]⟩
abbrev y8c:List (List Nat):=[[0],[2]]
noncomputable def zlt (n:Nat) (x:Int):Pt P_ Ty_ [] Bool:=.leaf ((IntKind.i64.wrap (BitVec.ofInt IntKind.i64.bits x &&& ~~~BitVec.ofInt IntKind.i64.bits (2147483648:Int)).toNat)==0)
noncomputable def k189 (n:Nat):Con P_ Ty_:=zd (X:=Int) (R:=Bool) (pro:=[]) (y8b n) 132 y8c (fun x=>.no) [.any] [] [] ⟨[(2,.any)],[]⟩ [] true (fun x=>[I_ x]) (fun x=>[]) (fun y=>([(2,B_ y)],[])) (fun y=>B_ y) (fun y=>[]) (zlt n)
noncomputable def y89 (n:Nat):Cx P_ Ty_:=⟨[k69 n,k159 n,k189 n,k172 n],[],[],[]⟩
abbrev y8a:List (List Nat):=[[0,1],[0,1,17],[4],[4]]
noncomputable def zpe (x:Yaa) (p:Bool):EH Ty_:=([(0,I_ x.1),(1,I_ x.2),(17,B_ p)],[])
noncomputable def zls (n:Nat) (x:Yaa):Pt P_ Ty_ [] Bool:=.join (S:=Bool) (zpe x) (.call (k69 n) x.1 fun (y1:Yai)=>.call (k69 n) x.2 fun (y2:Yai)=>.call (k159 n) ((⟨y1.1,y1.2.1,y1.2.2.1,y1.2.2.2.1,y1.2.2.2.2⟩:Xk),(⟨y2.1,y2.2.1,y2.2.2.1,y2.2.2.2.1,y2.2.2.2.2⟩:Xk)) fun (y3:Bool)=>.ite y3 (.leaf (.inl true)) (.call (k189 n) x.1 fun (y4:Bool)=>.ite y4 (.call (k189 n) x.2 fun (y5:Bool)=>.leaf (.inl y5)) (.leaf (.inl false)))) fun s1=>.ite s1 (.leaf false) (.call (k172 n) x.1 fun (y6:Int)=>.call (k172 n) x.2 fun (y7:Int)=>.leaf (decide (y6<y7)))
noncomputable def k188 (n:Nat):Con P_ Ty_:=zd (X:=Yaa) (R:=Bool) (pro:=[]) (y89 n) 129 y8a (fun x=>.two .no (.two (.join Bool (zpe x) ⟨[(0,.any),(1,.any),(17,.any)],[]⟩ .no .no) .no)) [.any,.any] [] [] ⟨[(4,.any)],[]⟩ [] true (fun x=>[I_ x.1,I_ x.2]) (fun x=>[]) (fun y=>([(4,B_ y)],[])) (fun y=>B_ y) (fun y=>[]) (zls n)
noncomputable def y8d (n:Nat):Cx P_ Ty_:=⟨[k69 n,k189 n,k65 n],[],[],[]⟩
abbrev y8e:List (List Nat):=[[0,1,2],[1,2,13],[6],[6]]
noncomputable def zpf (x:Yal) (p:Bool):EH Ty_:=([(1,I_ x.2.1),(2,I_ x.2.2),(13,B_ p)],[])
noncomputable def zlu (n:Nat) (x:Yal):Pt P_ Ty_ [] Int:=.join (S:=Bool) (zpf x) (.call (k69 n) x.1 fun (y1:Yai)=>.ite y1.2.2.2.2 (.leaf (.inl true)) (.call (k189 n) x.1 fun (y2:Bool)=>.leaf (.inl y2))) fun s1=>.ite s1 (.call (k65 n) x.2.2 fun (y3:Int)=>.leaf y3) (.call (k65 n) x.2.1 fun (y4:Int)=>.leaf y4)
noncomputable def k190 (n:Nat):Con P_ Ty_:=zd (X:=Yal) (R:=Int) (pro:=[]) (y8d n) 130 y8e (fun x=>.two .no (.two (.join Bool (zpf x) ⟨[(1,.any),(2,.any),(13,.any)],[]⟩ .no .no) .no)) [.any,.any,.any] [] [] ⟨[(6,.any)],[]⟩ [] true (fun x=>[I_ x.1,I_ x.2.1,I_ x.2.2]) (fun x=>[]) (fun y=>([(6,I_ y)],[])) (fun y=>I_ y) (fun y=>[]) (zlu n)
noncomputable def y7t (n:Nat):Cx P_ Ty_:=⟨[k136 n,k179 n,k181 n,k182 n,k183 n,k184 n,k168 n,k185 n,k158 n,k186 n,k171 n,k187 n,k188 n,k190 n],[],[],[]⟩
abbrev y7u:List (List Nat):=[[0,1,2,3],[1,2,3,9],[1,2,3,9,10],[8],[1,2,3,9,14],[8],[1,2,3,9,18],[8],[1,2,3,9,22],[8],[1,2,3,9,26],[8],[1,2,3,9,31],[8],[1,2,3,9,36],[8],[1,2,3,9,41],[8],[1,2,3,9,46],[8],[1,2,3,9,51],[8],[1,2,3,9,56],[8],[1,2,3,61],[8],[8]]
noncomputable def zli (n:Nat) (x:Yan):Pt P_ Ty_ [] Int:=.ite (x.1==3) (.call (k136 n) x.2.1 fun (y1:Int)=>.leaf y1) (.ite (x.1==11) (.call (k179 n) x.2.1 fun (y2:Int)=>.leaf y2) (.ite (x.1==12) (.call (k181 n) x.2.1 fun (y3:Int)=>.leaf y3) (.ite (x.1==13) (.call (k182 n) x.2.1 fun (y4:Int)=>.leaf y4) (.ite (x.1==14) (.call (k183 n) x.2.1 fun (y5:Bool)=>.call (k184 n) y5 fun (y6:Int)=>.leaf y6) (.ite (x.1==4) (.call (k168 n) (x.2.1,x.2.2.1) fun (y7:Int)=>.leaf y7) (.ite (x.1==5) (.call (k185 n) (x.2.1,x.2.2.1) fun (y8:Int)=>.leaf y8) (.ite (x.1==6) (.call (k158 n) (x.2.1,x.2.2.1) fun (y9:Int)=>.leaf y9) (.ite (x.1==7) (.call (k186 n) (x.2.1,x.2.2.1) fun (y10:Int)=>.leaf y10) (.ite (x.1==8) (.call (k171 n) (x.2.1,x.2.2.1) fun (y11:Int)=>.leaf y11) (.ite (x.1==9) (.call (k187 n) (x.2.1,x.2.2.1) fun (y12:Int)=>.leaf y12) (.ite (x.1==10) (.call (k188 n) (x.2.1,x.2.2.1) fun (y13:Bool)=>.call (k184 n) y13 fun (y14:Int)=>.leaf y14) (.call (k190 n) (x.2.1,x.2.2.1,x.2.2.2) fun (y15:Int)=>.leaf y15))))))))))))
noncomputable def k178 (n:Nat):Con P_ Ty_:=zd (X:=Yan) (R:=Int) (pro:=[]) (y7t n) 112 y7u (fun x=>.no) [.any,.any,.any,.any] [] [] ⟨[(8,.any)],[]⟩ [] true (fun x=>[I_ x.1,I_ x.2.1,I_ x.2.2.1,I_ x.2.2.2]) (fun x=>[]) (fun y=>([(8,I_ y)],[])) (fun y=>I_ y) (fun y=>[]) (zli n)
noncomputable def zcs (n:Nat):Cx P_ Ty_:=⟨[k176 n,k177 n,k178 n],[(100,false,9),(101,false,9)],[],[]⟩
abbrev zct:List (List Nat):=[[0,1],[0,1,6],[0,1,6,23],[4,5],[0,1,6,7],[0,1,6,7,8],[0,1,6,7,8,30],[0,1,6,7,8,42],[0,1,6,7,8],[0,1,6,7,8],[0,1,6,7,9],[0,1,6,7,9,50],[0,1,6,7,9,71],[4,5],[0,1,6,7,9],[0,1,6,7,10],[0,1,6,7,10,11],[0,1,6,7,10,11,74],[0,1,6,7,10,11,12],[0,1,6,7,10,11,12,13],[0,1,6,7,10,11,12,13,80],[0,1,6,7,10,11,12,13],[0,1,6,7,10,11,12,13],[0,1,6,7,10,11],[0,1,6,7,10,11],[4,5]]
noncomputable def zpl (x:Yaf) (p:Yag):EH Ty_:=([(0,I_ x.1),(1,.im 10 x.2),(6,I_ p.1),(23,B_ p.2)],[])
noncomputable def zpm (x:Yaf) (v1:Int) (q1:Yaa) (p:Bool):EH Ty_:=([(0,I_ x.1),(1,.im 10 x.2),(6,I_ v1),(7,I_ q1.1),(8,I_ q1.2),(42,B_ p)],[])
noncomputable def zpn (x:Yaf) (v2:Yaa) (q2:Int) (p:Bool):EH Ty_:=([(0,I_ x.1),(1,.im 10 x.2),(6,I_ v2.1),(7,I_ v2.2),(9,I_ q2),(71,B_ p)],[])
noncomputable def zac (n:Nat) (x:Yaf) (v1:Int) (q1:Yaa):Pt P_ Ty_ [] (Bo (Yaa) (Yaa) Empty):=.ite (decide (q1.2<v1)) (.join (S:=Bool) (zpm x v1 q1) (.ite (q1.1==1) (.leaf (.inl true)) (.bnd (idx x.2 q1.2) fun y3=>.leaf (.inl ((y3.length:Int)==0)))) fun s2=>.ite s2 (.bnd (idx x.2 q1.2) fun y4=>.leaf (.go ((y4.length:Int),(IntKind.i64.wrap (q1.2+(1:Int)))))) (.leaf (.go (q1.1,(IntKind.i64.wrap (q1.2+(1:Int))))))) (.leaf (.out (q1.1,q1.2)))
noncomputable def zph (n:Nat) (x:Yaf) (v1:Int):LCon P_ Ty_ []:=lcon (X:=Yaa) (Y:=Yaa) (Z:=Empty) (zcs n) (subC [1,1,1,1,0,1,0,0] (fnC P_ 103 zct)) (fun q1=>.two .no (.two (.two (.join Bool (zpm x v1 q1) ⟨[(0,.any),(1,.im 10),(6,.any),(7,.any),(8,.any),(42,.any)],[]⟩ .no .no) .no) .no)) 0 false ⟨[(0,.any),(1,.im 10),(6,.any),(7,.any),(8,.any)],[]⟩ ⟨[(0,.any),(1,.im 10),(6,.any),(7,.any),(8,.any),(30,.any)],[]⟩ ⟨[],[]⟩ (fun q1=>([(0,I_ x.1),(1,.im 10 x.2),(6,I_ v1),(7,I_ q1.1),(8,I_ q1.2)],[])) (fun p=>([(0,I_ x.1),(1,.im 10 x.2),(6,I_ v1),(7,I_ p.1),(8,I_ p.2),(30,B_ false)],[])) (fun p=>nomatch p) n (zac n x v1)
noncomputable def zad (n:Nat) (x:Yaf) (v2:Yaa) (q2:Int):Pt P_ Ty_ [] (Bo Int Int Unit):=.ite (decide (q2<v2.1)) (.join (S:=Bool) (zpn x v2 q2) (.bnd (idx x.2 q2) fun y6=>.ite ((y6.length:Int) != v2.2) (.ite (v2.2==0) (.leaf (.inl true)) (.bnd (idx x.2 q2) fun y7=>.leaf (.inl ((y7.length:Int) != (1:Int))))) (.leaf (.inl false))) fun s3=>.ite s3 (.leaf (.ret ())) (.leaf (.go (IntKind.i64.wrap (q2+(1:Int)))))) (.leaf (.out q2))
noncomputable def zpi (n:Nat) (x:Yaf) (v2:Yaa):LCon P_ Ty_ []:=lcon (X:=Int) (Y:=Int) (Z:=Unit) (zcs n) (subC [1,1,1,1,1,0,1,0,0] (fnC P_ 103 zct)) (fun q2=>.two .no (.two (.two (.join Bool (zpn x v2 q2) ⟨[(0,.any),(1,.im 10),(6,.any),(7,.any),(9,.any),(71,.any)],[]⟩ .no .no) .no) .no)) 2 true ⟨[(0,.any),(1,.im 10),(6,.any),(7,.any),(9,.any)],[]⟩ ⟨[(0,.any),(1,.im 10),(6,.any),(7,.any),(9,.any),(50,.any)],[]⟩ ⟨[(4,.any),(5,.any)],[]⟩ (fun q2=>([(0,I_ x.1),(1,.im 10 x.2),(6,I_ v2.1),(7,I_ v2.2),(9,I_ q2)],[])) (fun p=>([(0,I_ x.1),(1,.im 10 x.2),(6,I_ v2.1),(7,I_ v2.2),(9,I_ p),(50,B_ false)],[])) (fun p=>([(4,.zs),(5,I_ (50:Int))],[])) n (zad n x v2)
noncomputable def zaf (n:Nat) (x:Yaf) (v3:Yaa) (q3:Yab) (v4:Unit) (q4:Yan):Pt P_ Ty_ [] (Bo (Yan) (Yan) Empty):=.ite (decide (q4.1<v3.1)) (.bnd (idx x.2 q4.1) fun y9=>.call (k177 n) (y9,q3.1) fun (y10:Int)=>.ite (q4.1==(0:Nat)) (.leaf (.go ((IntKind.i64.wrap (q4.1+(1:Int))),y10,q4.2.2.1,q4.2.2.2))) (.ite (q4.1==(1:Nat)) (.leaf (.go ((IntKind.i64.wrap (q4.1+(1:Int))),q4.2.1,y10,q4.2.2.2))) (.ite (q4.1==(2:Nat)) (.leaf (.go ((IntKind.i64.wrap (q4.1+(1:Int))),q4.2.1,q4.2.2.1,y10))) .no))) (.leaf (.out (q4.1,q4.2.1,q4.2.2.1,q4.2.2.2)))
noncomputable def zpk (n:Nat) (x:Yaf) (v3:Yaa) (q3:Yab) (v4:Unit):LCon P_ Ty_ []:=lcon (X:=Yan) (Y:=Yan) (Z:=Empty) (zcs n) (subC [1,1,1,1,1,1,1,0,1,0,0,1,0,0,1,0,1,0,0] (fnC P_ 103 zct)) (fun q4=>.no) 6 false ⟨[(0,.any),(1,.im 10),(6,.any),(7,.any),(10,.ref 600001),(11,.any),(12,.ref 12),(13,.any)],[(600001,.any),(12,.any)]⟩ ⟨[(0,.any),(1,.im 10),(6,.any),(7,.any),(10,.ref 600001),(11,.any),(12,.ref 12),(13,.any),(80,.any)],[(600001,.any),(12,.any)]⟩ ⟨[],[]⟩ (fun q4=>([(0,I_ x.1),(1,.im 10 x.2),(6,I_ v3.1),(7,I_ v3.2),(10,.sw 600001 []),(11,I_ q3.1),(12,.pt 12 [] 0 0),(13,I_ q4.1)],[(600001,.typ false 9 q3.2),(12,.lit 3 [[I_ q4.2.1,I_ q4.2.2.1,I_ q4.2.2.2]])])) (fun p=>([(0,I_ x.1),(1,.im 10 x.2),(6,I_ v3.1),(7,I_ v3.2),(10,.sw 600001 []),(11,I_ q3.1),(12,.pt 12 [] 0 0),(13,I_ p.1),(80,B_ false)],[(600001,.typ false 9 q3.2),(12,.lit 3 [[I_ p.2.1,I_ p.2.2.1,I_ p.2.2.2]])])) (fun p=>nomatch p) n (zaf n x v3 q3 v4)
noncomputable def zae (n:Nat) (x:Yaf) (v3:Yaa) (q3:Yab):Pt P_ Ty_ [] (Bo (Yab) (Yab) Empty):=.ite (decide (q3.1<v3.2)) (.loop (V:=Unit) (zpk n x v3 q3) () ((0:Int),(0:Int),(0:Int),(0:Int)) fun (v4:Unit) (y11:Yan)=>.call (k178 n) (x.1,y11.2.1,y11.2.2.1,y11.2.2.2) fun (y12:Int)=>.need ((q3.2.length+([y12]:List Int).length) * 8≤140737488355328) (.leaf (.go ((IntKind.i64.wrap (q3.1+(1:Int))),(q3.2++([y12]:List Int)))))) (.leaf (.out (q3.1,q3.2)))
noncomputable def zpj (n:Nat) (x:Yaf) (v3:Yaa):LCon P_ Ty_ []:=lcon (X:=Yab) (Y:=Yab) (Z:=Empty) (zcs n) (subC [1,1,1,1,1,1,1,0,1,0,0] (fnC P_ 103 zct)) (fun q3=>.two .no (.two (.two (.two .no (.two (.two .no (.two (.loop Unit (zpk n x v3 q3) false ⟨[(0,.any),(1,.im 10),(6,.any),(7,.any),(10,.ref 600001),(11,.any),(12,.ref 12),(13,.any)],[(600001,.any),(12,.any)]⟩) .no)) .no)) .no) .no)) 4 false ⟨[(0,.any),(1,.im 10),(6,.any),(7,.any),(10,.own 600001 false 9),(11,.any)],[(600001,.any)]⟩ ⟨[(0,.any),(1,.im 10),(6,.any),(7,.any),(10,.ref 600001),(11,.any),(74,.any)],[(600001,.any)]⟩ ⟨[],[]⟩ (fun q3=>([(0,I_ x.1),(1,.im 10 x.2),(6,I_ v3.1),(7,I_ v3.2),(10,.sw 600001 []),(11,I_ q3.1)],[(600001,.typ false 9 q3.2)])) (fun p=>([(0,I_ x.1),(1,.im 10 x.2),(6,I_ v3.1),(7,I_ v3.2),(10,.sw 600001 []),(11,I_ p.1),(74,B_ false)],[(600001,.typ false 9 p.2)])) (fun p=>nomatch p) n (zae n x v3)
noncomputable def zlw (n:Nat) (x:Yaf):Pt P_ Ty_ [] (Yab):=.call (k176 n) x.1 fun (y1:Int)=>.join (S:=Yag) (zpl x) (.ite (y1==0) (.leaf (.inl (y1,true))) (.leaf (.inl (y1,((x.2.length:Int) != y1))))) fun s1=>.ite s1.2 (.leaf ((1:Int),([]:List Int))) (.bnd (idx x.2 (0:Int)) fun y2=>.loop (V:=Int) (zph n x) s1.1 ((y2.length:Int),(0:Int)) fun (v1:Int) (y5:Yaa)=>.loopR (V:=Yaa) (zpi n x) (v1,y5.1) (0:Int) (fun (v2:Yaa) (y8:Int)=>.loop (V:=Yaa) (zpj n x) (v2.1,v2.2) ((0:Int),([]:List Int)) fun (v3:Yaa) (y13:Yab)=>.leaf ((0:Int),y13.2)) fun (v2:Yaa) (z1:Unit)=>.leaf ((50:Int),([]:List Int)))
noncomputable def k192 (n:Nat):Con P_ Ty_:=zd (X:=Yaf) (R:=Yab) (pro:=[]) (zcs n) 103 zct (fun x=>.two .no (.two .no (.two (.join (Yag) (zpl x) ⟨[(0,.any),(1,.im 10),(6,.any),(23,.any)],[]⟩ .no .no) (.two .no (.two (.two .no (.two (.loop Int (zph n x) false ⟨[(0,.any),(1,.im 10),(6,.any),(7,.any),(8,.any)],[]⟩) .no)) (.two (.two .no (.two (.loop (Yaa) (zpi n x) true ⟨[(0,.any),(1,.im 10),(6,.any),(7,.any),(9,.any)],[]⟩) .no)) (.two .no (.two (.two .no (.two (.loop (Yaa) (zpj n x) false ⟨[(0,.any),(1,.im 10),(6,.any),(7,.any),(10,.own 600001 false 9),(11,.any)],[(600001,.any)]⟩) .no)) .no)))))))) [.any,.im 10] [] [100000] ⟨[(4,.own 100000 false 9),(5,.any)],[(100000,.any)]⟩ [100000] true (fun x=>[I_ x.1,.im 10 x.2]) (fun x=>[]) (fun y=>([(4,.sw 100000 []),(5,I_ y.1)],[(100000,.typ false 9 y.2)])) (fun y=>.tu [.sw 100000 [],I_ y.1]) (fun y=>[(100000,.typ false 9 y.2)]) (zlw n)
noncomputable def y8f (n:Nat):Cx P_ Ty_:=⟨[k176 n,k192 n,k134 n,k135 n],[(46,false,10)],[],[]⟩
abbrev y8g:List (List Nat):=[[2,3,4],[2,3,4,5],[2,3,4,5,18],[4],[2,3,4,5,6],[2,4,5,7],[2,4,5,7,60],[4,7],[4]]
noncomputable def zpg (x:Ybj) (p:(List Int)):EH Ty_:=([(4,.pt 4 [] 0 0),(7,.sw 600001 [])],[(4,.lit 2 [[.zs,I_ (0:Int)]]),(600001,.typ false 9 p)])
noncomputable def zlv (n:Nat) (x:Ybj):Pt P_ Ty_ [] (Yat):=.bnd (idx x.1.C_.Regs_ x.2.D_) fun y1=>.ite (y1.Kind_==2) (.bnd (idx x.1.Regs_ x.2.A_) fun y2=>.leaf (y2.Nums_,y2.Int_)) (.bnd (idx x.1.Regs_ x.2.A_) fun y3=>.bnd (idx x.1.Regs_ x.2.B_) fun y4=>.bnd (idx x.1.Regs_ x.2.C_) fun y5=>.call (k176 n) x.2.Op_ fun (y6:Int)=>.need (0≤y6∧y6≤(([y3.Nums_,y4.Nums_,y5.Nums_]:List (List Int)).length:Int)) (.need (0+y6.toNat≤([y3.Nums_,y4.Nums_,y5.Nums_]:List (List Int)).length) (.call (k192 n) (x.2.Op_,((([y3.Nums_,y4.Nums_,y5.Nums_]:List (List Int)).drop 0).take y6.toNat)) fun (y7:Yab)=>.join (S:=(List Int)) (zpg x) (.ite ((y7.2.length:Int)==1) (.call (k134 n) (x.1.C_,y1) fun (y8:Int)=>.need (0≤(0:Int)∧(0:Int)<(y7.2.length:Int)) (.bnd (y7.2[(0:Int).toNat]?) fun y9=>.call (k135 n) (y8,y9) fun (y10:Yab)=>.leaf (.inl y10.2))) (.leaf (.inl y7.2))) fun s1=>.leaf (s1,(0:Int)))))
noncomputable def k191 (n:Nat):Con P_ Ty_:=zd (X:=Ybj) (R:=Yat) (pro:=[]) (y8f n) 90 y8g (fun x=>.two .no (.two .no (.two .no (.two .no (.two .no (.join (List Int) (zpg x) ⟨[(4,.ref 4),(7,.ref 600001)],[(4,.any),(600001,.any)]⟩ .no .no)))))) [.ag [.im 1,.im 2,.im 3,.im 4,.im 12,.im 12,.im 10,.im 6,.im 6,.any],.ag [.any,.any,.any,.any,.any,.any,.any]] [] [] ⟨[(4,.ref 100000)],[(100000,.fix [.im 9,.no])]⟩ [] false (fun x=>[.ag [.im 1 x.1.C_.Sign_,.im 2 x.1.C_.Regs_,.im 3 x.1.C_.Slots_,.im 4 x.1.C_.List_,.im 12 x.1.Regs_,.im 12 x.1.Slots_,.im 10 x.1.Out_,.im 6 x.1.Grads_,.im 6 x.1.Params_,I_ x.1.Cost_],.ag [I_ x.2.Op_,I_ x.2.D_,I_ x.2.A_,I_ x.2.B_,I_ x.2.C_,I_ x.2.N_,.sc (.int .u32 x.2.Bits_)]]) (fun x=>[]) (fun y=>([(4,.pt 100000 [] 0 0)],[(100000,.lit 2 [[.im 9 y.1,I_ y.2]])])) (fun y=>.ag [.im 9 y.1,I_ y.2]) (fun y=>[]) (zlv n)
noncomputable def ztc (n:Nat):Cx P_ Ty_:=⟨[k65 n,k157 n,k158 n],[],[],[]⟩
abbrev ztd:List (List Nat):=[[0,1],[0,1,8],[4],[0,1,5],[0,1,5,6],[0,1,5,6,16],[0,1,5,6],[0,1,5,6,27],[0,1,5,6],[0,1,5,6],[4]]
noncomputable def zh2 (n:Nat) (x:Yaa) (v1:Unit) (q1:Yaa):Pt P_ Ty_ [] (Bo (Yaa) (Yaa) Empty):=.ite (decide (q1.2≥(0:Int))) (.call (k158 n) (q1.1,q1.1) fun (y3:Int)=>.need (0≤(IntKind.u64.wrap q1.2)) (.ite ((IntKind.i64.wrap (BitVec.ofInt IntKind.i64.bits (x.2.fdiv (2 ^ min (IntKind.u64.wrap q1.2).toNat IntKind.i64.bits)) &&& BitVec.ofInt IntKind.i64.bits (1:Int)).toNat)==1) (.call (k158 n) (y3,x.1) fun (y4:Int)=>.leaf (.go (y4,(IntKind.i64.wrap (q1.2 - (1:Int)))))) (.leaf (.go (y3,(IntKind.i64.wrap (q1.2 - (1:Int)))))))) (.leaf (.out (q1.1,q1.2)))
noncomputable def zol (n:Nat) (x:Yaa) (v1:Unit):LCon P_ Ty_ []:=lcon (X:=Yaa) (Y:=Yaa) (Z:=Empty) (ztc n) (subC [1,1,1,0,1,0,0] (fnC P_ 91 ztd)) (fun q1=>.no) 0 false ⟨[(0,.any),(1,.any),(5,.any),(6,.any)],[]⟩ ⟨[(0,.any),(1,.any),(5,.any),(6,.any),(16,.any)],[]⟩ ⟨[],[]⟩ (fun q1=>([(0,I_ x.1),(1,I_ x.2),(5,I_ q1.1),(6,I_ q1.2)],[])) (fun p=>([(0,I_ x.1),(1,I_ x.2),(5,I_ p.1),(6,I_ p.2),(16,B_ false)],[])) (fun p=>nomatch p) n (zh2 n x v1)
noncomputable def zkx (n:Nat) (x:Yaa):Pt P_ Ty_ [] Int:=.ite (decide (x.2<(1:Int))) (.leaf (1065353216:Int)) (.call (k65 n) x.1 fun (y1:Int)=>.call (k157 n) (IntKind.u64.wrap x.2) fun (y2:Int)=>.loop (V:=Unit) (zol n x) () (y1,(IntKind.i64.wrap (y2 - (2:Int)))) fun (v1:Unit) (y5:Yaa)=>.leaf y5.1)
noncomputable def k156 (n:Nat):Con P_ Ty_:=zd (X:=Yaa) (R:=Int) (pro:=[]) (ztc n) 91 ztd (fun x=>.two .no (.two .no (.two .no (.two (.two .no (.two (.loop Unit (zol n x) false ⟨[(0,.any),(1,.any),(5,.any),(6,.any)],[]⟩) .no)) .no)))) [.any,.any] [] [] ⟨[(4,.any)],[]⟩ [] true (fun x=>[I_ x.1,I_ x.2]) (fun x=>[]) (fun y=>([(4,I_ y)],[])) (fun y=>I_ y) (fun y=>[]) (zkx n)
noncomputable def y78 (n:Nat):Cx P_ Ty_:=⟨[k162 n],[],[],[]⟩
abbrev y79:List (List Nat):=[[0],[0,4],[2],[2]]
noncomputable def zl6 (n:Nat) (x:Int):Pt P_ Ty_ [] Int:=.ite (decide (x<(0:Int))) (.call (k162 n) (true,(IntKind.u64.wrap ((IntKind.u64.wrap (IntKind.i64.wrap (0 - (IntKind.i64.wrap (x+(1:Int))))))+(1:Int))),(0:Int)) fun (y1:Int)=>.leaf y1) (.call (k162 n) (false,(IntKind.u64.wrap x),(0:Int)) fun (y2:Int)=>.leaf y2)
noncomputable def k165 (n:Nat):Con P_ Ty_:=zd (X:=Int) (R:=Int) (pro:=[]) (y78 n) 92 y79 (fun x=>.no) [.any] [] [] ⟨[(2,.any)],[]⟩ [] true (fun x=>[I_ x]) (fun x=>[]) (fun y=>([(2,I_ y)],[])) (fun y=>I_ y) (fun y=>[]) (zl6 n)
noncomputable def y7a (n:Nat):Cx P_ Ty_:=⟨[],[],[],[]⟩
abbrev y7b:List (List Nat):=[[0],[3],[2],[2]]
noncomputable def zl7 (n:Nat) (x:Bool):Pt P_ Ty_ [] Int:=.ite x (.leaf (1:Int)) (.leaf (0:Int))
noncomputable def k166 (n:Nat):Con P_ Ty_:=zd (X:=Bool) (R:=Int) (pro:=[]) (y7a n) 93 y7b (fun x=>.no) [.any] [] [] ⟨[(2,.any)],[]⟩ [] true (fun x=>[B_ x]) (fun x=>[]) (fun y=>([(2,I_ y)],[])) (fun y=>I_ y) (fun y=>[]) (zl7 n)
noncomputable def ztg (n:Nat):Cx P_ Ty_:=⟨[k168 n],[],[],[]⟩
abbrev zth:List (List Nat):=[[0],[0,3],[0,3,4],[0,3,4,8],[0,3,4],[0,3,4],[2]]
noncomputable def za9 (n:Nat) (x:(List Int)) (v1:Unit) (q1:Yaa):Pt P_ Ty_ [] (Bo (Yaa) (Yaa) Empty):=.ite (decide (q1.2<(x.length:Int))) (.bnd (idx x q1.2) fun y1=>.call (k168 n) (q1.1,y1) fun (y2:Int)=>.leaf (.go (y2,(IntKind.i64.wrap (q1.2+(1:Int)))))) (.leaf (.out (q1.1,q1.2)))
noncomputable def zot (n:Nat) (x:(List Int)) (v1:Unit):LCon P_ Ty_ []:=lcon (X:=Yaa) (Y:=Yaa) (Z:=Empty) (ztg n) (subC [1,1,0,1,0,0] (fnC P_ 94 zth)) (fun q1=>.no) 0 false ⟨[(0,.im 9),(3,.any),(4,.any)],[]⟩ ⟨[(0,.im 9),(3,.any),(4,.any),(8,.any)],[]⟩ ⟨[],[]⟩ (fun q1=>([(0,.im 9 x),(3,I_ q1.1),(4,I_ q1.2)],[])) (fun p=>([(0,.im 9 x),(3,I_ p.1),(4,I_ p.2),(8,B_ false)],[])) (fun p=>nomatch p) n (za9 n x v1)
noncomputable def zl8 (n:Nat) (x:(List Int)):Pt P_ Ty_ [] Int:=.loop (V:=Unit) (zot n x) () ((0:Int),(0:Int)) fun (v1:Unit) (y3:Yaa)=>.leaf y3.1
noncomputable def k167 (n:Nat):Con P_ Ty_:=zd (X:=(List Int)) (R:=Int) (pro:=[]) (ztg n) 94 zth (fun x=>.two .no (.two .no (.two (.two .no (.two (.loop Unit (zot n x) false ⟨[(0,.im 9),(3,.any),(4,.any)],[]⟩) .no)) .no))) [.im 9] [] [] ⟨[(2,.any)],[]⟩ [] true (fun x=>[.im 9 x]) (fun x=>[]) (fun y=>([(2,I_ y)],[])) (fun y=>I_ y) (fun y=>[]) (zl8 n)
noncomputable def ztn (n:Nat):Cx P_ Ty_:=⟨[k171 n],[],[],[]⟩
abbrev zto:List (List Nat):=[[0],[0,3],[0,3,4],[0,3,4,8],[0,3,4],[0,3,4],[2]]
noncomputable def zaa (n:Nat) (x:(List Int)) (v1:Unit) (q1:Yaa):Pt P_ Ty_ [] (Bo (Yaa) (Yaa) Empty):=.ite (decide (q1.2<(x.length:Int))) (.bnd (idx x q1.2) fun y1=>.call (k171 n) (q1.1,y1) fun (y2:Int)=>.leaf (.go (y2,(IntKind.i64.wrap (q1.2+(1:Int)))))) (.leaf (.out (q1.1,q1.2)))
noncomputable def zp0 (n:Nat) (x:(List Int)) (v1:Unit):LCon P_ Ty_ []:=lcon (X:=Yaa) (Y:=Yaa) (Z:=Empty) (ztn n) (subC [1,1,0,1,0,0] (fnC P_ 95 zto)) (fun q1=>.no) 0 false ⟨[(0,.im 9),(3,.any),(4,.any)],[]⟩ ⟨[(0,.im 9),(3,.any),(4,.any),(8,.any)],[]⟩ ⟨[],[]⟩ (fun q1=>([(0,.im 9 x),(3,I_ q1.1),(4,I_ q1.2)],[])) (fun p=>([(0,.im 9 x),(3,I_ p.1),(4,I_ p.2),(8,B_ false)],[])) (fun p=>nomatch p) n (zaa n x v1)
noncomputable def zlb (n:Nat) (x:(List Int)):Pt P_ Ty_ [] Int:=.loop (V:=Unit) (zp0 n x) () ((2139095040:Int),(0:Int)) fun (v1:Unit) (y3:Yaa)=>.leaf y3.1
noncomputable def k170 (n:Nat):Con P_ Ty_:=zd (X:=(List Int)) (R:=Int) (pro:=[]) (ztn n) 95 zto (fun x=>.two .no (.two .no (.two (.two .no (.two (.loop Unit (zp0 n x) false ⟨[(0,.im 9),(3,.any),(4,.any)],[]⟩) .no)) .no))) [.im 9] [] [] ⟨[(2,.any)],[]⟩ [] true (fun x=>[.im 9 x]) (fun x=>[]) (fun y=>([(2,I_ y)],[])) (fun y=>I_ y) (fun y=>[]) (zlb n)
noncomputable def y7k (n:Nat):Cx P_ Ty_:=⟨[k166 n],[],[],[]⟩
abbrev y7l:List (List Nat):=[[0,1,2,3],[1,2,3,9],[1,2,3,9,10],[8],[1,2,3,9,15],[8],[1,2,3,9,21],[8],[1,2,3,9,27],[8],[1,2,3,9,36],[8],[1,2,3,9,41],[2,3,44],[8],[8],[1,2,47],[8],[1,2,54],[8],[8]]
noncomputable def zle (n:Nat) (x:Yan):Pt P_ Ty_ [] Int:=.ite (x.1==21) (.leaf (if (2147483647:Int)<(IntKind.i64.wrap (x.2.1+(1:Int))) then (2147483647:Int) else (IntKind.i64.wrap (x.2.1+(1:Int))))) (.ite (x.1==22) (.call (k166 n) (decide (x.2.1<x.2.2.1)) fun (y1:Int)=>.leaf y1) (.ite (x.1==23) (.call (k166 n) (x.2.1==x.2.2.1) fun (y2:Int)=>.leaf y2) (.ite (x.1==24) (.ite (x.2.1 != (0:Int)) (.call (k166 n) (x.2.2.1 != (0:Int)) fun (y3:Int)=>.leaf y3) (.call (k166 n) false fun (y4:Int)=>.leaf y4)) (.ite (x.1==25) (.call (k166 n) (x.2.1==0) fun (y5:Int)=>.leaf y5) (.ite (x.1==26) (.ite (x.2.1 != (0:Int)) (.leaf x.2.2.1) (.leaf x.2.2.2)) (.ite (x.1==27) (.leaf (if (0:Int) > (IntKind.i64.wrap (x.2.1 - x.2.2.1)) then (0:Int) else (IntKind.i64.wrap (x.2.1 - x.2.2.1)))) (.ite (x.2.2.1==0) (.leaf (0:Int)) (.need (x.2.2.1 ≠ 0) (.leaf (IntKind.i64.wrap (x.2.1.tdiv x.2.2.1)))))))))))
noncomputable def k173 (n:Nat):Con P_ Ty_:=zd (X:=Yan) (R:=Int) (pro:=[]) (y7k n) 96 y7l (fun x=>.no) [.any,.any,.any,.any] [] [] ⟨[(8,.any)],[]⟩ [] true (fun x=>[I_ x.1,I_ x.2.1,I_ x.2.2.1,I_ x.2.2.2]) (fun x=>[]) (fun y=>([(8,I_ y)],[])) (fun y=>I_ y) (fun y=>[]) (zle n)
end Loom
